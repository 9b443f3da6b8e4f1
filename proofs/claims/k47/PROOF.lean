import PyProof.Rows.All
import Wide.All
import OpenK.AllK
import Wide.FinOn
import KE.KStateDown
import HandS.ForMost
import HandS.Defaults
import HandS.Wide
import HandS.Deep
import HandS.Style
import HandS.TupLe
import HandS.TupAny
import HandS.TupMul
import HandS.Zip
import HandS.Rev
import HandS.Codes
import HandS.IsInst
import HandS.SortOrd
import HandS.SortRule
import HandS.CallSlots
import HandS.HeadEnd
import HandS.HeadHook1
import HandS.HeadHook2
import HandS.TryOnly
import HandS.Small
import KE.GoesEnum
import HandS.More
import HandS.RaiseMore
import HandS.AnyAll
import HandS.TupSets
import KE.SortData
import KE.KDictZip
import HandS.WordsExc
import HandS.Head0
import HandS.Head1
import HandS.Head2
import PySem.Challenge.RW_cheapathand_k47_rules_as_facts_claims_an
set_option Elab.async false
set_option linter.all false
set_option maxRecDepth 100000
set_option maxHeartbeats 0
namespace Ev
open PySem PySem.Spec PyProof.Rows L2

/-! ## 1. Plain data, the heap of things that may change, results -/
/-- a value: what never changes is told whole; ref n: the n-th thing of the heap; fn: a def of the text; scr: a list that is only read -/
inductive D where
  | non | bl (b : Bool) | int (i : Int) | str (x : Str) | tup (xs : List D) | ref (n : Nat) | fn (x : Str) | scr (xs : List D) | ty (n : String)
  deriving Inhabited
/-- a thing of the heap -/
inductive Ob where
  | lst (xs : List D) | dct (kvs : List (D × D)) | ins (c : Str) (fs : List (Str × D)) | set (xs : List D)
  deriving Inhabited
abbrev Hh := List Ob
abbrev Env' := List (Option D)
/-- what an expression comes to -/
inductive Res (α : Type) where
  | ok (a : α) (g : Hh)
  | exc (c : Str) (fs : List (Str × D)) (g : Hh)
  | err

mutual
def D.beq : D → D → Bool
  | .non, .non => true
  | .bl a, .bl b => a == b
  | .int a, .int b => decide (a = b)
  | .str a, .str b => decide (a = b)
  | .tup a, .tup b => D.beqs a b
  | .ref a, .ref b => a == b
  | .fn a, .fn b => decide (a = b)
  | .scr a, .scr b => D.beqs a b
  | .ty a, .ty b => decide (a = b)
  | _, _ => false
def D.beqs : List D → List D → Bool
  | [], [] => true
  | a :: as, b :: bs => D.beq a b && D.beqs as bs
  | _, _ => false
end
mutual
theorem D.beq_ok : ∀ a b : D, D.beq a b = true ↔ a = b
  | .non, b => by cases b <;> simp [D.beq]
  | .bl a, b => by cases b <;> simp [D.beq]
  | .int a, b => by cases b <;> simp [D.beq]
  | .str a, b => by cases b <;> simp [D.beq]
  | .tup a, b => by
    cases b with
    | tup b => simp only [D.beq, D.tup.injEq]; exact D.beqs_ok a b
    | _ => simp [D.beq]
  | .ref a, b => by cases b <;> simp [D.beq]
  | .fn a, b => by cases b <;> simp [D.beq]
  | .scr a, b => by
    cases b with
    | scr b => simp only [D.beq, D.scr.injEq]; exact D.beqs_ok a b
    | _ => simp [D.beq]
  | .ty a, b => by cases b <;> simp [D.beq]
theorem D.beqs_ok : ∀ as bs : List D, D.beqs as bs = true ↔ as = bs
  | [], [] => by simp [D.beqs]
  | [], _ :: _ => by simp [D.beqs]
  | _ :: _, [] => by simp [D.beqs]
  | a :: as, b :: bs => by
    simp only [D.beqs, Bool.and_eq_true, List.cons.injEq]
    rw [D.beq_ok a b, D.beqs_ok as bs]
end
instance : DecidableEq D := fun a b => if h : D.beq a b = true then isTrue ((D.beq_ok a b).mp h) else isFalse fun e => h ((D.beq_ok a b).mpr e)
def Ob.beq : Ob → Ob → Bool
  | .lst a, .lst b => decide (a = b)
  | .dct a, .dct b => decide (a = b)
  | .ins c a, .ins d b => decide (c = d) && decide (a = b)
  | .set a, .set b => decide (a = b)
  | _, _ => false
theorem Ob.beq_ok (a b : Ob) : Ob.beq a b = true ↔ a = b := by
  cases a <;> cases b <;> simp [Ob.beq]
instance : DecidableEq Ob := fun a b => if h : Ob.beq a b = true then isTrue ((Ob.beq_ok a b).mp h) else isFalse fun e => h ((Ob.beq_ok a b).mpr e)

/-! ## 2. How plain data lies in the abstract heap -/
section
variable (K : PySem.W.Frag) (m : List Addr) (H : Hp)
/-- a list that is only read: it is known to the object, or stands in the module -/
def Frl (a : Addr) (vs : List V) : Prop := (∃ o, H a = some (.frz o (.lst vs))) ∨ SqL K (fun _ => none) a vs
mutual
def Rp : D → V → Prop
  | .non, v => v = .non
  | .bl b, v => v = .bl b
  | .int i, v => v = .int i
  | .str x, v => v = .str x
  | .tup ds, v => ∃ a vs, v = .ref a ∧ SqT K H a vs ∧ Rps ds vs
  | .ref n, v => ∃ a, m[n]? = some a ∧ v = .ref a
  | .fn x, v => v = .ref (He.ga K x)
  | .scr ds, v => ∃ a vs, v = .ref a ∧ Frl K H a vs ∧ Rps ds vs
  | .ty n, v => v = .ty n
def Rps : List D → List V → Prop
  | [], vs => vs = []
  | d :: ds, vs => ∃ v r, vs = v :: r ∧ Rp d v ∧ Rps ds r
end
end

/-- what lies further on: more things, every tuple as it was -/
structure Fut (K : PySem.W.Frag) (m : List Addr) (H : Hp) (m' : List Addr) (H' : Hp) : Prop where
  pre : ∃ t, m' = m ++ t
  tup : ∀ a vs, SqT K H a vs → SqT K H' a vs
  frl : ∀ a vs, Frl K H a vs → Frl K H' a vs
section
variable {K : PySem.W.Frag} {m m' m1 m2 : List Addr} {H H' H1 H2 : Hp}
theorem Frl.sql {a : Addr} {vs : List V} (h : Frl K H a vs) : SqL K H a vs := by
  rcases h with ⟨o, h⟩ | (h | ⟨o, h⟩) | h
  · exact .inl (.inr ⟨o, h⟩)
  · cases h
  · cases h
  · exact .inr h
theorem Fut.refl : Fut K m H m H := ⟨⟨[], by simp⟩, fun _ _ h => h, fun _ _ h => h⟩
theorem Fut.trans (a : Fut K m H m1 H1) (b : Fut K m1 H1 m2 H2) : Fut K m H m2 H2 := by
  obtain ⟨t, e⟩ := a.pre
  obtain ⟨u, e'⟩ := b.pre
  exact ⟨⟨t ++ u, by rw [e', e, List.append_assoc]⟩, fun x vs h => b.tup x vs (a.tup x vs h), fun x vs h => b.frl x vs (a.frl x vs h)⟩
theorem Fut.at (f : Fut K m H m' H') {n : Nat} {a : Addr} (h : m[n]? = some a) : m'[n]? = some a := by
  obtain ⟨t, e⟩ := f.pre
  have hn : n < m.length := (List.getElem?_eq_some_iff.mp h).1
  rw [e, List.getElem?_append_left hn]
  exact h
mutual
theorem Rp.fut (f : Fut K m H m' H') : ∀ (d : D) (v : V), Rp K m H d v → Rp K m' H' d v
  | .non, _, h => h
  | .bl _, _, h => h
  | .int _, _, h => h
  | .str _, _, h => h
  | .tup ds, v, h => by
    obtain ⟨a, vs, e, q, r⟩ := h
    exact ⟨a, vs, e, f.tup a vs q, Rps.fut f ds vs r⟩
  | .ref n, v, h => by
    obtain ⟨a, q, e⟩ := h
    exact ⟨a, f.at q, e⟩
  | .fn _, _, h => h
  | .scr ds, v, h => by
    obtain ⟨a, vs, e, q, r⟩ := h
    exact ⟨a, vs, e, f.frl a vs q, Rps.fut f ds vs r⟩
  | .ty _, _, h => h
theorem Rps.fut (f : Fut K m H m' H') : ∀ (ds : List D) (vs : List V), Rps K m H ds vs → Rps K m' H' ds vs
  | [], _, h => h
  | d :: ds, vs, h => by
    obtain ⟨v, r, e, p, q⟩ := h
    exact ⟨v, r, e, Rp.fut f d v p, Rps.fut f ds r q⟩
end
theorem Rps.len : ∀ {ds : List D} {vs : List V}, Rps K m H ds vs → ds.length = vs.length
  | [], _, h => by cases h; rfl
  | d :: ds, _, h => by
    obtain ⟨v, r, rfl, _, q⟩ := h
    simp [Rps.len q]
theorem Rps.nil : Rps K m H [] [] := rfl
theorem Rps.cons {d : D} {ds : List D} {v : V} {vs : List V} (h : Rp K m H d v) (t : Rps K m H ds vs) : Rps K m H (d :: ds) (v :: vs) := ⟨v, vs, rfl, h, t⟩
theorem Rps.get : ∀ {ds : List D} {vs : List V} {i : Nat} {d : D}, Rps K m H ds vs → ds[i]? = some d → ∃ v, vs[i]? = some v ∧ Rp K m H d v
  | [], _, _, _, _, e => by simp at e
  | d :: ds, _, 0, _, h, e => by
    obtain ⟨v, r, rfl, p, _⟩ := h
    simp only [List.getElem?_cons_zero, Option.some.injEq] at e
    subst e
    exact ⟨v, rfl, p⟩
  | d :: ds, _, i + 1, x, h, e => by
    obtain ⟨v, r, rfl, _, q⟩ := h
    obtain ⟨u, e1, e2⟩ := Rps.get (i := i) (d := x) q (by simpa using e)
    exact ⟨u, by simpa using e1, e2⟩
theorem Rps.back : ∀ {ds : List D} {vs : List V} {i : Nat} {v : V}, Rps K m H ds vs → vs[i]? = some v → ∃ d, ds[i]? = some d ∧ Rp K m H d v
  | [], _, _, _, h, e => by cases h; simp at e
  | d :: ds, _, 0, _, h, e => by
    obtain ⟨v, r, rfl, p, _⟩ := h
    simp only [List.getElem?_cons_zero, Option.some.injEq] at e
    subst e
    exact ⟨d, rfl, p⟩
  | d :: ds, _, i + 1, x, h, e => by
    obtain ⟨v, r, rfl, _, q⟩ := h
    obtain ⟨u, e1, e2⟩ := Rps.back (i := i) (v := x) q (by simpa using e)
    exact ⟨u, by simpa using e1, e2⟩
theorem Rps.app : ∀ {ds es : List D} {vs us : List V}, Rps K m H ds vs → Rps K m H es us → Rps K m H (ds ++ es) (vs ++ us)
  | [], _, _, _, h, t => by cases h; exact t
  | d :: ds, _, _, _, h, t => by
    obtain ⟨v, r, rfl, p, q⟩ := h
    exact Rps.cons p (Rps.app q t)
theorem Rps.split : ∀ {ds es : List D} {vs : List V}, Rps K m H (ds ++ es) vs → ∃ a b, vs = a ++ b ∧ Rps K m H ds a ∧ Rps K m H es b
  | [], _, vs, h => ⟨[], vs, rfl, rfl, h⟩
  | d :: ds, _, _, h => by
    obtain ⟨v, r, rfl, p, q⟩ := h
    obtain ⟨a, b, rfl, x, y⟩ := Rps.split q
    exact ⟨v :: a, b, rfl, Rps.cons p x, y⟩
theorem Rps.take : ∀ {ds : List D} {vs : List V} (n : Nat), Rps K m H ds vs → Rps K m H (ds.take n) (vs.take n)
  | _, _, 0, _ => by simp [Rps.nil]
  | [], _, _ + 1, h => by cases h; simp [Rps.nil]
  | d :: ds, _, n + 1, h => by
    obtain ⟨v, r, rfl, p, q⟩ := h
    exact Rps.cons p (Rps.take n q)
theorem Rps.drop : ∀ {ds : List D} {vs : List V} (n : Nat), Rps K m H ds vs → Rps K m H (ds.drop n) (vs.drop n)
  | _, _, 0, h => by simpa using h
  | [], _, _ + 1, h => by cases h; simp [Rps.nil]
  | d :: ds, _, n + 1, h => by
    obtain ⟨v, r, rfl, _, q⟩ := h
    exact Rps.drop n q
theorem Rps.set {d : D} {v : V} (p : Rp K m H d v) : ∀ {ds : List D} {vs : List V} (n : Nat), Rps K m H ds vs → Rps K m H (ds.set n d) (vs.set n v)
  | [], _, _, h => by cases h; simp [Rps.nil]
  | _ :: _, _, 0, h => by
    obtain ⟨u, r, rfl, _, q⟩ := h
    exact Rps.cons p q
  | _ :: _, _, n + 1, h => by
    obtain ⟨u, r, rfl, x, q⟩ := h
    exact Rps.cons x (Rps.set p n q)
theorem Rps.rev {ds : List D} {vs : List V} (h : Rps K m H ds vs) : Rps K m H ds.reverse vs.reverse := by
  induction ds generalizing vs with
  | nil => cases h; exact Rps.nil
  | cons d ds ih =>
    obtain ⟨v, r, rfl, p, q⟩ := h
    rw [List.reverse_cons, List.reverse_cons]
    exact Rps.app (ih q) (Rps.cons p Rps.nil)
theorem Rps.rep {ds : List D} {vs : List V} (h : Rps K m H ds vs) : ∀ k : Nat, Rps K m H (List.replicate k ds).flatten (List.replicate k vs).flatten
  | 0 => Rps.nil
  | k + 1 => by
    rw [List.replicate_succ, List.replicate_succ, List.flatten_cons, List.flatten_cons]
    exact Rps.app h (Rps.rep h k)
theorem Rps.all {R : D → V → Prop} (hR : ∀ d v, Rp K m H d v → R d v) : ∀ {ds : List D} {vs : List V}, Rps K m H ds vs → Paired R ds vs
  | [], _, h => by cases h; exact .nil
  | d :: ds, _, h => by
    obtain ⟨v, r, rfl, p, q⟩ := h
    exact .cons (hR _ _ p) (Rps.all hR q)
end

/-- fields -/
def Rfs (K : PySem.W.Frag) (m : List Addr) (H : Hp) (fs : List (Str × D)) (vs : List (Str × V)) : Prop :=
  fs.map (·.1) = vs.map (·.1) ∧ Rps K m H (fs.map (·.2)) (vs.map (·.2))
/-- keys: ints and texts -/
def keyD : Key → D
  | .inl i => .int i
  | .inr x => .str x
/-- how a thing of the heap lies at an address -/
def ObAt (K : PySem.W.Frag) (m : List Addr) (H : Hp) : Ob → Addr → Prop
  | .lst xs, a => ∃ vs, H a = some (.lst vs) ∧ Rps K m H xs vs
  | .dct kvs, a => ∃ ks : List (Key × V), H a = some (.dK ks) ∧ kvs.map (·.1) = ks.map (fun k => keyD k.1) ∧ Rps K m H (kvs.map (·.2)) (ks.map (·.2)) ∧ (ks.map (·.1)).Nodup
  | .ins c fs, a => ∃ dx vs, H a = some (.ins (He.ga K c) dx vs) ∧ Rfs K m H fs vs
  | .set _, _ => False
structure At (K : PySem.W.Frag) (m : List Addr) (H : Hp) (G : Hh) : Prop where
  len : m.length = G.length
  nd : m.Nodup
  obs : ∀ (i : Nat) (o : Ob), G[i]? = some o → ∃ a, m[i]? = some a ∧ ObAt K m H o a
section
variable {K : PySem.W.Frag} {m m' m1 m2 : List Addr} {H H' H1 H2 : Hp} {G : Hh}
theorem ObAt.some {o : Ob} {a : Addr} (h : ObAt K m H o a) : ∃ u, H a = some u ∧ (∀ xs, u ≠ HO.tup xs) ∧ (∀ o' u', u ≠ HO.frz o' u') := by
  cases o with
  | lst xs => obtain ⟨vs, e, _⟩ := h; exact ⟨_, e, ⟨fun _ z => (nomatch z), fun _ _ z => (nomatch z)⟩⟩
  | dct kvs => obtain ⟨ks, e, _⟩ := h; exact ⟨_, e, ⟨fun _ z => (nomatch z), fun _ _ z => (nomatch z)⟩⟩
  | ins c fs => obtain ⟨dx, vs, e, _⟩ := h; exact ⟨_, e, ⟨fun _ z => (nomatch z), fun _ _ z => (nomatch z)⟩⟩
  | set _ => exact h.elim
theorem ObAt.fut {o : Ob} {a : Addr} (h : ObAt K m H o a) (f : Fut K m H m' H') (e : H' a = H a) : ObAt K m' H' o a := by
  cases o with
  | lst xs => obtain ⟨vs, q, r⟩ := h; exact ⟨vs, e.trans q, Rps.fut f _ _ r⟩
  | dct kvs => obtain ⟨ks, q, r1, r2, r3⟩ := h; exact ⟨ks, e.trans q, r1, Rps.fut f _ _ r2, r3⟩
  | ins c fs => obtain ⟨dx, vs, q, r1, r2⟩ := h; exact ⟨dx, vs, e.trans q, r1, Rps.fut f _ _ r2⟩
  | set _ => exact h
theorem At.of (A : At K m H G) {i : Nat} {o : Ob} (h : G[i]? = some o) {a : Addr} (e : m[i]? = some a) : ObAt K m H o a := by
  obtain ⟨b, e', q⟩ := A.obs i o h
  rw [e] at e'
  cases e'
  exact q
theorem At.fresh (A : At K m H G) {p : Addr} (hp : H p = none) : p ∉ m := fun hm => by
  obtain ⟨i, hi⟩ := List.mem_iff_getElem?.mp hm
  have hl : i < G.length := by
    rw [← A.len]
    exact (List.getElem?_eq_some_iff.mp hi).1
  obtain ⟨a, e, q⟩ := A.obs i G[i] (List.getElem?_eq_getElem hl)
  rw [hi] at e
  cases e
  obtain ⟨u, e2, _⟩ := q.some
  rw [hp] at e2
  cases e2
/-- a new object, no tuple or frozen thing is touched -/
theorem Fut.upd_new {p : Addr} {o : HO} (hp : H p = none) (t : List Addr) : Fut K m H (m ++ t) (upd H p o) := by
  have ne : ∀ a u, H a = some u → a ≠ p := fun a u e z => by rw [z, hp] at e; cases e
  have st : ∀ a vs, SqT K H a vs → SqT K (upd H p o) a vs := fun a vs h => by
    rcases h with (h | ⟨ob, h⟩) | h
    · exact .inl (.inl ((upd_ne (ne _ _ h)).trans h))
    · exact .inl (.inr ⟨ob, (upd_ne (ne _ _ h)).trans h⟩)
    · exact .inr h
  refine ⟨⟨t, rfl⟩, st, fun a vs h => ?_⟩
  rcases h with ⟨ob, h⟩ | h
  · exact .inl ⟨ob, (upd_ne (ne _ _ h)).trans h⟩
  · exact .inr h
theorem At.keep (A : At K m H G) (f : Fut K m H m H') (e : ∀ a ∈ m, H' a = H a) : At K m H' G :=
  ⟨A.len, A.nd, fun i o h => by
    obtain ⟨a, h1, h2⟩ := A.obs i o h
    exact ⟨a, h1, h2.fut f (e a (List.mem_of_getElem? h1))⟩⟩
/-- a new thing that is none of the heap's -/
theorem At.extra (A : At K m H G) {p : Addr} {o : HO} (hp : H p = none) : At K m (upd H p o) G := by
  have f := Fut.upd_new (K := K) (m := m) (o := o) hp []
  rw [List.append_nil] at f
  exact A.keep f fun a ha => upd_ne fun e => A.fresh hp (e ▸ ha)
/-- a new thing of the heap -/
theorem At.push (A : At K m H G) {p : Addr} {u : HO} {o : Ob} (hp : H p = none) (h : ObAt K (m ++ [p]) (upd H p u) o p) : At K (m ++ [p]) (upd H p u) (G ++ [o]) := by
  have f := Fut.upd_new (K := K) (m := m) (o := u) hp [p]
  have hf := A.fresh hp
  refine ⟨by simp [A.len], ?_, fun i x hx => ?_⟩
  · rw [List.nodup_append]
    refine ⟨A.nd, by simp, fun a ha b hb => ?_⟩
    rw [List.mem_singleton] at hb
    rw [hb]
    exact fun e => hf (e ▸ ha)
  · by_cases hi : i < G.length
    · rw [List.getElem?_append_left hi] at hx
      obtain ⟨a, h1, h2⟩ := A.obs i x hx
      exact ⟨a, f.at h1, h2.fut f (upd_ne fun e => hf (e ▸ List.mem_of_getElem? h1))⟩
    · have e : i = G.length := by
        have := (List.getElem?_eq_some_iff.mp hx).1
        simp only [List.length_append, List.length_singleton] at this
        omega
      subst e
      rw [List.getElem?_append_right (Nat.le_refl _)] at hx
      simp only [Nat.sub_self, List.getElem?_cons_zero, Option.some.injEq] at hx
      subst hx
      refine ⟨p, ?_, h⟩
      rw [← A.len, List.getElem?_append_right (Nat.le_refl _)]
      simp
theorem Fut.upd_old {a : Addr} {u u' : HO} (h : H a = some u) (nt : ∀ xs, u ≠ HO.tup xs) (nf : ∀ o' w', u ≠ HO.frz o' w') : Fut K m H m (upd H a u') := by
  refine ⟨⟨[], by simp⟩, fun b vs hb => ?_, fun b vs hb => ?_⟩
  · rcases hb with (hb | ⟨ob, hb⟩) | hb
    · exact .inl (.inl ((upd_ne fun e => nt vs (by rw [e, h] at hb; exact Option.some.inj hb)).trans hb))
    · exact .inl (.inr ⟨ob, (upd_ne fun e => nf ob _ (by rw [e, h] at hb; exact Option.some.inj hb)).trans hb⟩)
    · exact .inr hb
  · rcases hb with ⟨ob, hb⟩ | hb
    · exact .inl ⟨ob, (upd_ne fun e => nf ob _ (by rw [e, h] at hb; exact Option.some.inj hb)).trans hb⟩
    · exact .inr hb
/-- a thing of the heap is changed -/
theorem At.put (A : At K m H G) {i : Nat} {a : Addr} {o o' : Ob} {u : HO} (hG : G[i]? = some o) (ha : m[i]? = some a) (h : ∀ f : Fut K m H m (upd H a u), ObAt K m (upd H a u) o' a) :
    Fut K m H m (upd H a u) ∧ At K m (upd H a u) (G.set i o') := by
  obtain ⟨w, hw, nt, nf⟩ := (A.of hG ha).some
  have f : Fut K m H m (upd H a u) := Fut.upd_old hw nt nf
  refine ⟨f, ⟨by simp [A.len], A.nd, fun j x hx => ?_⟩⟩
  by_cases hj : i = j
  · subst hj
    have hl : i < G.length := (List.getElem?_eq_some_iff.mp hG).1
    rw [List.getElem?_set_self hl] at hx
    cases hx
    exact ⟨a, ha, h f⟩
  · rw [List.getElem?_set_ne hj] at hx
    obtain ⟨b, h1, h2⟩ := A.obs j x hx
    refine ⟨b, h1, h2.fut f (upd_ne fun e => ?_)⟩
    subst e
    have l1 := (List.getElem?_eq_some_iff.mp h1).1
    exact hj ((List.getElem?_inj (List.getElem?_eq_some_iff.mp ha).1 A.nd).mp (ha.trans h1.symm))
end
end Ev

namespace Ev
open PySem PySem.Spec PyProof.Rows L2

/-! ## 3. What is wanted behind a result -/
def ExcP (K : PySem.W.Frag) (W : WX) (m : List Addr) (H : Hp) (σ : L2.St) (c : Str) (fs : List (Str × D)) (g : Hh) : Prop :=
  ∀ m' H' d vs, Fut K m H m' H' → At K m' H' g → ((fs = [] ∧ d = none) ∨ ∃ a, d = some a ∧ H' a = some (.xd vs) ∧ Rfs K m' H' fs vs) → W (.ref (He.ga K c)) d σ H'
def PostR {α β : Type} (R : List Addr → Hp → α → β → Prop) (K : PySem.W.Frag) (W : WX) (m : List Addr) (H : Hp) (σ : L2.St) (Q : β → Hp → Prop) : Res α → Prop
  | .ok a g => ∀ m' H' b, Fut K m H m' H' → At K m' H' g → R m' H' a b → Q b H'
  | .exc c fs g => ExcP K W m H σ c fs g
  | .err => False
/-- the same of what raises nothing -/
def PostO (K : PySem.W.Frag) (m : List Addr) (H : Hp) (Q : VK) : Option (D × Hh) → Prop
  | some (d, g) => ∀ m' H' v, Fut K m H m' H' → At K m' H' g → Rp K m' H' d v → Q v H'
  | none => False
def Res.bind {α β : Type} (x : Res α) (f : α → Hh → Res β) : Res β := match x with
  | .ok a g => f a g
  | .exc c fs g => .exc c fs g
  | .err => .err
def Res.of : Option (D × Hh) → Res D
  | some (d, g) => .ok d g
  | none => .err
section
variable {α β γ δ : Type} {K : PySem.W.Frag} {W : WX} {m m1 : List Addr} {H H1 : Hp} {σ : L2.St} {R : List Addr → Hp → α → β → Prop} {R' : List Addr → Hp → γ → δ → Prop} {Q : β → Hp → Prop} {Q' : δ → Hp → Prop} {G : Hh}
theorem ExcP.fut {c : Str} {fs : List (Str × D)} {g : Hh} (f : Fut K m H m1 H1) (h : ExcP K W m H σ c fs g) : ExcP K W m1 H1 σ c fs g := fun m' H' d vs f' a e => h m' H' d vs (f.trans f') a e
theorem PostR.fut {x : Res α} (f : Fut K m H m1 H1) (h : PostR R K W m H σ Q x) : PostR R K W m1 H1 σ Q x := by
  cases x with
  | ok a g => exact fun m' H' b f' q r => h m' H' b (f.trans f') q r
  | exc c fs g => exact ExcP.fut f h
  | err => exact h
theorem PostO.fut {Q : VK} {x : Option (D × Hh)} (f : Fut K m H m1 H1) (h : PostO K m H Q x) : PostO K m1 H1 Q x := by
  match x, h with
  | some (d, g), h => exact fun m' H' b f' q r => h m' H' b (f.trans f') q r
theorem PostR.step {x : Res γ} {k : γ → Hh → Res α} (h : PostR R K W m H σ Q (x.bind k))
    (n : ∀ a g m1 H1 b, Fut K m H m1 H1 → At K m1 H1 g → R' m1 H1 a b → PostR R K W m1 H1 σ Q (k a g) → Q' b H1) : PostR R' K W m H σ Q' x := by
  cases x with
  | ok a g => exact fun m1 H1 b f q r => n a g m1 H1 b f q r (PostR.fut f h)
  | exc c fs g => exact h
  | err => exact h
theorem PostR.of {Q : VK} {x : Option (D × Hh)} : PostR (Rp K) K W m H σ Q (Res.of x) ↔ PostO K m H Q x := by
  cases x with
  | none => exact Iff.rfl
  | some p => exact Iff.rfl
/-! the ends of PostO -/
theorem PostO.same {Q : VK} {d : D} {v : V} (h : PostO K m H Q (some (d, G))) (a : At K m H G) (r : Rp K m H d v) : Q v H := h m H v Fut.refl a r
theorem PostO.tup {Q : VK} {ds : List D} {vs : List V} (h : PostO K m H Q (some (.tup ds, G))) (a : At K m H G) (r : Rps K m H ds vs) {p : Addr} (hp : H p = none) : Q (.ref p) (upd H p (.tup vs)) := by
  have f := Fut.upd_new (K := K) (m := m) (o := HO.tup vs) hp []
  rw [List.append_nil] at f
  exact h m _ _ f (a.extra hp) ⟨p, vs, rfl, .of upd_same, Rps.fut f _ _ r⟩
theorem PostO.lst {Q : VK} {ds : List D} {vs : List V} (h : PostO K m H Q (some (.ref G.length, G ++ [.lst ds]))) (a : At K m H G) (r : Rps K m H ds vs) {p : Addr} (hp : H p = none) : Q (.ref p) (upd H p (.lst vs)) := by
  have f := Fut.upd_new (K := K) (m := m) (o := HO.lst vs) hp [p]
  refine h (m ++ [p]) _ _ f (a.push hp ⟨vs, upd_same, Rps.fut f _ _ r⟩) ⟨p, ?_, rfl⟩
  rw [← a.len, List.getElem?_append_right (Nat.le_refl _)]
  simp
end

/-- slots -/
def Sl (K : PySem.W.Frag) (m : List Addr) (H : Hp) (ρ : Env') (σ : L2.St) : Prop :=
  ρ.length = σ.length ∧ ∀ (i : Nat) (d : D), ρ[i]? = some (some d) → ∃ v, σ[i]? = some (some v) ∧ Rp K m H d v
section
variable {K : PySem.W.Frag} {m m1 : List Addr} {H H1 : Hp} {σ : L2.St} {ρ : Env'}
theorem Sl.fut (f : Fut K m H m1 H1) (h : Sl K m H ρ σ) : Sl K m1 H1 ρ σ := ⟨h.1, fun i d e => let ⟨v, e1, r⟩ := h.2 i d e; ⟨v, e1, Rp.fut f d v r⟩⟩
theorem Sl.put {i : Nat} {d : D} {v : V} (h : Sl K m H ρ σ) (r : Rp K m H d v) : Sl K m H (ρ.set i (some d)) (σ.set i (some v)) := by
  refine ⟨by simp [h.1], fun j e he => ?_⟩
  by_cases hj : i = j
  · subst hj
    by_cases hl : i < ρ.length
    · rw [List.getElem?_set_self hl] at he
      cases he
      exact ⟨v, List.getElem?_set_self (by rw [← h.1]; exact hl), r⟩
    · rw [List.getElem?_eq_none (by simpa using hl)] at he
      cases he
  · rw [List.getElem?_set_ne hj] at he ⊢
    exact h.2 j e he
end

/-! ## 4. Readings of the layer, from what combinators reckon -/
/-- how a call of a def of the text ends: given by the table of all defs, one level lower -/
abbrev Cal := Str → List D → Hh → Res D
abbrev Exp := Cal → Env' → Hh → Res D
abbrev Tst := Cal → Env' → Hh → Res Bool
abbrev Arg := Cal → Env' → Hh → Res (List D)
def RB : List Addr → Hp → Bool → Bool → Prop := fun _ _ a b => a = b
def LE (K : PySem.W.Frag) (W : WX) (r : Env' → Hh → Res D) : TE := fun σ H Q => ∃ ρ G m, Sl K m H ρ σ ∧ At K m H G ∧ PostR (Rp K) K W m H σ Q (r ρ G)
def LT (K : PySem.W.Frag) (W : WX) (r : Env' → Hh → Res Bool) : TT := fun σ H Q => ∃ ρ G m, Sl K m H ρ σ ∧ At K m H G ∧ PostR RB K W m H σ Q (r ρ G)
def LA (K : PySem.W.Frag) (W : WX) (r : Env' → Hh → Res (List D)) : TA := fun σ H Q => ∃ ρ G m, Sl K m H ρ σ ∧ At K m H G ∧ PostR (Rps K) K W m H σ Q (r ρ G)
section
variable {X : Cx} {e : Expr} {es : List Expr}
theorem pe_imp {t t' : TE} (h : PE X e t) (i : ∀ σ H Q, t' σ H Q → t σ H Q) : PE X e t' := ⟨fun pins s σ H Q I q => h.run pins s σ H Q I (i _ _ _ q)⟩
theorem pt_imp {t t' : TT} (h : PT X e t) (i : ∀ σ H Q, t' σ H Q → t σ H Q) : PT X e t' := ⟨fun pins s σ H Q I q => h.run pins s σ H Q I (i _ _ _ q)⟩
theorem pw_imp {t t' : TT} (h : PW X e t) (i : ∀ σ H Q, t' σ H Q → t σ H Q) : PW X e t' := ⟨fun w pins s σ H Q I q => h.run w pins s σ H Q I (i _ _ _ q)⟩
theorem pa_imp {t t' : TA} (h : PA X es t) (i : ∀ σ H Q, t' σ H Q → t σ H Q) : PA X es t' := ⟨fun p pins s σ H Q I q => h.run p pins s σ H Q I (i _ _ _ q)⟩
theorem ps_imp {st : Stmt} {t t' : TS} (h : PS X st t) (i : ∀ D σ H, t' D σ H → t D σ H) : PS X st t' := ⟨fun pins s σ H D I q => h.run pins s σ H D I (i _ _ _ q)⟩
theorem pss_imp {st : List Stmt} {t t' : TS} (h : PSs X st t) (i : ∀ D σ H, t' D σ H → t D σ H) : PSs X st t' := ⟨fun pins s σ H D I q => h.run pins s σ H D I (i _ _ _ q)⟩
end

/-! ### expressions: combinators -/
def eVar (i : Nat) : Exp := fun _ ρ g => match ρ[i]? with
  | some (some d) => .ok d g
  | _ => .err
def eC (d : D) : Exp := fun _ _ g => .ok d g
/-- two operands, an operation that raises nothing -/
def eOp (op : D → D → Hh → Option (D × Hh)) (a b : Exp) : Exp := fun c ρ g => (a c ρ g).bind fun x g => (b c ρ g).bind fun y g => Res.of (op x y g)
def eUn (op : D → Hh → Option (D × Hh)) (a : Exp) : Exp := fun c ρ g => (a c ρ g).bind fun x g => Res.of (op x g)
def eIf (t : Tst) (a b : Exp) : Exp := fun c ρ g => (t c ρ g).bind fun k g => if k = true then a c ρ g else b c ρ g
def aNil : Arg := fun _ _ g => .ok [] g
def aCons (a : Exp) (r : Arg) : Arg := fun c ρ g => (a c ρ g).bind fun x g => (r c ρ g).bind fun xs g => .ok (x :: xs) g
def newTup (xs : List D) (g : Hh) : Option (D × Hh) := if xs.length ≤ sizeLine then some (.tup xs, g) else none
def newLst (xs : List D) (g : Hh) : Option (D × Hh) := if xs.length ≤ sizeLine then some (.ref g.length, g ++ [.lst xs]) else none
def eTup (r : Arg) : Exp := fun c ρ g => (r c ρ g).bind fun xs g => Res.of (newTup xs g)
def eLst (r : Arg) : Exp := fun c ρ g => (r c ρ g).bind fun xs g => Res.of (newLst xs g)
/-! tests -/
def tAndE (a b : Tst) : Tst := fun c ρ g => (a c ρ g).bind fun k g => if k = true then b c ρ g else .ok false g
def tOrE (a b : Tst) : Tst := fun c ρ g => (a c ρ g).bind fun k g => if k = true then .ok true g else b c ρ g
def tNotE (a : Tst) : Tst := fun c ρ g => (a c ρ g).bind fun k g => .ok (!k) g
/-- a comparison gives a truth value -/
def tVal (a : Exp) : Tst := fun c ρ g => (a c ρ g).bind fun x g => match x with
  | .bl k => .ok k g
  | _ => .err
def truD (g : Hh) : D → Option Bool
  | .non => some false
  | .bl b => some b
  | .int i => some (i != 0)
  | .str x => if x.length ≤ sizeLine then some ((x.length : Int) != 0) else none
  | .tup xs => some (!xs.isEmpty)
  | .ref n => match g[n]? with
    | some (.lst xs) => some (!xs.isEmpty)
    | some (.dct kvs) => some (!kvs.isEmpty)
    | _ => none
  | .scr xs => some (!xs.isEmpty)
  | .fn _ => none
  | .ty _ => none
def tTru (a : Exp) : Tst := fun c ρ g => (a c ρ g).bind fun x g => match truD g x with
  | some k => .ok k g
  | none => .err
/-- and, or as values -/
def eAnd (a b : Exp) : Exp := fun c ρ g => (a c ρ g).bind fun x g => match x with
  | .bl k => if k = true then b c ρ g else .ok (.bl false) g
  | _ => .err
def eOr (a b : Exp) : Exp := fun c ρ g => (a c ρ g).bind fun x g => match x with
  | .bl k => if k = true then .ok (.bl true) g else b c ρ g
  | _ => .err
def eNot (a : Exp) : Exp := fun c ρ g => (a c ρ g).bind fun x g => match x with
  | .bl k => .ok (.bl (!k)) g
  | _ => .err
def eChain (op op' : D → D → Hh → Option (D × Hh)) (a b d : Exp) : Exp := fun c ρ g => (a c ρ g).bind fun x g => (b c ρ g).bind fun y g => (Res.of (op x y g)).bind fun z g => match z with
  | .bl k => if k = true then (d c ρ g).bind fun w g => Res.of (op' y w g) else .ok (.bl false) g
  | _ => .err

/-- an operation by values is what the layer's rules say -/
def rO (K : PySem.W.Frag) (op : D → D → Hh → Option (D × Hh)) : R2 := fun v u H Q => ∃ m G x y, At K m H G ∧ Rp K m H x v ∧ Rp K m H y u ∧ PostO K m H Q (op x y G)
def rU1 (K : PySem.W.Frag) (op : D → Hh → Option (D × Hh)) : V → Hp → VK → Prop := fun v H Q => ∃ m G x, At K m H G ∧ Rp K m H x v ∧ PostO K m H Q (op x G)

section
variable {X : Cx} {W : WX} {c : Cal} {a b d e : Expr} {es : List Expr} {ra rb rd : Exp} {rs : Arg} {ta tb : Tst} {pos : Pos}
abbrev SE (X : Cx) (W : WX) (c : Cal) (e : Expr) (r : Exp) : Prop := PE X e (LE X.K W (r c))
abbrev ST (X : Cx) (W : WX) (c : Cal) (e : Expr) (r : Tst) : Prop := PT X e (LT X.K W (r c))
abbrev SW (X : Cx) (W : WX) (c : Cal) (e : Expr) (r : Tst) : Prop := PW X e (LT X.K W (r c))
abbrev SA (X : Cx) (W : WX) (c : Cal) (es : List Expr) (r : Arg) : Prop := PA X es (LA X.K W (r c))

theorem se_var {i : Nat} {x : Str} (hN : X.N[i]? = some x) (hv : Vis X.env.scope x) (hd : (x == ("__debug__" : Str)) = false) (hcd : (x == ("__classdict__" : Str)) = false) : SE X W c (.Name x pos) (eVar i) := by
  refine pe_imp (pe_var hN hv hd hcd) fun σ H Q h => ?_
  obtain ⟨ρ, G, m, s, at', P⟩ := h
  unfold eVar at P
  cases e : ρ[i]? with
  | none => rw [e] at P; exact P.elim
  | some o =>
    cases o with
    | none => rw [e] at P; exact P.elim
    | some d =>
      rw [e] at P
      obtain ⟨v, e1, r⟩ := s.2 i d e
      exact ⟨v, e1, P m H v Fut.refl at' r⟩
theorem se_const {v : V} {dv : D} (h : PE X e (tC v)) (r : ∀ m H, Rp X.K m H dv v) : SE X W c e (eC dv) := by
  refine pe_imp h fun σ H Q h => ?_
  obtain ⟨ρ, G, m, s, at', P⟩ := h
  exact P m H v Fut.refl at' (r m H)
theorem le_bin {op : D → D → Hh → Option (D × Hh)} {σ : L2.St} {H : Hp} {Q : VK} (h : LE X.K W (eOp op ra rb c) σ H Q) : tOp (rO X.K op) (LE X.K W (ra c)) (LE X.K W (rb c)) σ H Q := by
  obtain ⟨ρ, G, m, s, at', P⟩ := h
  refine ⟨ρ, G, m, s, at', PostR.step P fun x g m1 H1 v f1 a1 r1 P1 => ?_⟩
  refine ⟨ρ, g, m1, s.fut f1, a1, PostR.step P1 fun y g2 m2 H2 u f2 a2 r2 P2 => ?_⟩
  exact ⟨m2, g2, x, y, a2, Rp.fut f2 _ _ r1, r2, PostR.of.mp P2⟩
theorem se_op {op : Operator} {dop : D → D → Hh → Option (D × Hh)} (ho : OpR X (binaryOp op) (rO X.K dop)) (ha : SE X W c a ra) (hb : SE X W c b rb) : SE X W c (.BinOp a op b pos) (eOp dop ra rb) :=
  pe_imp (pe_op ho ha hb) fun _ _ _ h => le_bin h
theorem se_cmp {op : CmpOp} {dop : D → D → Hh → Option (D × Hh)} (ho : OpR X (compareOp op) (rO X.K dop)) (ha : SE X W c a ra) (hb : SE X W c b rb) (hm : behindInMarks op b = false) : SE X W c (.Compare a [op] [b] pos) (eOp dop ra rb) :=
  pe_imp (pe_cmpR ho ha hb hm) fun _ _ _ h => le_bin h
theorem st_cmp {op : CmpOp} {dop : D → D → Hh → Option (D × Hh)} (ho : OpR X (compareOp op) (rO X.K dop)) (ha : SE X W c a ra) (hb : SE X W c b rb) (hm : behindInMarks op b = false) : ST X W c (.Compare a [op] [b] pos) (tVal (eOp dop ra rb)) := by
  refine pt_imp (pt_cmpR ho ha hb hm) fun σ H Q h => ?_
  obtain ⟨ρ, G, m, s, at', P⟩ := h
  refine le_bin ⟨ρ, G, m, s, at', PostR.step P fun x g m1 H1 v f1 a1 r1 P1 => ?_⟩
  cases x with
  | bl k => exact ⟨k, r1, P1 m1 H1 k Fut.refl a1 rfl⟩
  | _ => exact P1.elim
theorem le_chain {op op' : D → D → Hh → Option (D × Hh)} {σ : L2.St} {H : Hp} {Q : VK} (h : LE X.K W (eChain op op' ra rb rd c) σ H Q) : tChain (rO X.K op) (rO X.K op') (LE X.K W (ra c)) (LE X.K W (rb c)) (LE X.K W (rd c)) σ H Q := by
  obtain ⟨ρ, G, m, s, at', P⟩ := h
  refine ⟨ρ, G, m, s, at', PostR.step P fun x g m1 H1 v f1 a1 r1 P1 => ?_⟩
  refine ⟨ρ, g, m1, s.fut f1, a1, PostR.step P1 fun y g2 m2 H2 u f2 a2 r2 P2 => ?_⟩
  refine ⟨m2, g2, x, y, a2, Rp.fut f2 _ _ r1, r2, PostR.of (W := W) (σ := σ) |>.mp (PostR.step P2 fun z g3 m3 H3 w f3 a3 r3 P3 => ?_)⟩
  cases z with
  | bl k =>
    refine ⟨k, r3, ?_⟩
    dsimp only at P3
    cases k with
    | true =>
      rw [if_pos rfl] at P3 ⊢
      refine ⟨ρ, g3, m3, s.fut (f1.trans (f2.trans f3)), a3, PostR.step P3 fun q g4 m4 H4 w' f4 a4 r4 P4 => ?_⟩
      exact ⟨m4, g4, y, q, a4, Rp.fut (f3.trans f4) _ _ r2, r4, PostR.of.mp P4⟩
    | false =>
      rw [if_neg Bool.false_ne_true] at P3 ⊢
      exact P3 m3 H3 _ Fut.refl a3 rfl
  | _ => exact P3.elim
theorem se_chain {op op' : CmpOp} {dop dop' : D → D → Hh → Option (D × Hh)} (ho : OpR X (compareOp op) (rO X.K dop)) (ho' : OpR X (compareOp op') (rO X.K dop')) (ha : SE X W c a ra) (hb : SE X W c b rb) (hd : SE X W c d rd)
    (hm : lastMarks [op, op'] [b, d] = false) : SE X W c (.Compare a [op, op'] [b, d] pos) (eChain dop dop' ra rb rd) :=
  pe_imp (pe_chain ho ho' ha hb hd hm) fun _ _ _ h => le_chain h
theorem se_un {op : UnaryOp} {dop : D → Hh → Option (D × Hh)} (ho : UnR X (unaryOp op) (rU1 X.K dop)) (ha : SE X W c a ra) : SE X W c (.UnaryOp op a pos) (eUn dop ra) := by
  refine pe_imp (pe_un ho ha) fun σ H Q h => ?_
  obtain ⟨ρ, G, m, s, at', P⟩ := h
  exact ⟨ρ, G, m, s, at', PostR.step P fun x g m1 H1 v f1 a1 r1 P1 => ⟨m1, g, x, a1, r1, PostR.of.mp P1⟩⟩
theorem se_if {t : Expr} {tt : Tst} (ht : ST X W c t tt) (ha : SE X W c a ra) (hb : SE X W c b rb) : SE X W c (.IfExp t a b pos) (eIf tt ra rb) := by
  refine pe_imp (pe_ifExp ht ha hb) fun σ H Q h => ?_
  obtain ⟨ρ, G, m, s, at', P⟩ := h
  refine ⟨ρ, G, m, s, at', PostR.step P fun k g m1 H1 k' f1 a1 r1 P1 => ?_⟩
  have r1 : k = k' := r1
  subst r1
  cases k with
  | true =>
    rw [if_pos rfl] at P1 ⊢
    exact ⟨ρ, g, m1, s.fut f1, a1, P1⟩
  | false =>
    rw [if_neg Bool.false_ne_true] at P1 ⊢
    exact ⟨ρ, g, m1, s.fut f1, a1, P1⟩
theorem sa_nil : SA X W c [] aNil := by
  refine pa_imp pa_nil fun σ H Q h => ?_
  obtain ⟨ρ, G, m, s, at', P⟩ := h
  exact P m H [] Fut.refl at' rfl
theorem sa_cons (ha : SE X W c e ra) (hr : SA X W c es rs) (hs : starEach (e :: es) X.env = (false, eval e X.env) :: starEach es X.env) : SA X W c (e :: es) (aCons ra rs) := by
  refine pa_imp (pa_cons ha hr hs) fun σ H Q h => ?_
  obtain ⟨ρ, G, m, s, at', P⟩ := h
  refine ⟨ρ, G, m, s, at', PostR.step P fun x g m1 H1 v f1 a1 r1 P1 => ?_⟩
  refine ⟨ρ, g, m1, s.fut f1, a1, PostR.step P1 fun xs g2 m2 H2 us f2 a2 r2 P2 => ?_⟩
  exact P2 m2 H2 _ Fut.refl a2 (Rps.cons (Rp.fut f2 _ _ r1) r2)
theorem se_tup {k : Nat} (h : SA X W c es rs) : SE X W c (.Tuple es k pos) (eTup rs) := by
  refine pe_imp (pe_tup h) fun σ H Q h => ?_
  obtain ⟨ρ, G, m, s, at', P⟩ := h
  refine ⟨ρ, G, m, s, at', PostR.step P fun xs g m1 H1 vs f1 a1 r1 P1 => ?_⟩
  unfold newTup at P1
  split at P1
  · rename_i hl
    exact ⟨by rw [← Rps.len r1]; exact hl, fun p hp => PostO.tup (PostR.of.mp P1) a1 r1 hp⟩
  · exact P1.elim
theorem se_lst (h : SA X W c es rs) : SE X W c (.List es pos) (eLst rs) := by
  refine pe_imp (pe_lst h) fun σ H Q h => ?_
  obtain ⟨ρ, G, m, s, at', P⟩ := h
  refine ⟨ρ, G, m, s, at', PostR.step P fun xs g m1 H1 vs f1 a1 r1 P1 => ?_⟩
  unfold newLst at P1
  split at P1
  · rename_i hl
    exact ⟨by rw [← Rps.len r1]; exact hl, fun p hp => PostO.lst (PostR.of.mp P1) a1 r1 hp⟩
  · exact P1.elim
/-! tests -/
theorem sw_and1 (ha : ST X W c a ta) : SW X W c (.BoolOp .And [a] pos) ta := pw_and1 ha
theorem sw_or1 (ha : ST X W c a ta) : SW X W c (.BoolOp .Or [a] pos) ta := pw_or1 ha
theorem sw_and (ha : ST X W c a ta) (hb : SW X W c (.BoolOp .And (b :: es) pos) tb) : SW X W c (.BoolOp .And (a :: b :: es) pos) (tAndE ta tb) := by
  refine pw_imp (pw_and ha hb) fun σ H Q h => ?_
  obtain ⟨ρ, G, m, s, at', P⟩ := h
  refine ⟨ρ, G, m, s, at', PostR.step P fun k g m1 H1 k' f1 a1 r1 P1 => ?_⟩
  have r1 : k = k' := r1
  subst r1
  cases k with
  | true =>
    rw [if_pos rfl] at P1 ⊢
    exact ⟨ρ, g, m1, s.fut f1, a1, P1⟩
  | false =>
    rw [if_neg Bool.false_ne_true] at P1 ⊢
    exact P1 m1 H1 _ Fut.refl a1 rfl
theorem sw_or (ha : ST X W c a ta) (hb : SW X W c (.BoolOp .Or (b :: es) pos) tb) : SW X W c (.BoolOp .Or (a :: b :: es) pos) (tOrE ta tb) := by
  refine pw_imp (pw_or ha hb) fun σ H Q h => ?_
  obtain ⟨ρ, G, m, s, at', P⟩ := h
  refine ⟨ρ, G, m, s, at', PostR.step P fun k g m1 H1 k' f1 a1 r1 P1 => ?_⟩
  have r1 : k = k' := r1
  subst r1
  cases k with
  | true =>
    rw [if_pos rfl] at P1 ⊢
    exact P1 m1 H1 _ Fut.refl a1 rfl
  | false =>
    rw [if_neg Bool.false_ne_true] at P1 ⊢
    exact ⟨ρ, g, m1, s.fut f1, a1, P1⟩
theorem st_w (h : SW X W c a ta) : ST X W c a ta := PW.pt h
theorem st_not (ha : ST X W c a ta) : ST X W c (.UnaryOp .Not a pos) (tNotE ta) := by
  refine pt_imp (pt_not ha) fun σ H Q h => ?_
  obtain ⟨ρ, G, m, s, at', P⟩ := h
  refine ⟨ρ, G, m, s, at', PostR.step P fun k g m1 H1 k' f1 a1 r1 P1 => ?_⟩
  have r1 : k = k' := r1
  subst r1
  exact P1 m1 H1 _ Fut.refl a1 rfl
theorem truV_of {K : PySem.W.Frag} {m : List Addr} {H : Hp} {g : Hh} {x : D} {v : V} {k : Bool} (A : At K m H g) (r : Rp K m H x v) (h : truD g x = some k) : TruV K v H k := by
  have emp : ∀ {ds : List D} {vs : List V}, Rps K m H ds vs → (!ds.isEmpty) = !vs.isEmpty := fun {ds vs} q => by
    cases ds with
    | nil => cases q; rfl
    | cons d ds => obtain ⟨_, _, rfl, _⟩ := q; rfl
  cases x with
  | non => obtain rfl : v = .non := r; cases h; rfl
  | bl b => obtain rfl : v = .bl b := r; cases h; rfl
  | int i => obtain rfl : v = .int i := r; cases h; rfl
  | str y =>
    obtain rfl : v = .str y := r
    simp only [truD] at h
    split at h
    · rename_i hl
      cases h
      exact ⟨hl, rfl⟩
    · cases h
  | tup xs =>
    obtain ⟨p, vs, rfl, q, r⟩ := r
    cases h
    exact .inr (.inl ⟨vs, q, emp r⟩)
  | ref n =>
    obtain ⟨p, hp, rfl⟩ := r
    simp only [truD] at h
    cases e : g[n]? with
    | none => simp only [e] at h; cases h
    | some o =>
      have q := A.of e hp
      cases o with
      | lst xs =>
        simp only [e] at h
        cases h
        obtain ⟨vs, q1, q2⟩ := q
        exact .inl ⟨vs, .of q1, emp q2⟩
      | dct kvs =>
        simp only [e] at h
        cases h
        obtain ⟨ks, q1, q2, _⟩ := q
        refine .inr (.inr ⟨ks, q1, ?_⟩)
        cases kvs with
        | nil => cases ks with
          | nil => rfl
          | cons _ _ => cases q2
        | cons _ _ => cases ks with
          | nil => cases q2
          | cons _ _ => rfl
      | ins _ _ => simp only [e] at h; cases h
      | set _ => simp only [e] at h; cases h
  | fn _ => cases h
  | ty _ => cases h
  | scr xs =>
    obtain ⟨p, vs, rfl, q, r⟩ := r
    cases h
    exact .inl ⟨vs, q.sql, emp r⟩
theorem st_tru (ha : SE X W c a ra) (he : ∀ whole, isTrue a X.env whole = (do let v ← whole; standAt a.pos; holding [v] (truthy v))) : ST X W c a (tTru ra) := by
  refine pt_imp (pt_truth ha he) fun σ H Q h => ?_
  obtain ⟨ρ, G, m, s, at', P⟩ := h
  refine ⟨ρ, G, m, s, at', PostR.step P fun x g m1 H1 v f1 a1 r1 P1 => ?_⟩
  cases e : truD g x with
  | none => simp only [e] at P1; exact P1.elim
  | some k =>
    simp only [e] at P1
    exact ⟨k, truV_of a1 r1 e, P1 m1 H1 k Fut.refl a1 rfl⟩
/-! and, or, not as values -/
theorem se_and1 (ha : SE X W c a ra) {op : BoolOp} : SE X W c (.BoolOp op [a] pos) ra := pe_one ha
theorem se_and (ha : SE X W c a ra) (hb : SE X W c (.BoolOp .And (b :: es) pos) rb) : SE X W c (.BoolOp .And (a :: b :: es) pos) (eAnd ra rb) := by
  refine pe_imp (pe_and ha hb) fun σ H Q h => ?_
  obtain ⟨ρ, G, m, s, at', P⟩ := h
  refine ⟨ρ, G, m, s, at', PostR.step P fun x g m1 H1 v f1 a1 r1 P1 => ?_⟩
  cases x with
  | bl k =>
    refine ⟨k, r1, ?_⟩
    dsimp only at P1
    cases k with
    | true =>
      rw [if_pos rfl] at P1 ⊢
      exact ⟨ρ, g, m1, s.fut f1, a1, P1⟩
    | false =>
      rw [if_neg Bool.false_ne_true] at P1 ⊢
      exact P1 m1 H1 _ Fut.refl a1 rfl
  | _ => exact P1.elim
theorem se_or (ha : SE X W c a ra) (hb : SE X W c (.BoolOp .Or (b :: es) pos) rb) : SE X W c (.BoolOp .Or (a :: b :: es) pos) (eOr ra rb) := by
  refine pe_imp (pe_or ha hb) fun σ H Q h => ?_
  obtain ⟨ρ, G, m, s, at', P⟩ := h
  refine ⟨ρ, G, m, s, at', PostR.step P fun x g m1 H1 v f1 a1 r1 P1 => ?_⟩
  cases x with
  | bl k =>
    refine ⟨k, r1, ?_⟩
    dsimp only at P1
    cases k with
    | true =>
      rw [if_pos rfl] at P1 ⊢
      exact P1 m1 H1 _ Fut.refl a1 rfl
    | false =>
      rw [if_neg Bool.false_ne_true] at P1 ⊢
      exact ⟨ρ, g, m1, s.fut f1, a1, P1⟩
  | _ => exact P1.elim
theorem se_not (ha : SE X W c a ra) : SE X W c (.UnaryOp .Not a pos) (eNot ra) := by
  refine pe_imp (pe_not ha) fun σ H Q h => ?_
  obtain ⟨ρ, G, m, s, at', P⟩ := h
  refine ⟨ρ, G, m, s, at', PostR.step P fun x g m1 H1 v f1 a1 r1 P1 => ?_⟩
  cases x with
  | bl k => exact ⟨k, r1, P1 m1 H1 _ Fut.refl a1 rfl⟩
  | _ => exact P1.elim
end
end Ev

namespace Ev
open PySem PySem.Spec PyProof.Rows L2

/-! ## 5. Operations by values -/
def dAdd (x y : D) (g : Hh) : Option (D × Hh) := match x, y with
  | .int i, .int j => some (.int (i + j), g)
  | .str a, .str b => if a.length + b.length ≤ sizeLine then some (.str (a ++ b), g) else none
  | .tup a, .tup b => if a.length + b.length ≤ sizeLine then some (.tup (a ++ b), g) else none
  | .ref a, .ref b => match g[a]?, g[b]? with
    | some (.lst xs), some (.lst ys) => if xs.length + ys.length ≤ sizeLine then some (.ref g.length, g ++ [.lst (xs ++ ys)]) else none
    | _, _ => none
  | _, _ => none
def dSub (x y : D) (g : Hh) : Option (D × Hh) := match x, y with
  | .int i, .int j => some (.int (i - j), g)
  | _, _ => none
def dMul (x y : D) (g : Hh) : Option (D × Hh) := match x, y with
  | .int i, .int j => if i.natAbs.log2 + j.natAbs.log2 < 1000000 then some (.int (i * j), g) else none
  | .ref a, .int k => match g[a]? with
    | some (.lst xs) => if -(2 ^ 63) ≤ k ∧ k < 2 ^ 63 ∧ xs.length * k.toNat ≤ sizeLine then some (.ref g.length, g ++ [.lst (List.replicate k.toNat xs).flatten]) else none
    | _ => none
  | .tup a, .int k => if k = 1 then some (.tup a, g) else if 2 ≤ k ∧ k ≤ 1000 ∧ a ≠ [] ∧ a.length ≤ 1000 then some (.tup (List.replicate k.toNat a).flatten, g) else none
  | _, _ => none
def dDiv (x y : D) (g : Hh) : Option (D × Hh) := match x, y with
  | .int i, .int j => if j ≠ 0 ∧ j.natAbs.log2 < 9000 then some (.int (i.fdiv j), g) else none
  | _, _ => none
def dMod (x y : D) (g : Hh) : Option (D × Hh) := match x, y with
  | .int i, .int j => if j ≠ 0 then some (.int (i.fmod j), g) else none
  | _, _ => none
def dPow (x y : D) (g : Hh) : Option (D × Hh) := match x, y with
  | .int i, .int j => if 0 ≤ j ∧ j ≤ 1000000 ∧ i.natAbs < 2 ^ 64 then some (.int (i ^ j.toNat), g) else none
  | _, _ => none
def dNeg (x : D) (g : Hh) : Option (D × Hh) := match x with
  | .int i => some (.int (-i), g)
  | _ => none

mutual
def pyD : D → Option PyData
  | .non => some .none
  | .bl b => some (.bool b)
  | .int i => some (.int i)
  | .str x => some (.str x)
  | .tup xs => (pyDs xs).map .tuple
  | .ref _ => none
  | .fn _ => none
  | .scr _ => none
  | .ty _ => none
def pyDs : List D → Option (List PyData)
  | [] => some []
  | d :: ds => match pyD d, pyDs ds with
    | some p, some ps => some (p :: ps)
    | _, _ => none
end
def pyV (g : Hh) : D → Option PyData
  | .ref n => match g[n]? with
    | some (.lst xs) => (pyDs xs).map .list
    | _ => none
  | .scr xs => (pyDs xs).map .list
  | d => pyD d
def dEqB (x y : D) (g : Hh) : Option Bool := match pyV g x, pyV g y with
  | some a, some b => if SeqAt.shaped a = true ∧ SeqAt.shaped b = true then some (PyData.eqv a b) else none
  | _, _ => none
def dEq (x y : D) (g : Hh) : Option (D × Hh) := (dEqB x y g).map fun k => (.bl k, g)
def dNe (x y : D) (g : Hh) : Option (D × Hh) := (dEqB x y g).map fun k => (.bl (!k), g)
def dIs (x y : D) (g : Hh) : Option (D × Hh) := match y with
  | .non => some (.bl (decide (x = .non)), g)
  | .bl b => some (.bl (decide (x = .bl b)), g)
  | _ => none
def dIsNot (x y : D) (g : Hh) : Option (D × Hh) := match y with
  | .non => some (.bl (!decide (x = .non)), g)
  | .bl b => some (.bl (!decide (x = .bl b)), g)
  | _ => none
/-- x in y, by value: lists, tuples of any depth, texts (one sign), dicts' keys -/
def dInB (x y : D) (g : Hh) : Option Bool := match y with
  | .str z => match x with
    | .str a => if a.cps.size = 1 then some (decide (a.cps.getD 0 0 ∈ z.cps.toList)) else none
    | _ => none
  | .tup ys => match pyD x, pyDs ys with
    | some a, some b => if SeqAt.shaped a = true ∧ SeqAt.shaped (.tuple b) = true then some (b.any fun z => PyData.eqv z a) else none
    | _, _ => none
  | .ref n => match g[n]? with
    | some (.lst ys) => match pyD x, pyDs ys with
      | some a, some b => if SeqAt.shaped a = true ∧ SeqAt.shaped (.list b) = true then some (b.any fun z => PyData.eqv z a) else none
      | _, _ => none
    | some (.dct kvs) => match x with
      | .int i => some (kvs.any fun p => decide (p.1 = .int i))
      | .str i => some (kvs.any fun p => decide (p.1 = .str i))
      | _ => none
    | _ => none
  | _ => none
def dIn (x y : D) (g : Hh) : Option (D × Hh) := (dInB x y g).map fun k => (.bl k, g)
def dNotIn (x y : D) (g : Hh) : Option (D × Hh) := (dInB x y g).map fun k => (.bl (!k), g)
/-- the order of ints and texts -/
def dLtB (x y : D) (g : Hh) : Option Bool := match x, y with
  | .int i, .int j => some (decide (i < j))
  | .str i, .str j => some (decide (i.cps.toList < j.cps.toList))
  | _, _ => none
def dLt (x y : D) (g : Hh) : Option (D × Hh) := (dLtB x y g).map fun k => (.bl k, g)
def dGt (x y : D) (g : Hh) : Option (D × Hh) := (dLtB y x g).map fun k => (.bl k, g)
def dLe (x y : D) (g : Hh) : Option (D × Hh) := match x, y with
  | .int i, .int j => some (.bl (decide (i ≤ j)), g)
  | _, _ => none
def dGe (x y : D) (g : Hh) : Option (D × Hh) := match x, y with
  | .int i, .int j => some (.bl (decide (j ≤ i)), g)
  | _, _ => none

section
variable {K : PySem.W.Frag} {m : List Addr} {H : Hp} {g : Hh}
mutual
theorem dp_of : ∀ (d : D) (v : V) (p : PyData), Rp K m H d v → pyD d = some p → Dp K H v p
  | .non, v, p, r, h => by obtain rfl : v = .non := r; cases h; exact .non
  | .bl b, v, p, r, h => by obtain rfl : v = .bl b := r; cases h; exact .bl b
  | .int i, v, p, r, h => by obtain rfl : v = .int i := r; cases h; exact .int i
  | .str x, v, p, r, h => by obtain rfl : v = .str x := r; cases h; exact .str x
  | .tup xs, v, p, r, h => by
    obtain ⟨a, vs, rfl, q, r⟩ := r
    simp only [pyD] at h
    obtain ⟨ps, e, rfl⟩ := Option.map_eq_some_iff.mp h
    exact .tup q (dps_of xs vs ps r e)
  | .ref _, _, _, _, h => by cases h
  | .fn _, _, _, _, h => by cases h
  | .scr _, _, _, _, h => by cases h
  | .ty _, _, _, _, h => by cases h
theorem dps_of : ∀ (ds : List D) (vs : List V) (ps : List PyData), Rps K m H ds vs → pyDs ds = some ps → DpAll K H vs ps
  | [], vs, ps, r, h => by cases r; cases h; exact .nil
  | d :: ds, vs, ps, r, h => by
    obtain ⟨v, u, rfl, r1, r2⟩ := r
    simp only [pyDs] at h
    split at h
    · rename_i p q e1 e2
      cases h
      exact .cons (dp_of d v p r1 e1) (dps_of ds u q r2 e2)
    · cases h
end
theorem dp_v (A : At K m H g) {d : D} {v : V} {p : PyData} (r : Rp K m H d v) (h : pyV g d = some p) : Dp K H v p := by
  cases d with
  | ref n =>
    obtain ⟨a, ha, rfl⟩ := r
    simp only [pyV] at h
    cases e : g[n]? with
    | none => simp only [e] at h; cases h
    | some o =>
      cases o with
      | lst xs =>
        simp only [e] at h
        obtain ⟨ps, e2, rfl⟩ := Option.map_eq_some_iff.mp h
        obtain ⟨vs, q1, q2⟩ := A.of e ha
        exact .lst (.of q1) (dps_of _ _ _ q2 e2)
      | _ => simp only [e] at h; cases h
  | scr xs =>
    obtain ⟨a, vs, rfl, q, r⟩ := r
    obtain ⟨ps, e2, rfl⟩ := Option.map_eq_some_iff.mp h
    exact .lst q.sql (dps_of _ _ _ r e2)
  | _ => exact dp_of _ _ _ r h
end

section
variable {X : Cx}
theorem o_add : OpR X (binaryOp .Add) (rO X.K dAdd) := by
  intro pins s σ H v u vv uu Q I rv ru ⟨m, G, x, y, at', rx, ry, P⟩
  cases x with
  | int i =>
    cases y with
    | int j =>
      obtain rfl : v = .int i := rx
      obtain rfl : u = .int j := ry
      exact op_add pins s σ H _ _ vv uu Q I rv ru ⟨i, j, rfl, rfl, P.same at' rfl⟩
    | _ => exact P.elim
  | str a =>
    cases y with
    | str b =>
      obtain rfl : v = .str a := rx
      obtain rfl : u = .str b := ry
      simp only [dAdd] at P
      split at P
      · rename_i hl
        exact op_add_str pins s σ H _ _ vv uu Q I rv ru ⟨a, b, rfl, rfl, hl, P.same at' rfl⟩
      · exact P.elim
    | _ => exact P.elim
  | tup a =>
    cases y with
    | tup b =>
      simp only [dAdd] at P
      split at P
      · rename_i hl
        obtain ⟨p, vs, rfl, q1, r1⟩ := rx
        obtain ⟨p', us, rfl, q2, r2⟩ := ry
        refine op_catA pins s σ H _ _ vv uu Q I rv ru ⟨p, p', vs, us, rfl, rfl, q1, q2, by rw [← Rps.len r1, ← Rps.len r2]; exact hl, fun e => ?_, fun _ e => ?_, fun _ _ q hq => P.tup at' (Rps.app r1 r2) hq⟩
        · subst e
          obtain rfl : a = [] := by
            cases a with
            | nil => rfl
            | cons _ _ => obtain ⟨_, _, z, _⟩ := r1; cases z
          exact P.same at' ⟨p', us, rfl, q2, r2⟩
        · subst e
          obtain rfl : b = [] := by
            cases b with
            | nil => rfl
            | cons _ _ => obtain ⟨_, _, z, _⟩ := r2; cases z
          rw [List.append_nil] at P
          exact P.same at' ⟨p, vs, rfl, q1, r1⟩
      · exact P.elim
    | _ => exact P.elim
  | ref a =>
    cases y with
    | ref b =>
      simp only [dAdd] at P
      split at P
      · rename_i xs ys e1 e2
        split at P
        · rename_i hl
          obtain ⟨p, h1, rfl⟩ := rx
          obtain ⟨p', h2, rfl⟩ := ry
          obtain ⟨vs, q1, r1⟩ := at'.of e1 h1
          obtain ⟨us, q2, r2⟩ := at'.of e2 h2
          exact op_cat pins s σ H _ _ vv uu Q I rv ru ⟨p, p', vs, us, rfl, rfl, q1, q2, by rw [← Rps.len r1, ← Rps.len r2]; exact hl, fun q hq => P.lst at' (Rps.app r1 r2) hq⟩
        · exact P.elim
      · exact P.elim
    | _ => exact P.elim
  | _ => exact P.elim
theorem o_sub : OpR X (binaryOp .Sub) (rO X.K dSub) := by
  intro pins s σ H v u vv uu Q I rv ru ⟨m, G, x, y, at', rx, ry, P⟩
  cases x with
  | int i =>
    cases y with
    | int j =>
      obtain rfl : v = .int i := rx
      obtain rfl : u = .int j := ry
      exact op_sub pins s σ H _ _ vv uu Q I rv ru ⟨i, j, rfl, rfl, P.same at' rfl⟩
    | _ => exact P.elim
  | _ => exact P.elim
/-! a tuple once -/
theorem tuple_once (l : Addr) (items : Array Value) (n : Nat) (dd : Option Addr) (sl : Array (Option Value)) (u : Tok) :
    Meets (Builtin.«tuple.__mul__» ⟨[.ref l, .int 1 u], []⟩) (fun _ R s => s.heap.get? l = some { cls := .type "tuple", dict := dd, data := .seq items n, slots := sl } ∧ R (.ok (.ret (Value.ref l))) s) :=
  .of_wp fun prog w A R s h => by
    obtain ⟨hp, g, d, tk, os⟩ := s
    obtain ⟨hl, h⟩ := h
    have f1 := AutoSeq1.idx_int
    wp_walk using wpAny_loadPart' hl
    repeat (first
      | (refine wpAny_ite_false (by decide) ?_; wp_walk using wpAny_loadPart' hl)
      | (refine wpAny_ite_true (by simp) ?_; wp_walk using wpAny_loadPart' hl))
    all_goals exact ⟨_, rfl, h⟩
theorem op_once : OpR X (binaryOp .Mult) (fun x y H Q => ∃ l xs, x = .ref l ∧ y = .int 1 ∧ SqT X.K H l xs ∧ Q (.ref l) H) := by
  intro pins s σ H x y v u Q I rx ry h
  obtain ⟨l, xs, rfl, rfl, hT, q⟩ := h
  cases rx
  obtain ⟨t, rfl⟩ := ry
  obtain ⟨its, r, ⟨⟨cls, dd, data, sl⟩, ho, hc, n, hd⟩, hs⟩ := I.tuple hT
  simp only at hc hd
  subst hc hd
  refine wpAny_binaryOp_repeat_ref (T := "tuple") (U := "int") (by decide) ⟨_, ho, rfl⟩ (fun s' => typeIs_int s' 1 t) noFill_tuple_mul F.fills_int_mul F.slot_int_rmul repeat_tuple F.slot_int_index.lookup
    (call_meets F.slot_int_rmul (typeIs_int s 1 t) F.entry_int_rmul (F.args_int_rmul_2 _ _) (int_rmul_tuple 1 t l its.toArray n dd sl)
      ⟨ho, rfl, ⟨_, ho, rfl⟩, call_meets F.slot_tuple_mul ⟨_, ho, rfl⟩ F.entry_tuple_mul (F.args_tuple_mul_2 _ _) (tuple_once l its.toArray n dd sl t) ⟨ho, ?_⟩⟩)
  exact ⟨.ref l, H, I, rfl, q⟩
theorem o_mul : OpR X (binaryOp .Mult) (rO X.K dMul) := by
  intro pins s σ H v u vv uu Q I rv ru ⟨m, G, x, y, at', rx, ry, P⟩
  cases x with
  | int i =>
    cases y with
    | int j =>
      obtain rfl : v = .int i := rx
      obtain rfl : u = .int j := ry
      simp only [dMul] at P
      split at P
      · rename_i hl
        exact op_mulW pins s σ H _ _ vv uu Q I rv ru ⟨i, j, rfl, rfl, hl, P.same at' rfl⟩
      · exact P.elim
    | _ => exact P.elim
  | ref a =>
    cases y with
    | int k =>
      obtain rfl : u = .int k := ry
      simp only [dMul] at P
      split at P
      · rename_i xs e1
        split at P
        · rename_i hl
          obtain ⟨p, h1, rfl⟩ := rx
          obtain ⟨vs, q1, r1⟩ := at'.of e1 h1
          exact op_rep pins s σ H _ _ vv uu Q I rv ru ⟨p, k, vs, rfl, rfl, q1, hl.1, hl.2.1, by rw [← Rps.len r1]; exact hl.2.2, fun q hq => P.lst at' (Rps.rep r1 _) hq⟩
        · exact P.elim
      · exact P.elim
    | _ => exact P.elim
  | tup a =>
    cases y with
    | int k =>
      obtain rfl : u = .int k := ry
      simp only [dMul] at P
      split at P
      · rename_i hl
        subst hl
        have rx' := rx
        obtain ⟨p, vs, rfl, q1, r1⟩ := rx'
        exact op_once pins s σ H _ _ vv uu Q I rv ru ⟨p, vs, rfl, rfl, q1, P.same at' rx⟩
      split at P
      · rename_i hl
        obtain ⟨p, vs, rfl, q1, r1⟩ := rx
        refine op_repT pins s σ H _ _ vv uu Q I rv ru ⟨p, k, vs, rfl, rfl, q1, fun e => ?_, hl.1, hl.2.1, by rw [← Rps.len r1]; exact hl.2.2.2, fun q hq => P.tup at' (Rps.rep r1 _) hq⟩
        subst e
        cases a with
        | nil => exact hl.2.2.1 rfl
        | cons _ _ => obtain ⟨_, _, z, _⟩ := r1; cases z
      · exact P.elim
    | _ => exact P.elim
  | _ => exact P.elim
theorem o_div : OpR X (binaryOp .FloorDiv) (rO X.K dDiv) := by
  intro pins s σ H v u vv uu Q I rv ru ⟨m, G, x, y, at', rx, ry, P⟩
  cases x with
  | int i =>
    cases y with
    | int j =>
      obtain rfl : v = .int i := rx
      obtain rfl : u = .int j := ry
      simp only [dDiv] at P
      split at P
      · rename_i hl
        obtain ⟨t, rfl⟩ := rv
        obtain ⟨t', rfl⟩ := ru
        exact floordiv_int hl.1 ⟨.int _, H, I.tok _, ⟨_, rfl⟩, P.same at' rfl⟩ (.inl (PyProof.noPylong_of_log2 hl.2))
      · exact P.elim
    | _ => exact P.elim
  | _ => exact P.elim
theorem o_mod : OpR X (binaryOp .Mod) (rO X.K dMod) := by
  intro pins s σ H v u vv uu Q I rv ru ⟨m, G, x, y, at', rx, ry, P⟩
  cases x with
  | int i =>
    cases y with
    | int j =>
      obtain rfl : v = .int i := rx
      obtain rfl : u = .int j := ry
      simp only [dMod] at P
      split at P
      · rename_i hl
        exact op_modN pins s σ H _ _ vv uu Q I rv ru ⟨i, j, rfl, rfl, hl, P.same at' rfl⟩
      · exact P.elim
    | _ => exact P.elim
  | _ => exact P.elim
theorem o_pow : OpR X (binaryOp .Pow) (rO X.K dPow) := by
  intro pins s σ H v u vv uu Q I rv ru ⟨m, G, x, y, at', rx, ry, P⟩
  cases x with
  | int i =>
    cases y with
    | int j =>
      obtain rfl : v = .int i := rx
      obtain rfl : u = .int j := ry
      simp only [dPow] at P
      split at P
      · rename_i hl
        exact op_pow pins s σ H _ _ vv uu Q I rv ru ⟨i, j, rfl, rfl, hl, P.same at' rfl⟩
      · exact P.elim
    | _ => exact P.elim
  | _ => exact P.elim
theorem u_neg : UnR X (unaryOp .USub) (rU1 X.K dNeg) := by
  intro pins s σ H v vv Q I rv ⟨m, G, x, at', rx, P⟩
  cases x with
  | int i =>
    obtain rfl : v = .int i := rx
    exact un_neg pins s σ H _ vv Q I rv ⟨i, rfl, P.same at' rfl⟩
  | _ => exact P.elim
theorem PostO.bool {K : PySem.W.Frag} {m : List Addr} {H : Hp} {g : Hh} {Q : VK} {o : Option Bool} {f : Bool → Bool} (A : At K m H g) (P : PostO K m H Q (o.map fun k => (.bl (f k), g))) : ∃ k, o = some k ∧ Q (.bl (f k)) H := by
  cases o with
  | none => exact P.elim
  | some k => exact ⟨k, rfl, P.same A rfl⟩
theorem eqB_of {K : PySem.W.Frag} {m : List Addr} {H : Hp} {g : Hh} (A : At K m H g) {x y : D} {v u : V} {k : Bool} (rx : Rp K m H x v) (ry : Rp K m H y u) (h : dEqB x y g = some k) :
    ∃ d e, Dp K H v d ∧ Dp K H u e ∧ SeqAt.shaped d = true ∧ SeqAt.shaped e = true ∧ k = PyData.eqv d e := by
  unfold dEqB at h
  split at h
  · rename_i a b e1 e2
    split at h
    · rename_i hs
      cases h
      exact ⟨a, b, dp_v A rx e1, dp_v A ry e2, hs.1, hs.2, rfl⟩
    · cases h
  · cases h
theorem o_eq (hu : X.A.units + 64 < cLine) : OpR X (compareOp .Eq) (rO X.K dEq) := by
  intro pins s σ H v u vv uu Q I rv ru ⟨m, G, x, y, at', rx, ry, P⟩
  obtain ⟨k, e, q⟩ := PostO.bool (f := id) at' P
  obtain ⟨d, e', h1, h2, h3, h4, rfl⟩ := eqB_of at' rx ry e
  exact op_eqD hu pins s σ H _ _ vv uu Q I rv ru ⟨d, e', h1, h2, h3, h4, q⟩
theorem o_ne (hu : X.A.units + 64 < cLine) : OpR X (compareOp .NotEq) (rO X.K dNe) := by
  intro pins s σ H v u vv uu Q I rv ru ⟨m, G, x, y, at', rx, ry, P⟩
  obtain ⟨k, e, q⟩ := PostO.bool (f := fun k => !k) at' P
  obtain ⟨d, e', h1, h2, h3, h4, rfl⟩ := eqB_of at' rx ry e
  exact op_neD hu pins s σ H _ _ vv uu Q I rv ru ⟨d, e', h1, h2, h3, h4, q⟩
theorem is_bool {M : Model} {A : Around} {E : Value → Shared → Prop} {s : Shared} {Q : Value → Shared → Prop} {v : Value} {b : Bool} (hv : ∀ n, v ≠ .builtin n) (h : Q (.bool (v == .bool b)) s) : wpAny M A (compareOp .Is v (.bool b)) Q E s := by
  cases v with
  | builtin n => exact absurd rfl (hv n)
  | _ => exact wpAny_pure h
theorem isnot_bool {M : Model} {A : Around} {E : Value → Shared → Prop} {s : Shared} {Q : Value → Shared → Prop} {v : Value} {b : Bool} (hv : ∀ n, v ≠ .builtin n) (h : Q (.bool (!(v == .bool b))) s) : wpAny M A (compareOp .IsNot v (.bool b)) Q E s := by
  cases v with
  | builtin n => exact absurd rfl (hv n)
  | _ => exact wpAny_pure h
theorem rel_is {K : PySem.W.Frag} {m : List Addr} {H : Hp} {x y : D} {v : V} {vv : Value} (rx : Rp K m H x v) (rv : RelV v vv) : (∀ n, vv ≠ .builtin n) ∧ (vv == .none) = decide (x = .non) ∧ ∀ b, (vv == .bool b) = decide (x = .bl b) := by
  have refc : ∀ {a : Addr} {z : D}, v = .ref a → x = z → z ≠ .non → (∀ b, z ≠ .bl b) → (∀ n, vv ≠ .builtin n) ∧ (vv == .none) = decide (x = .non) ∧ ∀ b, (vv == .bool b) = decide (x = .bl b) := fun {a z} e ez h1 h2 => by
    subst e
    obtain rfl : vv = .ref a := rv
    subst ez
    exact ⟨fun n z => (nomatch z), by rw [decide_eq_false h1]; rfl, fun b => by rw [decide_eq_false (h2 b)]; rfl⟩
  cases x with
  | non => obtain rfl : v = .non := rx; obtain rfl : vv = .none := rv; exact ⟨fun n z => (nomatch z), by simp, fun b => by simp⟩
  | bl c =>
    obtain rfl : v = .bl c := rx
    obtain rfl : vv = .bool c := rv
    refine ⟨fun n z => (nomatch z), by simp, fun b => ?_⟩
    by_cases h : c = b
    · subst h; simp
    · rw [decide_eq_false (fun e => h (D.bl.inj e))]
      exact beq_eq_false_iff_ne.mpr fun e => h (Value.bool.inj e)
  | int i => obtain rfl : v = .int i := rx; obtain ⟨t, rfl⟩ := rv; exact ⟨fun n z => (nomatch z), by simp, fun b => by simp⟩
  | str i => obtain rfl : v = .str i := rx; obtain ⟨t, rfl⟩ := rv; exact ⟨fun n z => (nomatch z), by simp, fun b => by simp⟩
  | tup xs => obtain ⟨a, _, e, _⟩ := rx; exact refc e rfl (fun z => (nomatch z)) fun b z => (nomatch z)
  | ref n => obtain ⟨a, _, e⟩ := rx; exact refc e rfl (fun z => (nomatch z)) fun b z => (nomatch z)
  | fn n => exact refc rx rfl (fun z => (nomatch z)) fun b z => (nomatch z)
  | scr xs => obtain ⟨a, _, e, _⟩ := rx; exact refc e rfl (fun z => (nomatch z)) fun b z => (nomatch z)
  | ty n => obtain rfl : v = .ty n := rx; obtain rfl : vv = .type n := rv; exact ⟨fun n z => (nomatch z), by simp, fun b => by simp⟩
theorem o_is : OpR X (compareOp .Is) (rO X.K dIs) := by
  intro pins s σ H v u vv uu Q I rv ru ⟨m, G, x, y, at', rx, ry, P⟩
  obtain ⟨h1, h2, h3⟩ := rel_is (y := y) rx rv
  cases y with
  | non =>
    obtain rfl : u = .non := ry
    obtain rfl : uu = .none := ru
    exact is_none_gen ⟨.bl _, H, I, by rw [h2]; rfl, P.same at' rfl⟩
  | bl b =>
    obtain rfl : u = .bl b := ry
    obtain rfl : uu = .bool b := ru
    exact is_bool h1 ⟨.bl _, H, I, by rw [h3]; rfl, P.same at' rfl⟩
  | _ => exact P.elim
theorem o_isnot : OpR X (compareOp .IsNot) (rO X.K dIsNot) := by
  intro pins s σ H v u vv uu Q I rv ru ⟨m, G, x, y, at', rx, ry, P⟩
  obtain ⟨h1, h2, h3⟩ := rel_is (y := y) rx rv
  cases y with
  | non =>
    obtain rfl : u = .non := ry
    obtain rfl : uu = .none := ru
    exact isnot_none_gen ⟨.bl _, H, I, by rw [h2]; rfl, P.same at' rfl⟩
  | bl b =>
    obtain rfl : u = .bl b := ry
    obtain rfl : uu = .bool b := ru
    exact isnot_bool h1 ⟨.bl _, H, I, by rw [h3]; rfl, P.same at' rfl⟩
  | _ => exact P.elim
theorem o_lt : OpR X (compareOp .Lt) (rO X.K dLt) := by
  intro pins s σ H v u vv uu Q I rv ru ⟨m, G, x, y, at', rx, ry, P⟩
  obtain ⟨k, e, q⟩ := PostO.bool (f := id) at' P
  cases x with
  | int i =>
    cases y with
    | int j =>
      obtain rfl : v = .int i := rx
      obtain rfl : u = .int j := ry
      cases e
      exact op_lt pins s σ H _ _ vv uu Q I rv ru ⟨i, j, rfl, rfl, q⟩
    | _ => cases e
  | str i =>
    cases y with
    | str j =>
      obtain rfl : v = .str i := rx
      obtain rfl : u = .str j := ry
      cases e
      exact op_lt_str pins s σ H _ _ vv uu Q I rv ru ⟨i, j, rfl, rfl, q⟩
    | _ => cases e
  | _ => cases e
theorem o_gt : OpR X (compareOp .Gt) (rO X.K dGt) := by
  intro pins s σ H v u vv uu Q I rv ru ⟨m, G, x, y, at', rx, ry, P⟩
  obtain ⟨k, e, q⟩ := PostO.bool (f := id) at' P
  cases x with
  | int i =>
    cases y with
    | int j =>
      obtain rfl : v = .int i := rx
      obtain rfl : u = .int j := ry
      cases e
      exact op_gt pins s σ H _ _ vv uu Q I rv ru ⟨i, j, rfl, rfl, q⟩
    | _ => cases e
  | str i =>
    cases y with
    | str j =>
      obtain rfl : v = .str i := rx
      obtain rfl : u = .str j := ry
      cases e
      exact op_gt_str pins s σ H _ _ vv uu Q I rv ru ⟨i, j, rfl, rfl, q⟩
    | _ => cases e
  | _ => cases y <;> cases e
theorem o_le : OpR X (compareOp .LtE) (rO X.K dLe) := by
  intro pins s σ H v u vv uu Q I rv ru ⟨m, G, x, y, at', rx, ry, P⟩
  cases x with
  | int i =>
    cases y with
    | int j =>
      obtain rfl : v = .int i := rx
      obtain rfl : u = .int j := ry
      exact op_le pins s σ H _ _ vv uu Q I rv ru ⟨i, j, rfl, rfl, P.same at' rfl⟩
    | _ => exact P.elim
  | _ => exact P.elim
theorem o_ge : OpR X (compareOp .GtE) (rO X.K dGe) := by
  intro pins s σ H v u vv uu Q I rv ru ⟨m, G, x, y, at', rx, ry, P⟩
  cases x with
  | int i =>
    cases y with
    | int j =>
      obtain rfl : v = .int i := rx
      obtain rfl : u = .int j := ry
      exact op_ge pins s σ H _ _ vv uu Q I rv ru ⟨i, j, rfl, rfl, P.same at' rfl⟩
    | _ => exact P.elim
  | _ => exact P.elim
/-! in, not in -/
theorem room_any {A : Around} {d : PyData} {ds : List PyData} (hs : SeqAt.shaped d = true) (hu : A.units + 65 < cLine) : A.units + 1 + min (PyData.depthAll ds) d.depth < cLine := by
  have h1 := SeqAt.depth_of_shaped hs
  have h2 : min (PyData.depthAll ds) d.depth ≤ d.depth := Nat.min_le_right _ _
  omega
theorem lay_tuple {ds : List PyData} (h : SeqAt.shaped (.tuple ds) = true) : PyData.canLayAll0 ds = true := by
  have := SeqAt.canLay_of_shaped h
  simpa [PyData.canLay0] using this
theorem key_at {K : PySem.W.Frag} {m : List Addr} {H : Hp} {kvs : List (D × D)} {ks : List (Key × V)} (h : kvs.map (·.1) = ks.map (fun k => keyD k.1)) (k : Key) : (kvs.any fun p => decide (p.1 = keyD k)) = (valV ks k).isSome := by
  have ki : ∀ a b : Key, keyD a = keyD b → a = b := fun a b e => by
    cases a <;> cases b <;> first | (cases e; rfl) | cases e
  induction kvs generalizing ks with
  | nil => cases ks with
    | nil => rfl
    | cons _ _ => cases h
  | cons p ps ih =>
    cases ks with
    | nil => cases h
    | cons q qs =>
      simp only [List.map_cons, List.cons.injEq] at h
      rw [List.any_cons, ih h.2]
      unfold valV
      rw [List.find?_cons]
      by_cases e : q.1 = k
      · rw [decide_eq_true e, h.1, e, decide_eq_true rfl]
        rfl
      · rw [decide_eq_false e, h.1, decide_eq_false (fun z => e (ki _ _ z))]
        rfl
theorem o_in' {neg : Bool} {op : CmpOp} (hop : op = if neg then .NotIn else .In) (hu : X.A.units + 65 < cLine) : OpR X (compareOp op) (rO X.K fun x y g => (dInB x y g).map fun k => (.bl (if neg then !k else k), g)) := by
  intro pins s σ H v u vv uu Q I rv ru ⟨m, G, x, y, at', rx, ry, P⟩
  obtain ⟨k, e, q⟩ := PostO.bool (f := fun k => if neg then !k else k) at' P
  subst hop
  cases y with
  | str z =>
    obtain rfl : u = .str z := ry
    cases x with
    | str a =>
      obtain rfl : v = .str a := rx
      simp only [dInB] at e
      split at e
      · rename_i hz
        cases e
        have ea : a = ⟨#[a.cps.getD 0 0]⟩ := by
          obtain ⟨⟨l⟩⟩ := a
          match l, hz with
          | [c], _ => rfl
        rw [ea] at rv
        cases neg with
        | true => exact op_notIn_sign pins s σ H _ _ vv uu Q I rv ru ⟨_, z, rfl, rfl, q⟩
        | false => exact op_in_sign pins s σ H _ _ vv uu Q I rv ru ⟨_, z, rfl, rfl, q⟩
      · cases e
    | _ => cases e
  | tup ys =>
    simp only [dInB] at e
    split at e
    · rename_i a b e1 e2
      split at e
      · rename_i hs
        cases e
        have d1 := dp_of _ _ _ rx e1
        have d2 := dp_of (.tup ys) u (.tuple b) ry (by simp only [pyD, e2]; rfl)
        obtain ⟨as, r1⟩ := Dp.reads I a v vv d1 rv
        obtain ⟨bs, r2⟩ := Dp.reads I _ u uu d2 ru
        cases neg with
        | true => exact PySem.SeqAt.notIn_tuple_reads r2 r1 (lay_tuple hs.2) (SeqAt.canLay_of_shaped hs.1) (room_any hs.1 hu) ⟨.bl _, H, I, rfl, q⟩
        | false => exact PySem.SeqAt.in_tuple_reads r2 r1 (lay_tuple hs.2) (SeqAt.canLay_of_shaped hs.1) (room_any hs.1 hu) ⟨.bl _, H, I, rfl, q⟩
      · cases e
    · cases e
  | ref n =>
    obtain ⟨a, ha, rfl⟩ := ry
    simp only [dInB] at e
    split at e
    · rename_i ys e0
      split at e
      · rename_i p b e1 e2
        split at e
        · rename_i hs
          cases e
          have d1 := dp_of _ _ _ rx e1
          have d2 := dp_v (d := .ref n) (p := .list b) at' ⟨a, ha, rfl⟩ (by simp only [pyV, e0, e2]; rfl)
          cases neg with
          | true => exact op_notInD hu pins s σ H _ _ vv uu Q I rv ru ⟨p, b, d1, d2, hs.1, hs.2, q⟩
          | false => exact op_inD hu pins s σ H _ _ vv uu Q I rv ru ⟨p, b, d1, d2, hs.1, hs.2, q⟩
        · cases e
      · cases e
    · rename_i kvs e0
      obtain ⟨ks, q1, q2, q3, _⟩ := at'.of e0 ha
      obtain rfl : uu = .ref a := ru
      have hu1 : X.A.units + 1 < cLine := by omega
      have fin : ∀ kk : Key, v = kV kk → k = (kvs.any fun p => decide (p.1 = keyD kk)) → wpAny (model X.prog X.w) X.A (compareOp (if neg then .NotIn else .In) vv (.ref a)) (EP X pins σ Q) X.xe s := fun kk ev ek => by
        subst ev
        rw [key_at (K := X.K) (m := m) (H := H) q2 kk] at ek
        subst ek
        cases neg with
        | true => exact d_notIn hu1 I (DGet.k (k := kk) q1) rv fun s3 I3 => ⟨.bl _, H, I3, rfl, q⟩
        | false => exact d_in hu1 I (DGet.k (k := kk) q1) rv fun s3 I3 => ⟨.bl _, H, I3, rfl, q⟩
      cases x with
      | int i => cases e; exact fin (.inl i) rx rfl
      | str i => cases e; exact fin (.inr i) rx rfl
      | _ => cases e
    · cases e
  | _ => cases e
theorem o_in (hu : X.A.units + 65 < cLine) : OpR X (compareOp .In) (rO X.K dIn) := o_in' (neg := false) rfl hu
theorem o_notin (hu : X.A.units + 65 < cLine) : OpR X (compareOp .NotIn) (rO X.K dNotIn) := o_in' (neg := true) rfl hu
end
end Ev

namespace Ev
open PySem PySem.Spec PyProof.Rows L2

/-! ## 6. Statements -/
inductive Out where
  | nx (ρ : Env') (g : Hh) | ret (d : D) (g : Hh) | bk (ρ : Env') (g : Hh) | ct (ρ : Env') (g : Hh)
  | exc (c : Str) (fs : List (Str × D)) (ρ : Env') (g : Hh)
  | err
abbrev Stm := Cal → Env' → Hh → Out
abbrev Tg := Cal → D → Env' → Hh → Res Env'
def PostS (K : PySem.W.Frag) (W : WX) (m : List Addr) (H : Hp) (E : Ends) : Out → Prop
  | .nx ρ g => ∀ m' H' σ', Fut K m H m' H' → At K m' H' g → Sl K m' H' ρ σ' → E.nx σ' H'
  | .bk ρ g => ∀ m' H' σ', Fut K m H m' H' → At K m' H' g → Sl K m' H' ρ σ' → E.bk σ' H'
  | .ct ρ g => ∀ m' H' σ', Fut K m H m' H' → At K m' H' g → Sl K m' H' ρ σ' → E.ct σ' H'
  | .ret d g => ∀ m' H' v, Fut K m H m' H' → At K m' H' g → Rp K m' H' d v → E.rt v H'
  | .exc c fs ρ g => ∀ m' H' σ' d vs, Fut K m H m' H' → At K m' H' g → Sl K m' H' ρ σ' → ((fs = [] ∧ d = none) ∨ ∃ a, d = some a ∧ H' a = some (.xd vs) ∧ Rfs K m' H' fs vs) → W (.ref (He.ga K c)) d σ' H'
  | .err => False
/-- an expression's result, at the slots as they stand -/
def Res.out (x : Res D) (ρ : Env') (k : D → Hh → Out) : Out := match x with
  | .ok d g => k d g
  | .exc c fs g => .exc c fs ρ g
  | .err => .err
def Res.outB (x : Res Bool) (ρ : Env') (k : Bool → Hh → Out) : Out := match x with
  | .ok d g => k d g
  | .exc c fs g => .exc c fs ρ g
  | .err => .err
def Res.outT (x : Res Env') (k : Env' → Hh → Out) : Out := match x with
  | .ok ρ g => k ρ g
  | _ => .err
def RS (K : PySem.W.Frag) : List Addr → Hp → Env' → L2.St → Prop := fun m H ρ σ => Sl K m H ρ σ
/-- targets raise nothing -/
def PostT (K : PySem.W.Frag) (m : List Addr) (H : Hp) (Q : L2.St → Hp → Prop) : Res Env' → Prop
  | .ok ρ g => ∀ m' H' σ', Fut K m H m' H' → At K m' H' g → Sl K m' H' ρ σ' → Q σ' H'
  | _ => False
def LS (K : PySem.W.Frag) (W : WX) (r : Env' → Hh → Out) : TS := fun E σ H => ∃ ρ G m, Sl K m H ρ σ ∧ At K m H G ∧ PostS K W m H E (r ρ G)
def LG (K : PySem.W.Frag) (t : D → Env' → Hh → Res Env') : TG := fun v σ H Q => ∃ ρ G m d, Sl K m H ρ σ ∧ At K m H G ∧ Rp K m H d v ∧ PostT K m H Q (t d ρ G)
def LGs (K : PySem.W.Frag) (t : List D → Env' → Hh → Res Env') : TGs := fun vs σ H Q => ∃ ρ G m ds, Sl K m H ρ σ ∧ At K m H G ∧ Rps K m H ds vs ∧ PostT K m H Q (t ds ρ G)
section
variable {K : PySem.W.Frag} {W : WX} {m m1 : List Addr} {H H1 : Hp} {σ : L2.St} {ρ : Env'} {G : Hh} {E : Ends}
theorem PostS.fut {o : Out} (f : Fut K m H m1 H1) (h : PostS K W m H E o) : PostS K W m1 H1 E o := by
  cases o with
  | exc c fs ρ g => exact fun m' H' σ' d vs f' => h m' H' σ' d vs (f.trans f')
  | nx ρ g => exact fun m' H' b f' q r => h m' H' b (f.trans f') q r
  | bk ρ g => exact fun m' H' b f' q r => h m' H' b (f.trans f') q r
  | ct ρ g => exact fun m' H' b f' q r => h m' H' b (f.trans f') q r
  | ret d g => exact fun m' H' b f' q r => h m' H' b (f.trans f') q r
  | err => exact h
theorem PostT.fut {Q : L2.St → Hp → Prop} {x : Res Env'} (f : Fut K m H m1 H1) (h : PostT K m H Q x) : PostT K m1 H1 Q x := by
  cases x with
  | ok ρ g => exact fun m' H' b f' q r => h m' H' b (f.trans f') q r
  | _ => exact h
theorem PostS.exc {c : Str} {fs : List (Str × D)} {g : Hh} (s : Sl K m H ρ σ) (h : PostS K W m H E (.exc c fs ρ g)) : ExcP K W m H σ c fs g :=
  fun m' H' d vs f a e => h m' H' σ d vs f a (s.fut f) e
/-- an expression ahead of a statement -/
theorem PostS.step {x : Res D} {k : D → Hh → Out} {Q : VK} (s : Sl K m H ρ σ) (h : PostS K W m H E (x.out ρ k))
    (n : ∀ d g m1 H1 v, Fut K m H m1 H1 → At K m1 H1 g → Rp K m1 H1 d v → PostS K W m1 H1 E (k d g) → Q v H1) : PostR (Rp K) K W m H σ Q x := by
  cases x with
  | ok d g => exact fun m1 H1 v f a r => n d g m1 H1 v f a r (PostS.fut f h)
  | exc c fs g => exact PostS.exc s h
  | err => exact h
theorem PostS.stepB {x : Res Bool} {k : Bool → Hh → Out} {Q : Bool → Hp → Prop} (s : Sl K m H ρ σ) (h : PostS K W m H E (x.outB ρ k))
    (n : ∀ d g m1 H1, Fut K m H m1 H1 → At K m1 H1 g → PostS K W m1 H1 E (k d g) → Q d H1) : PostR RB K W m H σ Q x := by
  cases x with
  | ok d g =>
    intro m1 H1 b f a r
    have r : d = b := r
    subst r
    exact n d g m1 H1 f a (PostS.fut f h)
  | exc c fs g => exact PostS.exc s h
  | err => exact h
/-- a store ahead of a statement -/
theorem PostS.stepT {x : Res Env'} {k : Env' → Hh → Out} {Q : L2.St → Hp → Prop} (h : PostS K W m H E (x.outT k))
    (n : ∀ ρ g m1 H1 σ, Fut K m H m1 H1 → At K m1 H1 g → Sl K m1 H1 ρ σ → PostS K W m1 H1 E (k ρ g) → Q σ H1) : PostT K m H Q x := by
  cases x with
  | ok ρ g => exact fun m1 H1 σ f a s => n ρ g m1 H1 σ f a s (PostS.fut f h)
  | exc c fs g => exact h
  | err => exact h
end

def sPass : Stm := fun _ ρ g => .nx ρ g
def sBreak : Stm := fun _ ρ g => .bk ρ g
def sCont : Stm := fun _ ρ g => .ct ρ g
def sErr : Stm := fun _ _ _ => .err
def sRet (e : Exp) : Stm := fun c ρ g => (e c ρ g).out ρ fun d g => .ret d g
def sRetN : Stm := fun _ _ g => .ret .non g
def sExpr (e : Exp) : Stm := fun c ρ g => (e c ρ g).out ρ fun _ g => .nx ρ g
def sSeq (a b : Stm) : Stm := fun c ρ g => match a c ρ g with
  | .nx ρ g => b c ρ g
  | o => o
def sIf (t : Tst) (a b : Stm) : Stm := fun c ρ g => (t c ρ g).outB ρ fun k g => if k = true then a c ρ g else b c ρ g
def sAsg (tg : Tg) (e : Exp) : Stm := fun c ρ g => (e c ρ g).out ρ fun d g => (tg c d ρ g).outT fun ρ g => .nx ρ g
/-- a, b = x, y : two or three plain names; no tuple is made -/
def sPar (is : List Nat) (r : Arg) : Stm := fun c ρ g => match r c ρ g with
  | .ok ds g => if ds.length = is.length then .nx ((is.zip ds).foldl (fun ρ p => ρ.set p.1 (some p.2)) ρ) g else .err
  | .exc c fs g => .exc c fs ρ g
  | .err => .err
/-- name op= e -/
def sAug (i : Nat) (op : D → D → Hh → Option (D × Hh)) (e : Exp) : Stm := fun c ρ g => match ρ[i]? with
  | some (some x) => (e c ρ g).out ρ fun y g => (Res.of (op x y g)).out ρ fun z g => .nx (ρ.set i (some z)) g
  | _ => .err
/-! targets -/
def gNm (i : Nat) : Tg := fun _ d ρ g => .ok (ρ.set i (some d)) g
def gsNil : Cal → List D → Env' → Hh → Res Env' := fun _ ds ρ g => if ds = [] then .ok ρ g else .err
def gsCons (t : Tg) (r : Cal → List D → Env' → Hh → Res Env') : Cal → List D → Env' → Hh → Res Env' := fun c ds ρ g => match ds with
  | d :: ds => (t c d ρ g).bind fun ρ g => r c ds ρ g
  | [] => .err
def gTp (n : Nat) (r : Cal → List D → Env' → Hh → Res Env') : Tg := fun c d ρ g => match d with
  | .tup ds => if ds.length = n then r c ds ρ g else .err
  | .ref k => match g[k]? with
    | some (.lst ds) => if ds.length = n then r c ds ρ g else .err
    | _ => .err
  | _ => .err
def ixD (n : Nat) (i : Int) : Option Nat := ixN n i
/-- o[i] = d -/
def dSet (o i d : D) (g : Hh) : Option Hh := match o with
  | .ref n => match g[n]? with
    | some (.lst xs) => match i with
      | .int k => match ixN xs.length k with
        | some j => some (g.set n (.lst (xs.set j d)))
        | none => none
      | _ => none
    | some (.dct kvs) => if kvs.length < sizeLine then (match i with
      | .int k => some (g.set n (.dct (if kvs.any (fun p => decide (p.1 = .int k)) then kvs.map (fun p => if p.1 = .int k then (p.1, d) else p) else kvs ++ [(.int k, d)])))
      | .str k => some (g.set n (.dct (if kvs.any (fun p => decide (p.1 = .str k)) then kvs.map (fun p => if p.1 = .str k then (p.1, d) else p) else kvs ++ [(.str k, d)])))
      | _ => none) else none
    | _ => none
  | _ => none
def gSb (o i : Exp) : Tg := fun c d ρ g => (o c ρ g).bind fun x g => (i c ρ g).bind fun y g => match dSet x y d g with
  | some g => .ok ρ g
  | none => .err
/-! loops -/
structure Src where
  keep : List (Nat × Ob)
  items : List D
def stable (keep : List (Nat × Ob)) (g : Hh) : Bool := keep.all fun p => decide (g[p.1]? = some p.2)
abbrev Itx := Cal → Env' → Hh → Res Src
def forLoop (keep : List (Nat × Ob)) (tg : D → Env' → Hh → Res Env') (body : Env' → Hh → Out) : List D → Env' → Hh → Out
  | [], ρ, g => if stable keep g = true then .nx ρ g else .err
  | d :: ds, ρ, g => if stable keep g = true then (tg d ρ g).outT fun ρ g => match body ρ g with
      | .nx ρ g => forLoop keep tg body ds ρ g
      | .ct ρ g => forLoop keep tg body ds ρ g
      | .bk ρ g => .nx ρ g
      | o => o
    else .err
def sFor (it : Itx) (tg : Tg) (body : Stm) : Stm := fun c ρ g => match it c ρ g with
  | .ok s g => forLoop s.keep (tg c) (body c) s.items ρ g
  | .exc c fs g => .exc c fs ρ g
  | .err => .err
def whileLoop (t : Env' → Hh → Res Bool) (body : Env' → Hh → Out) : Nat → Env' → Hh → Out
  | 0, _, _ => .err
  | n + 1, ρ, g => (t ρ g).outB ρ fun k g => if k = true then (match body ρ g with
      | .nx ρ g => whileLoop t body n ρ g
      | .ct ρ g => whileLoop t body n ρ g
      | .bk ρ g => .nx ρ g
      | o => o)
    else .nx ρ g
@[irreducible] def fuelW : Nat := 2 ^ 4096
def sWhile (t : Tst) (body : Stm) : Stm := fun c ρ g => whileLoop (t c) (body c) fuelW ρ g

/-- what a source walks -/
structure ItR (K : PySem.W.Frag) (m : List Addr) (H : Hp) (s : Src) (J : It) : Prop where
  go : ∀ (i : Nat) d m' H' G', Fut K m H m' H' → At K m' H' G' → stable s.keep G' = true → s.items[i]? = some d → J.go i H' ∧ ∀ x H'', J.yld i H' x H'' → Fut K m' H' m' H'' ∧ At K m' H'' G' ∧ Rp K m' H'' d x
  stop : ∀ m' H' G', Fut K m H m' H' → At K m' H' G' → stable s.keep G' = true → J.stop s.items.length H'
theorem ItR.fut {K : PySem.W.Frag} {m m1 : List Addr} {H H1 : Hp} {s : Src} {J : It} (f : Fut K m H m1 H1) (h : ItR K m H s J) : ItR K m1 H1 s J :=
  ⟨fun i d m' H' G' f' => h.go i d m' H' G' (f.trans f'), fun m' H' G' f' => h.stop m' H' G' (f.trans f')⟩
def LI (K : PySem.W.Frag) (W : WX) (r : Env' → Hh → Res Src) : TI := fun σ H R => ∃ ρ G m, Sl K m H ρ σ ∧ At K m H G ∧ PostR (fun m H s J => ItR K m H s J) K W m H σ R (r ρ G)

section
variable {X : Cx} {W : WX} {c : Cal} {a b e : Expr} {es : List Expr} {st : Stmt} {sts : List Stmt} {ra rb : Exp} {rs : Arg} {ta tb : Tst} {sa sb : Stm} {pos : Pos}
abbrev SS (X : Cx) (W : WX) (c : Cal) (st : Stmt) (r : Stm) : Prop := PS X st (LS X.K W (r c))
abbrev SSs (X : Cx) (W : WX) (c : Cal) (st : List Stmt) (r : Stm) : Prop := PSs X st (LS X.K W (r c))
abbrev SG (X : Cx) (c : Cal) (tg : Expr) (r : Tg) : Prop := PG X tg (LG X.K (r c))
abbrev SGs (X : Cx) (c : Cal) (ts : List Expr) (r : Cal → List D → Env' → Hh → Res Env') : Prop := PGs X ts (LGs X.K (r c))
abbrev SI (X : Cx) (W : WX) (c : Cal) (tg it : Expr) (r : Itx) : Prop := PI X tg it (LI X.K W (r c))

theorem ss_pass : SS X W c (.Pass pos) sPass := ps_imp ps_pass fun E σ H ⟨ρ, G, m, s, a, P⟩ => P m H σ Fut.refl a s
theorem ss_break : SS X W c (.Break pos) sBreak := ps_imp ps_break fun E σ H ⟨ρ, G, m, s, a, P⟩ => P m H σ Fut.refl a s
theorem ss_cont : SS X W c (.Continue pos) sCont := ps_imp ps_continue fun E σ H ⟨ρ, G, m, s, a, P⟩ => P m H σ Fut.refl a s
theorem ss_doc {x : Str} {j : Nat} {pos' : Pos} : SS X W c (.Expr (.Constant (.str x) j pos) pos') sPass := ps_imp ps_doc fun E σ H ⟨ρ, G, m, s, a, P⟩ => P m H σ Fut.refl a s
theorem ss_err : SS X W c st sErr := ps_imp ps_never fun E σ H ⟨ρ, G, m, s, a, P⟩ => P
theorem ss_ret (h : SE X W c e ra) : SS X W c (.Return (some e) pos) (sRet ra) := by
  refine ps_imp (ps_ret h) fun E σ H ⟨ρ, G, m, s, a, P⟩ => ?_
  exact ⟨ρ, G, m, s, a, PostS.step s P fun d g m1 H1 v f a1 r P1 => P1 m1 H1 v Fut.refl a1 r⟩
theorem ss_retN : SS X W c (.Return none pos) sRetN := ps_imp ps_retN fun E σ H ⟨ρ, G, m, s, a, P⟩ => P m H _ Fut.refl a rfl
theorem ss_expr (h : SE X W c e ra) (hs : swapsWith e none pos.line X.env = pure false) : SS X W c (.Expr e pos) (sExpr ra) := by
  refine ps_imp (ps_expr h hs) fun E σ H ⟨ρ, G, m, s, a, P⟩ => ?_
  exact ⟨ρ, G, m, s, a, PostS.step s P fun d g m1 H1 v f a1 r P1 => P1 m1 H1 σ Fut.refl a1 (s.fut f)⟩
theorem sss_nil : SSs X W c [] sPass := pss_imp pss_nil fun E σ H ⟨ρ, G, m, s, a, P⟩ => P m H σ Fut.refl a s
theorem sss_one (h : SS X W c st sa) : SSs X W c [st] sa := pss_one h
theorem sss_cons (h1 : SS X W c st sa) (h2 : SSs X W c sts sb) : SSs X W c (st :: sts) (sSeq sa sb) := by
  refine pss_imp (pss_cons h1 h2) fun E σ H ⟨ρ, G, m, s, a, P⟩ => ?_
  refine ⟨ρ, G, m, s, a, ?_⟩
  unfold sSeq at P
  cases e : sa c ρ G with
  | nx ρ1 g1 => rw [e] at P; exact fun m' H' σ' f q r => ⟨ρ1, g1, m', r, q, PostS.fut f P⟩
  | ret d g => rw [e] at P; exact P
  | bk ρ g => rw [e] at P; exact P
  | ct ρ g => rw [e] at P; exact P
  | exc c fs ρ g => rw [e] at P; exact P
  | err => rw [e] at P; exact P
theorem ss_if {t : Expr} {x y : List Stmt} (ht : ST X W c t ta) (ha : SSs X W c x sa) (hb : SSs X W c y sb) : SS X W c (.If t x y pos) (sIf ta sa sb) := by
  refine ps_imp (ps_if ht ha hb) fun E σ H ⟨ρ, G, m, s, a, P⟩ => ?_
  refine ⟨ρ, G, m, s, a, PostS.stepB s P fun k g m1 H1 f a1 P1 => ?_⟩
  cases k with
  | true =>
    rw [if_pos rfl] at P1 ⊢
    exact ⟨ρ, g, m1, s.fut f, a1, P1⟩
  | false =>
    rw [if_neg Bool.false_ne_true] at P1 ⊢
    exact ⟨ρ, g, m1, s.fut f, a1, P1⟩
theorem ss_asg {tg : Expr} {g : Tg} (he : SE X W c e ra) (hg : SG X c tg g) (hs : swapsWithSole [tg] e pos.line X.env = pure false) (hw : swappedStores [tg] e X.env = pure none)
    (h1 : (assignEach [tg] X.env).map (·.2) = [assign tg X.env]) : SS X W c (.Assign [tg] e pos) (sAsg g ra) := by
  refine ps_imp (ps_asg he hg hs hw h1) fun E σ H ⟨ρ, G, m, s, a, P⟩ => ?_
  refine ⟨ρ, G, m, s, a, PostS.step s P fun d g m1 H1 v f a1 r P1 => ?_⟩
  exact ⟨ρ, g, m1, d, s.fut f, a1, r, PostS.stepT P1 fun ρ g m2 H2 σ' f2 a2 s2 P2 => P2 m2 H2 σ' Fut.refl a2 s2⟩
theorem ss_set {i : Nat} {x : Str} {pos' : Pos} (hN : X.N.Nodup) (hi : X.N[i]? = some x) (hx : Loc X.env.scope x) (he : SE X W c e ra) (hs : swapsWith e (some (.Name x pos')) pos.line X.env = pure false)
    (hf : X.fn x = true ∨ X.env.scope.names.lookup x = some .local) : SS X W c (.Assign [.Name x pos'] e pos) (sAsg (gNm i) ra) := by
  refine ps_imp (ps_set hN hi hx he hs hf) fun E σ H ⟨ρ, G, m, s, a, P⟩ => ?_
  refine ⟨ρ, G, m, s, a, PostS.step s P fun d g m1 H1 v f a1 r P1 => ?_⟩
  exact P1 m1 H1 _ Fut.refl a1 ((s.fut f).put r)
theorem ss_par {i j : Nat} {x y : Str} {px py pt : Pos} {kt k2 pt2} (hc : X.calm = true) (hN : X.N.Nodup) (hi : X.N[i]? = some x) (hj : X.N[j]? = some y) (hij : i ≠ j)
    (hx : X.env.scope.names.lookup x = some .local) (hy : X.env.scope.names.lookup y = some .local) (ha : SA X W c [a, b] rs)
    (hw : swappedStores [.Tuple [.Name x px, .Name y py] kt pt] (.Tuple [a, b] k2 pt2) X.env = pure (some [x, y])) :
    SS X W c (.Assign [.Tuple [.Name x px, .Name y py] kt pt] (.Tuple [a, b] k2 pt2) pos) (sPar [i, j] rs) := by
  refine ps_imp (ps_par hc hN hi hj hij hx hy ha hw rfl) fun E σ H ⟨ρ, G, m, s, a, P⟩ => ?_
  refine ⟨ρ, G, m, s, a, ?_⟩
  unfold sPar at P
  cases e : rs c ρ G with
  | ok ds g =>
    simp only [e] at P
    intro m1 H1 vs f a1 r
    split at P
    · rename_i hl
      obtain ⟨d1, d2, rfl⟩ : ∃ d1 d2, ds = [d1, d2] := by
        match ds, hl with
        | [d1, d2], _ => exact ⟨d1, d2, rfl⟩
      obtain ⟨v, _, rfl, r1, w, _, rfl, r2, e3⟩ := r
      cases e3
      exact ⟨v, w, rfl, P m1 H1 _ f a1 (((s.fut f).put r1).put r2)⟩
    · exact P.elim
  | exc c fs g => simp only [e] at P; exact PostS.exc s P
  | err => simp only [e] at P; exact P
theorem ss_par3 {d : Expr} {i j l : Nat} {x y z : Str} {px py pz pt : Pos} {kt k2 pt2} (hc : X.calm = true) (hN : X.N.Nodup) (hi : X.N[i]? = some x) (hj : X.N[j]? = some y) (hl : X.N[l]? = some z) (hij : i ≠ j) (hil : i ≠ l) (hjl : j ≠ l)
    (hx : X.env.scope.names.lookup x = some .local) (hy : X.env.scope.names.lookup y = some .local) (hz : X.env.scope.names.lookup z = some .local) (ha : SA X W c [a, b, d] rs)
    (hw : swappedStores [.Tuple [.Name x px, .Name y py, .Name z pz] kt pt] (.Tuple [a, b, d] k2 pt2) X.env = pure (some [x, y, z])) :
    SS X W c (.Assign [.Tuple [.Name x px, .Name y py, .Name z pz] kt pt] (.Tuple [a, b, d] k2 pt2) pos) (sPar [i, j, l] rs) := by
  refine ps_imp (ps_par3 hc hN hi hj hl hij hil hjl hx hy hz ha hw rfl) fun E σ H ⟨ρ, G, m, s, a, P⟩ => ?_
  refine ⟨ρ, G, m, s, a, ?_⟩
  unfold sPar at P
  cases e : rs c ρ G with
  | ok ds g =>
    simp only [e] at P
    intro m1 H1 vs f a1 r
    split at P
    · rename_i hl
      obtain ⟨d1, d2, d3, rfl⟩ : ∃ d1 d2 d3, ds = [d1, d2, d3] := by
        match ds, hl with
        | [d1, d2, d3], _ => exact ⟨d1, d2, d3, rfl⟩
      obtain ⟨v, _, rfl, r1, w, _, rfl, r2, u, _, rfl, r3, e3⟩ := r
      cases e3
      exact ⟨v, w, u, rfl, P m1 H1 _ f a1 ((((s.fut f).put r1).put r2).put r3)⟩
    · exact P.elim
  | exc c fs g => simp only [e] at P; exact PostS.exc s P
  | err => simp only [e] at P; exact P
theorem ss_aug {i : Nat} {x : Str} {op : Operator} {dop : D → D → Hh → Option (D × Hh)} {pos' : Pos} (hN : X.N.Nodup) (hi : X.N[i]? = some x) (hx : Loc X.env.scope x) (he : SE X W c e ra) (ho : OpR X (inplaceOp op) (rO X.K dop))
    (hf : X.fn x = true ∨ X.env.scope.names.lookup x = some .local) : SS X W c (.AugAssign (.Name x pos') op e pos) (sAug i dop ra) := by
  have hp : PIp X op (rO X.K dop) := fun pins s σ H x y v u Q I r1 r2 h => ho pins s σ H x y v u Q I r1 r2 h
  refine ps_imp (ps_aug hN hi hx he hp hf) fun E σ H ⟨ρ, G, m, s, a, P⟩ => ?_
  unfold sAug at P
  cases e1 : ρ[i]? with
  | none => simp only [e1] at P; exact P.elim
  | some o =>
    cases o with
    | none => simp only [e1] at P; exact P.elim
    | some d =>
      simp only [e1] at P
      obtain ⟨v, e2, r⟩ := s.2 i d e1
      refine ⟨v, e2, ρ, G, m, s, a, PostS.step s P fun y g m1 H1 u f a1 r1 P1 => ?_⟩
      refine ⟨m1, g, d, y, a1, Rp.fut f _ _ r, r1, (PostR.of (W := W) (σ := σ)).mp (PostS.step (s.fut f) P1 fun z g2 m2 H2 w f2 a2 r2 P2 => ?_)⟩
      exact P2 m2 H2 _ Fut.refl a2 ((s.fut (f.trans f2)).put r2)
/-! targets -/
theorem sg_name {i : Nat} {x : Str} (hN : X.N.Nodup) (hi : X.N[i]? = some x) (hx : Loc X.env.scope x) (hf : X.fn x = true ∨ X.env.scope.names.lookup x = some .local) : SG X c (.Name x pos) (gNm i) := by
  refine ⟨fun pins s σ H v u Q I r h => (pg_name hN hi hx hf).run pins s σ H v u Q I r ?_⟩
  obtain ⟨ρ, G, m, d, s, a, r, P⟩ := h
  exact P m H _ Fut.refl a (s.put r)
theorem sgs_nil : SGs X c [] gsNil := by
  refine ⟨fun pins s σ H vs us Q I r h => pgs_nil.run pins s σ H vs us Q I r ?_⟩
  obtain ⟨ρ, G, m, ds, s, a, r, P⟩ := h
  unfold gsNil at P
  split at P
  · rename_i h
    subst h
    cases r
    exact ⟨rfl, P m H _ Fut.refl a s⟩
  · exact P.elim
theorem sgs_cons {g : Tg} {gs : Cal → List D → Env' → Hh → Res Env'} (h1 : SG X c e g) (h2 : SGs X c es gs) (hs : (assignEach (e :: es) X.env).map (·.2) = assign e X.env :: (assignEach es X.env).map (·.2)) : SGs X c (e :: es) (gsCons g gs) := by
  refine ⟨fun pins s σ H vs us Q I r h => (pgs_cons h1 h2 hs).run pins s σ H vs us Q I r ?_⟩
  obtain ⟨ρ, G, m, ds, s, a, r, P⟩ := h
  cases ds with
  | nil => exact P.elim
  | cons d ds =>
    obtain ⟨v, vs, rfl, r1, r2⟩ := r
    refine ⟨v, vs, rfl, ρ, G, m, d, s, a, r1, ?_⟩
    unfold gsCons at P
    dsimp only at P
    cases e1 : g c d ρ G with
    | ok ρ1 g1 => rw [e1] at P; exact fun m1 H1 σ1 f a1 s1 => ⟨ρ1, g1, m1, ds, s1, a1, Rps.fut f _ _ r2, PostT.fut f P⟩
    | exc _ _ _ => rw [e1] at P; exact P.elim
    | err => rw [e1] at P; exact P.elim
theorem sg_tup {k n : Nat} {gs : Cal → List D → Env' → Hh → Res Env'} (hc : X.calm = true) (h : SGs X c es gs) (hn : (assignEach es X.env).length = n) (hst : (assignEach es X.env).findIdx? (·.1) = none) : SG X c (.Tuple es k pos) (gTp n gs) := by
  refine ⟨fun pins s σ H v u Q I r h' => ?_⟩
  obtain ⟨ρ, G, m, d, sl, a, rd, P⟩ := h'
  cases d with
  | tup ds =>
    obtain ⟨p, vs, rfl, q, rr⟩ := rd
    simp only [gTp] at P
    split at P
    · rename_i hl
      exact (pg_tup hc h hn hst).run pins s σ H _ u Q I r ⟨p, vs, rfl, q, by rw [← Rps.len rr]; exact hl, ρ, G, m, ds, sl, a, rr, P⟩
    · exact P.elim
  | ref j =>
    obtain ⟨p, hp, rfl⟩ := rd
    simp only [gTp] at P
    split at P
    · rename_i ds e
      obtain ⟨vs, q, rr⟩ := a.of e hp
      split at P
      · rename_i hl
        exact (pg_lst hc h hn hst).run pins s σ H _ u Q I r ⟨p, vs, rfl, .of q, by rw [← Rps.len rr]; exact hl, ρ, G, m, ds, sl, a, rr, P⟩
      · exact P.elim
    · exact P.elim
  | _ => exact P.elim
/-! loops -/
theorem body_ends {K : PySem.W.Frag} {m : List Addr} {H : Hp} {E : Ends} {o : Out} {k : Env' → Hh → Out} {N : L2.St → Hp → Prop}
    (P : PostS K W m H E (match o with | .nx ρ g => k ρ g | .ct ρ g => k ρ g | .bk ρ g => .nx ρ g | o => o))
    (n : ∀ ρ g m1 H1 σ, Fut K m H m1 H1 → At K m1 H1 g → Sl K m1 H1 ρ σ → PostS K W m1 H1 E (k ρ g) → N σ H1) : PostS K W m H { E with nx := N, ct := N, bk := E.nx } o := by
  cases o with
  | nx ρ g => exact fun m1 H1 σ f a s => n ρ g m1 H1 σ f a s (PostS.fut f P)
  | ct ρ g => exact fun m1 H1 σ f a s => n ρ g m1 H1 σ f a s (PostS.fut f P)
  | bk ρ g => exact P
  | ret d g => exact P
  | exc c fs ρ g => exact P
  | err => exact P
theorem ss_for {tg it : Expr} {body : List Stmt} {ri : Itx} {g : Tg} (hp : PassesOwn (model X.prog X.w) X.A X.env X.xe) (hc : X.calm = true) (hi : SI X W c tg it ri) (hg : SG X c tg g) (hb : SSs X W c body sa)
    (hs : ∀ x, foldedSetIterable it X.env x = pure x) : SS X W c (.For tg it body [] pos) (sFor ri g sa) := by
  refine ps_imp (ps_for hp hc hi hg hb hs) fun E σ H ⟨ρ, G, m, s, a, P⟩ => ?_
  refine ⟨ρ, G, m, s, a, ?_⟩
  unfold sFor at P
  cases e : ri c ρ G with
  | exc c fs g => simp only [e] at P; exact PostS.exc s P
  | err => simp only [e] at P; exact P
  | ok src g1 =>
    simp only [e] at P
    intro m1 H1 J f a1 J1
    refine ⟨fun i n σ H => ∃ ds ρ G m, n = ds.length ∧ i ≤ src.items.length ∧ src.items.drop i = ds ∧ Sl X.K m H ρ σ ∧ At X.K m H G ∧ ItR X.K m H src J ∧ PostS X.K W m H E (forLoop src.keep (g c) (sa c) ds ρ G),
      ⟨_, src.items, ρ, g1, m1, rfl, Nat.zero_le _, rfl, s.fut f, a1, J1, PostS.fut f P⟩, ?_⟩
    rintro i n σ H ⟨ds, ρ, G, m, rfl, hi, hd, s, a, J2, P⟩
    cases ds with
    | nil =>
      have hl : i = src.items.length := by
        have := List.drop_eq_nil_iff.mp hd
        omega
      subst hl
      unfold forLoop at P
      split at P
      · rename_i hst
        exact .inl ⟨J2.stop m H G Fut.refl a hst, P m H σ Fut.refl a s⟩
      · exact P.elim
    | cons d ds =>
      have hlt : i < src.items.length := by
        rcases Nat.lt_or_ge i src.items.length with h | h
        · exact h
        · rw [List.drop_eq_nil_of_le h] at hd; cases hd
      have hd2 : src.items[i]? = some d ∧ src.items.drop (i + 1) = ds := by
        rw [List.drop_eq_getElem_cons hlt] at hd
        injection hd with h1 h2
        exact ⟨by rw [List.getElem?_eq_getElem hlt, h1], h2⟩
      unfold forLoop at P
      split at P
      · rename_i hst
        obtain ⟨go, yl⟩ := J2.go i d m H G Fut.refl a hst hd2.1
        refine .inr ⟨go, fun σ' H' => ∃ ds' ρ G m, ds = ds' ∧ Sl X.K m H' ρ σ' ∧ At X.K m H' G ∧ ItR X.K m H' src J ∧ PostS X.K W m H' E (forLoop src.keep (g c) (sa c) ds' ρ G), ?_, ?_⟩
        · rintro σ' H' ⟨ds', ρ, G, m, rfl, s', a', J', P'⟩
          exact ⟨ds.length, Nat.lt_succ_self _, ds, ρ, G, m, rfl, hlt, hd2.2, s', a', J', P'⟩
        · intro x H' y
          obtain ⟨f', a', r'⟩ := yl x H' y
          refine ⟨ρ, G, m, d, s.fut f', a', r', PostS.stepT (PostS.fut f' P) fun ρ2 g2 m2 H2 σ2 f2 a2 s2 P2 => ?_⟩
          refine ⟨ρ2, g2, m2, s2, a2, body_ends P2 fun ρ3 g3 m3 H3 σ3 f3 a3 s3 P3 => ?_⟩
          exact ⟨ds, ρ3, g3, m3, rfl, s3, a3, J2.fut (f'.trans (f2.trans f3)), P3⟩
      · exact P.elim
theorem ss_while {t : Expr} {body : List Stmt} (hp : PassesOwn (model X.prog X.w) X.A X.env X.xe) (ht : ST X W c t ta) (hb : SSs X W c body sa) : SS X W c (.While t body [] pos) (sWhile ta sa) := by
  refine ps_imp (ps_while hp ht hb) fun E σ H ⟨ρ, G, m, s, a, P⟩ => ?_
  refine ⟨fun n σ H => ∃ ρ G m, Sl X.K m H ρ σ ∧ At X.K m H G ∧ PostS X.K W m H E (whileLoop (ta c) (sa c) n ρ G), ⟨fuelW, ρ, G, m, s, a, P⟩, ?_⟩
  rintro n σ H ⟨ρ, G, m, s, a, P⟩
  cases n with
  | zero => exact P.elim
  | succ n =>
    unfold whileLoop at P
    refine ⟨ρ, G, m, s, a, PostS.stepB s P fun k g1 m1 H1 f1 a1 P1 => ?_⟩
    cases k with
    | false =>
      rw [if_neg Bool.false_ne_true] at P1 ⊢
      exact P1 m1 H1 σ Fut.refl a1 (s.fut f1)
    | true =>
      rw [if_pos rfl] at P1 ⊢
      refine ⟨fun σ' H' => ∃ ρ G m, Sl X.K m H' ρ σ' ∧ At X.K m H' G ∧ PostS X.K W m H' E (whileLoop (ta c) (sa c) n ρ G), fun σ' H' h => ⟨n, Nat.lt_succ_self _, h⟩, ?_⟩
      exact ⟨ρ, g1, m1, s.fut f1, a1, body_ends P1 fun ρ3 g3 m3 H3 σ3 f3 a3 s3 P3 => ⟨ρ3, g3, m3, s3, a3, P3⟩⟩
end
end Ev

namespace Ev
open PySem PySem.Spec PyProof.Rows L2

/-! ## 7. List comprehensions -/
abbrev W0 : WX := fun _ _ _ _ => False
def wipeD (ρ : Env') : List Nat → Env'
  | [] => ρ
  | v :: vs => (wipeD ρ vs).set v none
/-- a target inside a comprehension: the slots of its own names alone -/
def LGw (K : PySem.W.Frag) (vs : List Nat) (t : D → Env' → Hh → Res Env') : TG := fun v σ H Q => ∃ ρ G m d, Sl K m H ρ σ ∧ At K m H G ∧ Rp K m H d v ∧ PostT K m H (fun σ' H' => wipe σ' vs = wipe σ vs → Q σ' H') (t d ρ G)
def LGws (K : PySem.W.Frag) (vs : List Nat) (t : List D → Env' → Hh → Res Env') : TGs := fun us σ H Q => ∃ ρ G m ds, Sl K m H ρ σ ∧ At K m H G ∧ Rps K m H ds us ∧ PostT K m H (fun σ' H' => wipe σ' vs = wipe σ vs → Q σ' H') (t ds ρ G)
theorem wipe_set {σ : L2.St} {i : Nat} {v : V} : ∀ {vs : List Nat}, i ∈ vs → wipe (σ.set i (some v)) vs = wipe σ vs
  | [], h => by cases h
  | w :: vs, h => by
    unfold wipe
    by_cases hi : i ∈ vs
    · rw [wipe_set hi]
    · have e : i = w := by
        rcases List.mem_cons.mp h with e | e
        · exact e
        · exact absurd e hi
      subst e
      have q : ∀ (l : List Nat) (σ : L2.St), i ∉ l → wipe (σ.set i (some v)) l = (wipe σ l).set i (some v) := by
        intro l
        induction l with
        | nil => intro σ _; rfl
        | cons u l ih =>
          intro σ h
          rw [List.mem_cons, not_or] at h
          unfold wipe
          rw [ih σ h.2, List.set_comm _ _ h.1]
      rw [q vs σ hi, List.set_set]
theorem Sl.wipe {K : PySem.W.Frag} {m : List Addr} {H : Hp} {ρ : Env'} {σ : L2.St} (s : Sl K m H ρ σ) : ∀ vs : List Nat, Sl K m H (wipeD ρ vs) (wipe σ vs)
  | [] => s
  | v :: vs => by
    have h := Sl.wipe s vs
    unfold wipeD L2.wipe
    refine ⟨by simp [h.1], fun j d e => ?_⟩
    by_cases hj : v = j
    · subst hj
      by_cases hl : v < (wipeD ρ vs).length
      · rw [List.getElem?_set_self hl] at e; cases e
      · rw [List.getElem?_eq_none (by simpa using hl)] at e; cases e
    · rw [List.getElem?_set_ne hj] at e ⊢
      exact h.2 j d e
def compLoop (keep : List (Nat × Ob)) (tg : D → Env' → Hh → Res Env') (ifs : Env' → Hh → Res Bool) (elt : Env' → Hh → Res D) (n : Nat) (ρ : Env') : List D → Hh → Option Hh
  | [], g => if stable keep g = true then some g else none
  | d :: ds, g => if stable keep g = true then (match tg d ρ g with
      | .ok ρ1 g1 => match ifs ρ1 g1 with
        | .ok true g2 => match elt ρ1 g2 with
          | .ok y g3 => match g3[n]? with
            | some (.lst acc) => if acc.length < sizeLine then compLoop keep tg ifs elt n ρ ds (g3.set n (.lst (acc ++ [y]))) else none
            | _ => none
          | _ => none
        | .ok false g2 => compLoop keep tg ifs elt n ρ ds g2
        | _ => none
      | _ => none) else none
def eLc (vs : List Nat) (it : Itx) (tg : Tg) (ifs : Tst) (elt : Exp) : Exp := fun c ρ g => match it c ρ g with
  | .ok s g => match compLoop s.keep (tg c) (ifs c) (elt c) g.length (wipeD ρ vs) s.items (g ++ [.lst []]) with
    | some g' => .ok (.ref g.length) g'
    | none => .err
  | .exc c fs g => .exc c fs g
  | .err => .err
def tYesE : Tst := fun _ _ g => .ok true g

section
variable {X : Cx} {W : WX} {c : Cal} {elt tg iter : Expr} {ifs : List Expr} {pos : Pos}
abbrev SGw (X : Cx) (c : Cal) (vs : List Nat) (tg : Expr) (r : Tg) : Prop := PG X tg (LGw X.K vs (r c))
abbrev SGws (X : Cx) (c : Cal) (vs : List Nat) (ts : List Expr) (r : Cal → List D → Env' → Hh → Res Env') : Prop := PGs X ts (LGws X.K vs (r c))
abbrev STs (X : Cx) (W : WX) (c : Cal) (ifs : List Expr) (r : Tst) : Prop := PTs X ifs (LT X.K W (r c))
theorem sts_nil : STs X W c [] tYesE := ⟨fun pins s σ H Q I ⟨ρ, G, m, _, a, P⟩ => pts_nil.run pins s σ H Q I (P m H true Fut.refl a rfl)⟩
theorem sts_one {e : Expr} {t : Tst} (h : ST X W c e t) : STs X W c [e] t := pts_one h
theorem sgw_name {i : Nat} {x : Str} {vs : List Nat} (hN : X.N.Nodup) (hi : X.N[i]? = some x) (hx : Loc X.env.scope x) (hf : X.fn x = true ∨ X.env.scope.names.lookup x = some .local) (hv : i ∈ vs) : SGw X c vs (.Name x pos) (gNm i) := by
  refine ⟨fun pins s σ H v u Q I r h => (pg_name hN hi hx hf).run pins s σ H v u Q I r ?_⟩
  obtain ⟨ρ, G, m, d, s, a, r, P⟩ := h
  exact P m H _ Fut.refl a (s.put r) (wipe_set hv)
theorem sgws_nil {vs : List Nat} : SGws X c vs [] gsNil := by
  refine ⟨fun pins s σ H us ws Q I r h => pgs_nil.run pins s σ H us ws Q I r ?_⟩
  obtain ⟨ρ, G, m, ds, s, a, r, P⟩ := h
  unfold gsNil at P
  split at P
  · rename_i h
    subst h
    cases r
    exact ⟨rfl, P m H _ Fut.refl a s rfl⟩
  · exact P.elim
theorem sgws_cons {e : Expr} {es : List Expr} {vs : List Nat} {g : Tg} {gs : Cal → List D → Env' → Hh → Res Env'} (h1 : SGw X c vs e g) (h2 : SGws X c vs es gs) (hs : (assignEach (e :: es) X.env).map (·.2) = assign e X.env :: (assignEach es X.env).map (·.2)) : SGws X c vs (e :: es) (gsCons g gs) := by
  refine ⟨fun pins s σ H us ws Q I r h => (pgs_cons h1 h2 hs).run pins s σ H us ws Q I r ?_⟩
  obtain ⟨ρ, G, m, ds, s, a, r, P⟩ := h
  cases ds with
  | nil => exact P.elim
  | cons d ds =>
    obtain ⟨v, us, rfl, r1, r2⟩ := r
    refine ⟨v, us, rfl, ρ, G, m, d, s, a, r1, ?_⟩
    unfold gsCons at P
    dsimp only at P
    cases e1 : g c d ρ G with
    | ok ρ1 g1 =>
      rw [e1] at P
      intro m1 H1 σ1 f a1 s1 w1
      refine ⟨ρ1, g1, m1, ds, s1, a1, Rps.fut f _ _ r2, ?_⟩
      have P := PostT.fut f P
      dsimp only [Res.bind] at P
      revert P
      cases gs c ds ρ1 g1 with
      | ok ρ2 g2 => exact fun P m2 H2 σ2 f2 a2 s2 w2 => P m2 H2 σ2 f2 a2 s2 (w2.trans w1)
      | exc _ _ _ => exact fun P => P
      | err => exact fun P => P
    | exc _ _ _ => rw [e1] at P; exact P.elim
    | err => rw [e1] at P; exact P.elim
theorem sgw_tup {es : List Expr} {k n : Nat} {vs : List Nat} {gs : Cal → List D → Env' → Hh → Res Env'} (hc : X.calm = true) (h : SGws X c vs es gs) (hn : (assignEach es X.env).length = n) (hst : (assignEach es X.env).findIdx? (·.1) = none) : SGw X c vs (.Tuple es k pos) (gTp n gs) := by
  refine ⟨fun pins s σ H v u Q I r h' => ?_⟩
  obtain ⟨ρ, G, m, d, sl, a, rd, P⟩ := h'
  cases d with
  | tup ds =>
    obtain ⟨p, us, rfl, q, rr⟩ := rd
    simp only [gTp] at P
    split at P
    · rename_i hl
      exact (pg_tup hc h hn hst).run pins s σ H _ u Q I r ⟨p, us, rfl, q, by rw [← Rps.len rr]; exact hl, ρ, G, m, ds, sl, a, rr, P⟩
    · exact P.elim
  | ref j =>
    obtain ⟨p, hp, rfl⟩ := rd
    simp only [gTp] at P
    split at P
    · rename_i ds e
      obtain ⟨us, q, rr⟩ := a.of e hp
      split at P
      · rename_i hl
        exact (pg_lst hc h hn hst).run pins s σ H _ u Q I r ⟨p, us, rfl, .of q, by rw [← Rps.len rr]; exact hl, ρ, G, m, ds, sl, a, rr, P⟩
      · exact P.elim
    · exact P.elim
  | _ => exact P.elim
/-- the reading of a comprehension's loop -/
theorem le_lc {σ : L2.St} {H : Hp} {Q : VK} {vs : List Nat} {ri : Itx} {g : Tg} {ti : Tst} {re : Exp} (h : LE X.K W (eLc vs ri g ti re c) σ H Q) : tLc (LI X.K W (ri c)) (LGw X.K vs (g c)) (LT X.K W0 (ti c)) (LE X.K W0 (re c)) vs σ H Q := by
  obtain ⟨ρ, G, m, s, a, P⟩ := h
  refine ⟨ρ, G, m, s, a, ?_⟩
  unfold eLc at P
  cases e : ri c ρ G with
  | exc c fs g => simp only [e] at P; exact P
  | err => simp only [e] at P; exact P
  | ok src g1 =>
    simp only [e] at P
    intro m1 H1 J f1 a1 J1 D hD
    cases e2 : compLoop src.keep (g c) (ti c) (re c) g1.length (wipeD ρ vs) src.items (g1 ++ [.lst []]) with
    | none => simp only [e2] at P; exact P.elim
    | some gE =>
      simp only [e2] at P
      have f2 : Fut X.K m1 H1 (m1 ++ [D]) (upd H1 D (.lst [])) := Fut.upd_new hD [D]
      have a2 : At X.K (m1 ++ [D]) (upd H1 D (.lst [])) (g1 ++ [.lst []]) := a1.push hD ⟨[], upd_same, Rps.nil⟩
      have hDm : (m1 ++ [D])[g1.length]? = some D := by
        rw [← a1.len, List.getElem?_append_right (Nat.le_refl _)]
        simp
      refine ⟨fun i n H => ∃ ds G m, n = ds.length ∧ i ≤ src.items.length ∧ src.items.drop i = ds ∧ m[g1.length]? = some D ∧ Sl X.K m H (wipeD ρ vs) (wipe σ vs) ∧ At X.K m H G ∧ ItR X.K m H src J ∧
          Fut X.K m1 H1 m H ∧ compLoop src.keep (g c) (ti c) (re c) g1.length (wipeD ρ vs) ds G = some gE,
        ⟨_, src.items, _, _, rfl, Nat.zero_le _, rfl, hDm, (s.wipe vs).fut (f1.trans f2), a2, J1.fut f2, f2, e2⟩, ?_⟩
      rintro i n H ⟨ds, G, m, rfl, hi, hd, hDm, s, a, J2, fu, L⟩
      cases ds with
      | nil =>
        have hl : i = src.items.length := by
          have := List.drop_eq_nil_iff.mp hd
          omega
        subst hl
        unfold compLoop at L
        split at L
        · rename_i hst
          cases L
          exact .inl ⟨J2.stop m H _ Fut.refl a hst, P m H _ (f1.trans fu) a ⟨D, hDm, rfl⟩⟩
        · cases L
      | cons d ds =>
        have hlt : i < src.items.length := by
          rcases Nat.lt_or_ge i src.items.length with h | h
          · exact h
          · rw [List.drop_eq_nil_of_le h] at hd; cases hd
        have hd2 : src.items[i]? = some d ∧ src.items.drop (i + 1) = ds := by
          rw [List.drop_eq_getElem_cons hlt] at hd
          injection hd with h1 h2
          exact ⟨by rw [List.getElem?_eq_getElem hlt, h1], h2⟩
        unfold compLoop at L
        split at L
        · rename_i hst
          obtain ⟨go, yl⟩ := J2.go i d m H G Fut.refl a hst hd2.1
          refine .inr ⟨go, fun H' => ∃ G m, m[g1.length]? = some D ∧ Sl X.K m H' (wipeD ρ vs) (wipe σ vs) ∧ At X.K m H' G ∧ ItR X.K m H' src J ∧ Fut X.K m1 H1 m H' ∧ compLoop src.keep (g c) (ti c) (re c) g1.length (wipeD ρ vs) ds G = some gE, ?_, ?_⟩
          · rintro H' ⟨G, m, h1, h2, h3, h4, h5, h6⟩
            exact ⟨ds.length, Nat.lt_succ_self _, ds, G, m, rfl, hlt, hd2.2, h1, h2, h3, h4, h5, h6⟩
          · intro x H' y
            obtain ⟨f', a', r'⟩ := yl x H' y
            have sw := s.fut f'
            refine ⟨wipeD ρ vs, G, m, d, sw, a', r', ?_⟩
            split at L
            · rename_i ρ1 g2 eg
              rw [eg]
              intro m2 H2 σ2 f2' a2' s2' w2
              have ww : wipe (wipe σ vs) vs = wipe σ vs := by
                have : ∀ (us vs : List Nat) (σ : L2.St), (∀ u ∈ us, u ∈ vs) → wipe (wipe σ vs) us = wipe σ vs := by
                  intro us
                  induction us with
                  | nil => intro _ _ _; rfl
                  | cons u us ih =>
                    intro vs σ h
                    show (wipe (wipe σ vs) us).set u none = wipe σ vs
                    rw [ih vs σ fun z hz => h z (List.mem_cons_of_mem _ hz)]
                    have hu := h u List.mem_cons_self
                    have key : ∀ (l : List Nat) (σ : L2.St), u ∈ l → (wipe σ l).set u none = wipe σ l := by
                      intro l
                      induction l with
                      | nil => intro _ h; cases h
                      | cons w l ihl =>
                        intro σ h
                        show ((wipe σ l).set w none).set u none = (wipe σ l).set w none
                        by_cases e : u = w
                        · subst e; rw [List.set_set]
                        · rw [List.set_comm _ _ (fun z => e z.symm), ihl σ ((List.mem_cons.mp h).resolve_left e)]
                    exact key vs σ hu
                exact this vs vs σ fun _ h => h
              refine ⟨w2.trans ww, ρ1, g2, m2, s2', a2', ?_⟩
              split at L
              · rename_i g3 et
                rw [et]
                intro m3 H3 b f3 a3 hb
                have hb : true = b := hb
                subst hb
                rw [if_pos rfl]
                refine ⟨ρ1, g3, m3, s2'.fut f3, a3, ?_⟩
                split at L
                · rename_i y4 g4 ee
                  rw [ee]
                  intro m4 H4 v4 f4 a4 r4
                  split at L
                  · rename_i acc el
                    split at L
                    · rename_i hl
                      have hm4 : m4[g1.length]? = some D := (f'.trans (f2'.trans (f3.trans f4))).at hDm
                      obtain ⟨us, q1, q2⟩ := a4.of el hm4
                      refine ⟨us, q1, by rw [← Rps.len q2]; exact hl, ?_⟩
                      obtain ⟨f5, a5⟩ := a4.put (u := .lst (us ++ [v4])) (o' := .lst (acc ++ [y4])) el hm4 fun f5 => ⟨_, upd_same, Rps.fut f5 _ _ (Rps.app q2 (Rps.cons r4 Rps.nil))⟩
                      have ft := f'.trans (f2'.trans (f3.trans (f4.trans f5)))
                      exact ⟨_, m4, hm4, s.fut ft, a5, J2.fut ft, fu.trans ft, L⟩
                    · cases L
                  · cases L
                · cases L
              · rename_i g3 et
                rw [et]
                intro m3 H3 b f3 a3 hb
                have hb : false = b := hb
                subst hb
                rw [if_neg Bool.false_ne_true]
                have ft := f'.trans (f2'.trans f3)
                exact ⟨_, m3, ft.at hDm, s.fut ft, a3, J2.fut ft, fu.trans ft, L⟩
              · cases L
            · cases L
        · cases L
theorem se_lc {scope : Scope} {own : List (Str × Nat)} {ri : Itx} {g : Tg} {ti : Tst} {re : Exp} (hc : X.calm = true) (hN : X.N.Nodup) (hi : SI X W c tg iter ri) (ok : BlkOk X.N X.env.scope scope own)
    (hg : ∀ (s : Shared) (H : Hp) (C : Addr) (cl : List (Str × Addr)) (fp : List Addr), SGw (X.blk s H scope (compEnvC scope cl C X.env) fp) c (own.map (·.2)) tg g)
    (ht : ∀ (s : Shared) (H : Hp) (C : Addr) (cl : List (Str × Addr)) (fp : List Addr), STs (X.blk s H scope (compEnvC scope cl C X.env) fp) W0 c ifs ti)
    (he : ∀ (s : Shared) (H : Hp) (C : Addr) (cl : List (Str × Addr)) (fp : List Addr), SE (X.blk s H scope (compEnvC scope cl C X.env) fp) W0 c elt re) (hs : ∀ x, foldedSetIterable iter X.env x = pure x) :
    SE X W c (.ListComp elt [⟨tg, iter, ifs, 0⟩] scope pos) (eLc (own.map (·.2)) ri g ti re) :=
  pe_imp (pe_lc hc hN hi ok hg ht he hs) fun _ _ _ h => le_lc h
theorem ss_setLc {i : Nat} {y : Str} {py spos : Pos} {scope : Scope} {own : List (Str × Nat)} {ri : Itx} {g : Tg} {ti : Tst} {re : Exp} (hc : X.calm = true) (hN : X.N.Nodup) (hy : X.N[i]? = some y) (hyl : X.env.scope.names.lookup y = some .local)
    (hsw : swapsWith (.ListComp elt [⟨tg, iter, ifs, 0⟩] scope pos) (some (.Name y py)) spos.line X.env = pure true) (hi : SI X W c tg iter ri) (ok : BlkOk X.N X.env.scope scope own)
    (hg : ∀ (s : Shared) (H : Hp) (C : Addr) (cl : List (Str × Addr)) (fp : List Addr), SGw (X.blk s H scope (compEnvC scope cl C X.env) fp) c (own.map (·.2)) tg g)
    (ht : ∀ (s : Shared) (H : Hp) (C : Addr) (cl : List (Str × Addr)) (fp : List Addr), STs (X.blk s H scope (compEnvC scope cl C X.env) fp) W0 c ifs ti)
    (he : ∀ (s : Shared) (H : Hp) (C : Addr) (cl : List (Str × Addr)) (fp : List Addr), SE (X.blk s H scope (compEnvC scope cl C X.env) fp) W0 c elt re) (hs : ∀ x, foldedSetIterable iter X.env x = pure x) :
    SS X W c (.Assign [.Name y py] (.ListComp elt [⟨tg, iter, ifs, 0⟩] scope pos) spos) (sAsg (gNm i) (eLc (own.map (·.2)) ri g ti re)) := by
  refine ps_imp (ps_setLc hc hN hy hyl hsw hi ok hg ht he hs) fun E σ H ⟨ρ, G, m, s, a, P⟩ => le_lc ⟨ρ, G, m, s, a, PostS.step s P fun d g m1 H1 v f a1 r P1 => ?_⟩
  exact P1 m1 H1 _ Fut.refl a1 ((s.fut f).put r)
end
end Ev

namespace Ev
open PySem PySem.Spec PyProof.Rows L2

/-! ## 8. What is walked: lists, tuples, texts, and zips, enumerations, reversals of them -/
def signs (x : Str) : List D := x.cps.toList.map fun c => .str ⟨#[c]⟩
def srcOf (g : Hh) : D → Option Src
  | .tup xs => some ⟨[], xs⟩
  | .scr xs => some ⟨[], xs⟩
  | .str x => some ⟨[], signs x⟩
  | .ref n => match g[n]? with
    | some (.lst xs) => some ⟨[(n, .lst xs)], xs⟩
    | _ => none
  | _ => none
def iPl (r : Exp) : Itx := fun c ρ g => (r c ρ g).bind fun d g => match srcOf g d with
  | some s => .ok s g
  | none => .err
def iZp (ra rb : Exp) : Itx := fun c ρ g => (ra c ρ g).bind fun x g => (rb c ρ g).bind fun y g => match srcOf g x, srcOf g y with
  | some s, some t => .ok ⟨s.keep ++ t.keep, List.zipWith (fun a b => .tup [a, b]) s.items t.items⟩ g
  | _, _ => .err
def iEn (ra : Exp) : Itx := fun c ρ g => (ra c ρ g).bind fun x g => match srcOf g x with
  | some s => .ok ⟨s.keep, s.items.zipIdx.map fun p => .tup [.int (p.2 : Int), p.1]⟩ g
  | none => .err

/-- the three sorts of plain iterators -/
inductive Kd where
  | lst (a : Addr) | tup (a : Addr) | str (x : Str) (t : Tok)
def Kd.val : Kd → Value
  | .lst a => .ref a
  | .tup a => .ref a
  | .str x t => .str x t
def Kd.v : Kd → V
  | .lst a => .ref a
  | .tup a => .ref a
  | .str x _ => .str x
def Kd.ob : Kd → Obj
  | .lst a => { cls := .type "list_iterator", data := .fields #[.ref a, .int 0 0] }
  | .tup a => { cls := .type "tuple_iterator", data := .fields #[.ref a, .int 0 0] }
  | .str x t => { cls := .type (strIterType x), data := .fields #[.str x t, .int 0 0] }
def Kd.St (it : Addr) (i : Nat) (h : Heap) : Kd → Prop
  | .lst a => h.IsListIter it a i
  | .tup a => h.IsTupleIter it a i
  | .str x t => h.IsStrIter it (strIterType x) x t i
def Kd.Sq (K : PySem.W.Frag) (H : Hp) : Kd → List V → Prop
  | .lst a, vs => SqL K H a vs
  | .tup a, vs => SqT K H a vs
  | .str x _, vs => vs = x.cps.toList.map fun c => V.str ⟨#[c]⟩
def Kd.fp (it : Addr) : Kd → List Addr
  | .lst a => [it, a]
  | .tup a => [it, a]
  | .str _ _ => [it]
/-- what else lies there -/
def Kd.Ok (h : Heap) (its : List Value) : Kd → Prop
  | .lst a => h.IsList a its.toArray
  | .tup a => h.IsTuple a its.toArray
  | .str _ _ => True
section
variable {X : Cx} {pins : List (Addr × Obj)} {σ : L2.St} {H : Hp} {s : Shared}
theorem Kd.inj (k : Kd) (I : Inv X pins σ H s) {xs ys : List V} (h : k.Sq X.K H xs) (h' : k.Sq X.K H ys) : xs = ys := by
  cases k with
  | lst a => exact I.list_inj h h'
  | tup a => exact I.tuple_inj h h'
  | str x t => exact h.trans h'.symm
theorem Kd.St.obj {k : Kd} {it : Addr} {i : Nat} {h : Heap} (st : k.St it i h) : ∃ o, h.get? it = some o ∧ ∀ v, o.data ≠ .cell v := by
  cases k with
  | lst a => obtain ⟨o, e, _, d⟩ := st; exact ⟨o, e, fun v q => by rw [d] at q; cases q⟩
  | tup a => obtain ⟨o, e, _, d⟩ := st; exact ⟨o, e, fun v q => by rw [d] at q; cases q⟩
  | str x t => obtain ⟨o, e, _, d⟩ := st; exact ⟨o, e, fun v q => by rw [d] at q; cases q⟩
theorem Kd.St.keep {k : Kd} {it : Addr} {i : Nat} {h h' : Heap} (st : k.St it i h) (e : ∀ o, h.get? it = some o → h'.get? it = some o) : k.St it i h' := by
  cases k with
  | lst a => exact Heap.IsListIter.at st e
  | tup a => exact Heap.IsTupleIter.at st e
  | str x t => obtain ⟨o, ho, r⟩ := st; exact ⟨o, e o ho, r⟩
theorem Kd.start (k : Kd) {h : Heap} {it : Addr} (e : h.get? it = some k.ob) : k.St it 0 h := by
  cases k with
  | lst a => exact ⟨_, e, rfl, rfl⟩
  | tup a => exact ⟨_, e, rfl, rfl⟩
  | str x t => exact ⟨_, e, rfl, rfl⟩
theorem vals_back {xs : List V} {us : List Value} (r : Vals xs us) : ∀ {i : Nat} {u : Value}, us[i]? = some u → ∃ x, xs[i]? = some x ∧ RelV x u := by
  induction r with
  | nil => intro i u e; simp at e
  | cons h t ih =>
    intro i u e
    cases i with
    | zero =>
      simp only [List.getElem?_cons_zero, Option.some.injEq] at e
      subst e
      exact ⟨_, rfl, h⟩
    | succ i =>
      simp only [List.getElem?_cons_succ] at e ⊢
      exact ih e
/-- the iterator at it draws the items -/
theorem Kd.draws (k : Kd) {A : Around} {it : Addr} (hh : A.handled = none) (I : Inv X pins σ H s) {xs : List V} (q : k.Sq X.K H xs) (hne : H it = none) (hK : ∀ a, k = .lst a ∨ k = .tup a → a ≠ it) :
    ∃ its P, k.Ok s.heap its ∧ Draws X.prog X.w A it (k.fp it) xs.length P (fun i h => k.St it i h ∧ k.Ok h its) ∧ ∀ i v, P i v → ∃ x, xs[i]? = some x ∧ RelV x v := by
  cases k with
  | lst a =>
    obtain ⟨its, rv, p, _⟩ := I.list q
    have D := Draws.list (prog := X.prog) (w := X.w) hh it a (hK a (.inl rfl)) its.toArray
    refine ⟨its, fun i v => its.toArray[i]? = some v, p.isList, ?_, fun i v h => ?_⟩
    · have e : its.toArray.size = xs.length := by simp [rv.length]
      rw [e] at D
      exact D
    · exact vals_back rv (by simpa using h)
  | tup a =>
    obtain ⟨its, rv, p, _⟩ := I.tuple q
    have D := Draws.tuple (prog := X.prog) (w := X.w) hh it a (hK a (.inr rfl)) its.toArray
    refine ⟨its, fun i v => its.toArray[i]? = some v, p, ?_, fun i v h => ?_⟩
    · have e : its.toArray.size = xs.length := by simp [rv.length]
      rw [e] at D
      exact D
    · exact vals_back rv (by simpa using h)
  | str x t =>
    have D := Draws.text (prog := X.prog) (w := X.w) hh it x t
    have q : xs = x.cps.toList.map fun c => V.str ⟨#[c]⟩ := q
    refine ⟨[], SignAt x, trivial, ⟨fun i h st => ⟨_, (Kd.St.obj st.1).choose_spec.1⟩, fun i h h' st k => ⟨D.frame i h h' st.1 k, trivial⟩, ?_, ?_⟩, fun i v h => ?_⟩
    · intro i s Q E hi st hQ
      exact D.item i s Q E (by simpa [q] using hi) st.1 fun x h' tk p st' sb => hQ x h' tk p ⟨st', trivial⟩ sb
    · intro s Q E st hE
      have e : xs.length = x.cps.size := by simp [q]
      rw [e] at st
      exact D.done s Q E st.1 hE
    · obtain ⟨c, u, hc, rfl⟩ := h
      refine ⟨.str ⟨#[c]⟩, ?_, u, rfl⟩
      rw [q, List.getElem?_map, Array.getElem?_toList, hc]
      rfl
end
/-- the pairs of two at each turn -/
def ItZ (K : PySem.W.Frag) (k1 k2 : Kd) : It :=
  ⟨fun i H => ∃ (xs ys : List V) (x y : V), k1.Sq K H xs ∧ k2.Sq K H ys ∧ xs[i]? = some x ∧ ys[i]? = some y,
    fun i H v H' => ∃ T x y, v = .ref T ∧ H T = none ∧ H' = upd H T (.tup [x, y]) ∧ (∀ xs, k1.Sq K H xs → xs[i]? = some x) ∧ ∀ ys, k2.Sq K H ys → ys[i]? = some y,
    fun i H => ∃ xs ys : List V, k1.Sq K H xs ∧ k2.Sq K H ys ∧ i = min xs.length ys.length⟩
theorem turn_zipK {P : Program} {w : World} {K : PySem.W.Frag} {elts : List Expr} {kk : Nat} {tpos : Pos} {k1 k2 : Kd} {z TI TO i1 i2 : Addr} (S : ZipSep2 z TI TO i1 i2 (k1.fp i1) (k2.fp i2)) (hk1 : ∀ a, k1 = .lst a ∨ k1 = .tup a → a ≠ i1) (hk2 : ∀ a, k2 = .lst a ∨ k2 = .tup a → a ≠ i2) :
    Turn P w K (.Tuple elts kk tpos) (ItZ K k1 k2) [z, TI, TO, i1, i2] z (fun i h => IsZip h z TI TO .none ∧ IsTupOf2 h TI (.ref i1) (.ref i2) ∧ (∃ x y, IsTupOf2 h TO x y) ∧ k1.St i1 i h ∧ k2.St i2 i h) where
  mem := by simp
  obj := fun i h st c hc => by
    obtain ⟨hz, hTI, ⟨x, y, hTO⟩, s1, s2⟩ := st
    simp only [List.mem_cons, List.not_mem_nil, or_false] at hc
    rcases hc with rfl | rfl | rfl | rfl | rfl
    · exact ⟨_, hz, fun v q => nomatch q⟩
    · exact ⟨_, hTI, fun v q => nomatch q⟩
    · exact ⟨_, hTO, fun v q => nomatch q⟩
    · exact s1.obj
    · exact s2.obj
  keep := fun i h h' st k => by
    obtain ⟨hz, hTI, ⟨x, y, hTO⟩, s1, s2⟩ := st
    exact ⟨k z (by simp) _ hz, k TI (by simp) _ hTI, ⟨x, y, k TO (by simp) _ hTO⟩, s1.keep fun o q => k i1 (by simp) o q, s2.keep fun o q => k i2 (by simp) o q⟩
  item := by
    intro X hP hw hK hc i pins s σ H E I hf st hg
    subst hP hw hK
    obtain ⟨hz, hTI, ⟨x0, y0, hTO⟩, s1, s2⟩ := st
    obtain ⟨xs, ys, x, y, qx, qy, ex, ey⟩ := hg
    have hh : X.A.in1.handled = none := I.ok.hd hc
    obtain ⟨its, P1, ok1, D1, g1⟩ := k1.draws hh I qx (hf i1 (by simp)).1 hk1
    obtain ⟨its2, P2, ok2, D2, g2⟩ := k2.draws hh I qy (hf i2 (by simp)).1 hk2
    have lx := (List.getElem?_eq_some_iff.mp ex).1
    have ly := (List.getElem?_eq_some_iff.mp ey).1
    have hzl : z < s.heap.objs.size := Heap.lt_size hz
    refine wpAny_pyNext_zipD2_item S D1 D2 hz hTI hTO ⟨s1, ok1⟩ ⟨s2, ok2⟩ lx ly fun u u2 h' tk p1 p2 z' TO' t1 t2 hT hsz hk => ?_
    obtain ⟨x', e1, ru⟩ := g1 i u p1
    obtain ⟨y', e2, ru2⟩ := g2 i u2 p2
    obtain rfl : x = x' := Option.some.inj (ex.symm.trans e1)
    obtain rfl : y = y' := Option.some.inj (ey.symm.trans e2)
    refine ⟨_, rfl, wpAny_letOwnedTupleGo_zip (s := { s with heap := h', toks := tk }) z' fun h'' z'' sb => ?_⟩
    have hT2 : IsTupOf2 h'' s.heap.objs.size u u2 := (sb.2 _ (Nat.ne_of_gt hzl)).trans hT
    have new : ObjOk X.prog X.w (upd H s.heap.objs.size (.tup [x, y])) h'' s.heap.objs.size (.tup [x, y]) :=
      ⟨by show 2 ≤ sizeLine; decide, [u, u2], .cons ru (.cons ru2 .nil), ⟨_, hT2, rfl, _, rfl⟩⟩
    have kk : ∀ c o, c ≠ z → c ≠ TO → c ≠ i1 → c ≠ i2 → s.heap.get? c = some o → h''.get? c = some o := fun c o c1 c2 c3 c4 q => (sb.2 c c1).trans (hk c o c1 c2 c3 c4 q)
    have I1 : Inv X pins σ (upd H s.heap.objs.size (.tup [x, y])) { s with heap := h'', toks := tk } :=
      I.turnedNew (ch := [z, TI, TO, i1, i2]) (fun c o hb q => by
        simp only [List.mem_cons, List.not_mem_nil, or_false, not_or] at hb
        exact kk c o hb.1 hb.2.2.1 hb.2.2.2.1 hb.2.2.2.2 q) hf (Nat.le_refl _) new
    refine ⟨.ref s.heap.objs.size, _, I1, rfl, ⟨_, x, y, rfl, I.hok.fresh (Nat.le_refl _), rfl, fun l hl => by rw [k1.inj I hl qx]; exact ex, fun l hl => by rw [k2.inj I hl qy]; exact ey⟩,
      ⟨z'', kk _ _ S.TIz S.TITO S.TIi1 S.TIi2 hTI, ⟨u, u2, (sb.2 _ S.TOz).trans TO'⟩, t1.1.keep fun o q => (sb.2 _ S.zi1.symm).trans q, t2.1.keep fun o q => (sb.2 _ S.zi2.symm).trans q⟩, fun c hcm => ?_⟩
    have hlt : c < s.heap.objs.size := by
      simp only [List.mem_cons, List.not_mem_nil, or_false] at hcm
      rcases hcm with rfl | rfl | rfl | rfl | rfl
      · exact hzl
      · exact Heap.lt_size hTI
      · exact Heap.lt_size hTO
      · obtain ⟨_, e, _⟩ := s1.obj; exact Heap.lt_size e
      · obtain ⟨_, e, _⟩ := s2.obj; exact Heap.lt_size e
    rw [upd_ne (Nat.ne_of_lt hlt)]
    exact (hf c hcm).1
  done := by
    intro X hP hw hK hc i pins s σ H E I hf st hg
    subst hP hw hK
    obtain ⟨hz, hTI, ⟨x0, y0, hTO⟩, s1, s2⟩ := st
    obtain ⟨xs, ys, qx, qy, rfl⟩ := hg
    have hh : X.A.in1.handled = none := I.ok.hd hc
    obtain ⟨its, P1, ok1, D1, g1⟩ := k1.draws hh I qx (hf i1 (by simp)).1 hk1
    obtain ⟨its2, P2, ok2, D2, g2⟩ := k2.draws hh I qy (hf i2 (by simp)).1 hk2
    refine wpAny_pyNext_zipD2_end S D1 D2 hz hTI hTO ⟨s1, ok1⟩ ⟨s2, ok2⟩ (Nat.min_le_left _ _) (Nat.min_le_right _ _) (by omega) fun h' tk hk => ⟨rfl, I.turnedL (ch := [z, TI, TO, i1, i2]) (fun c o hb q => ?_) hf⟩
    simp only [List.mem_cons, List.not_mem_nil, or_false, not_or] at hb
    exact hk c o hb.1 hb.2.2.1 hb.2.2.2.1 hb.2.2.2.2 q
  self := fun A i s Q E st h => wpAny_pyIter_zip st.1 h
/-- iter of each begins so -/
theorem Kd.begins (k : Kd) (its : List Value) : Begins k.val k.ob fun h => k.Ok h its := by
  cases k with
  | lst a => exact begins_list a its.toArray
  | tup a => exact begins_tuple a its.toArray
  | str x t => exact begins_text x t
theorem Kd.lt {X : Cx} {pins : List (Addr × Obj)} {σ : L2.St} {H : Hp} {s : Shared} (I : Inv X pins σ H s) {k : Kd} {xs : List V} (q : k.Sq X.K H xs) : ∀ a, k = .lst a ∨ k = .tup a → a < s.heap.objs.size := by
  intro a ha
  rcases ha with rfl | rfl
  · obtain ⟨its, rv, p, _⟩ := I.list q
    exact p.lt
  · obtain ⟨its, rv, p, _⟩ := I.tuple q
    obtain ⟨o, e, _⟩ := p
    exact Heap.lt_size e
theorem Kd.fp_eq (k : Kd) (it : Addr) : ∃ l, k.fp it = it :: l ∧ ∀ a ∈ l, k = .lst a ∨ k = .tup a := by
  cases k with
  | lst a => exact ⟨[a], rfl, fun b hb => .inl (by rw [List.mem_singleton.mp hb])⟩
  | tup a => exact ⟨[a], rfl, fun b hb => .inr (by rw [List.mem_singleton.mp hb])⟩
  | str x t => exact ⟨[], rfl, fun b hb => nomatch hb⟩
/-- a plain source and its iterator -/
theorem srcOf_kd {X : Cx} {m : List Addr} {H : Hp} {g : Hh} {d : D} {v : V} {u : Value} {s : Src} (A : At X.K m H g) (r : Rp X.K m H d v) (rv : RelV v u) (h : srcOf g d = some s) :
    ∃ k : Kd, u = k.val ∧ (∃ xs, k.Sq X.K H xs) ∧ ∀ m' H' G', Fut X.K m H m' H' → At X.K m' H' G' → stable s.keep G' = true → ∃ xs, k.Sq X.K H' xs ∧ Rps X.K m' H' s.items xs := by
  cases d with
  | tup ds =>
    cases h
    obtain ⟨a, vs, rfl, q, r⟩ := r
    cases rv
    exact ⟨.tup a, rfl, ⟨vs, q⟩, fun m' H' G' f _ _ => ⟨vs, f.tup _ _ q, Rps.fut f _ _ r⟩⟩
  | scr ds =>
    cases h
    obtain ⟨a, vs, rfl, q, r⟩ := r
    cases rv
    exact ⟨.lst a, rfl, ⟨vs, q.sql⟩, fun m' H' G' f _ _ => ⟨vs, (f.frl _ _ q).sql, Rps.fut f _ _ r⟩⟩
  | str x =>
    cases h
    obtain rfl : v = .str x := r
    obtain ⟨t, rfl⟩ := rv
    refine ⟨.str x t, rfl, ⟨_, rfl⟩, fun m' H' G' f _ _ => ⟨_, rfl, ?_⟩⟩
    unfold signs
    generalize x.cps.toList = l
    induction l with
    | nil => exact Rps.nil
    | cons c l ih => exact Rps.cons rfl ih
  | ref n =>
    obtain ⟨a, ha, rfl⟩ := r
    cases rv
    simp only [srcOf] at h
    split at h
    · rename_i xs e
      cases h
      obtain ⟨vs, q, _⟩ := A.of e ha
      refine ⟨.lst a, rfl, ⟨vs, .of q⟩, fun m' H' G' f A' st => ?_⟩
      simp only [stable, List.all_cons, List.all_nil, Bool.and_true, decide_eq_true_eq] at st
      obtain ⟨vs', q', r'⟩ := A'.of st (f.at ha)
      exact ⟨vs', .of q', r'⟩
    · cases h
  | _ => cases h
theorem stable_append {k l : List (Nat × Ob)} {g : Hh} (h : stable (k ++ l) g = true) : stable k g = true ∧ stable l g = true := by
  simpa [stable, List.all_append] using h
section
variable {X : Cx} {W : WX} {c : Cal} {e e2 : Expr} {ra rb : Exp} {tg : Expr} {pos p : Pos}
theorem si_zip {elts : List Expr} {kk : Nat} {tpos : Pos} (hg : Gl X "zip") (hm : X.mg "zip" = none) (ha : SE X W c e ra) (hb : SE X W c e2 rb)
    (hs : starEach [e, e2] X.env = (false, eval e X.env) :: starEach [e2] X.env) (hs2 : starEach [e2] X.env = [(false, eval e2 X.env)]) :
    SI X W c (.Tuple elts kk tpos) (.Call (.Name "zip" p) [e, e2] [] pos) (iZp ra rb) := by
  have h2 : SA X W c [e, e2] (aCons ra (aCons rb aNil)) := sa_cons ha (sa_cons hb sa_nil hs2) hs
  have hpl : (backTo pos (starEach [e2] X.env)).any (·.1) = false := by rw [hs2]; rfl
  refine ⟨fun pins s σ H R I h => ?_⟩
  have hta : LA X.K W (aCons ra (aCons rb aNil) c) σ H (fun us H1 => ∃ u w, us = [u, w] ∧ ∃ m g x y sx sy, At X.K m H1 g ∧ Rp X.K m H1 x u ∧ Rp X.K m H1 y w ∧ srcOf g x = some sx ∧ srcOf g y = some sy ∧
      ∀ m' H' J, Fut X.K m H1 m' H' → At X.K m' H' g → ItR X.K m' H' ⟨sx.keep ++ sy.keep, List.zipWith (fun a b => .tup [a, b]) sx.items sy.items⟩ J → R J H') := by
    obtain ⟨ρ, G, m, sl, a, P⟩ := h
    refine ⟨ρ, G, m, sl, a, ?_⟩
    unfold iZp at P
    unfold aCons aNil
    revert P
    cases ra c ρ G with
    | exc _ _ _ => exact fun P => P
    | err => exact fun P => P
    | ok x g =>
      dsimp only [Res.bind]
      cases rb c ρ g with
      | exc _ _ _ => exact fun P => P
      | err => exact fun P => P
      | ok y g2 =>
        dsimp only [Res.bind]
        intro P m1 H1 us f a1 r
        obtain ⟨u, _, rfl, r1, w, _, rfl, r2, r3⟩ := r
        cases r3
        refine ⟨u, w, rfl, m1, g2, x, y, ?_⟩
        split at P
        · rename_i sx sy e1 e2
          exact ⟨sx, sy, a1, r1, r2, e1, e2, fun m' H' J f' a' it => P m' H' J (f.trans f') a' it⟩
        · exact P.elim
  refine Call_ (ld_blt I hg hm PyProof.Rows.boot_zip (PyProof.Rows.callWith_type1 (thn (h2.run pos pins s σ H _ I hta) fun us s1 ⟨vs, H1, I1, r1, q1⟩ => ?_) hs hpl))
  obtain ⟨u, w, rfl, m, g, x, y, sx, sy, a1, rx, ry, ex, ey, q⟩ := q1
  cases r1 with
  | cons v1 rr =>
    cases rr with
    | cons v2 rr =>
      cases rr
      obtain ⟨k1, rfl, ⟨xs, sq1⟩, g1⟩ := srcOf_kd a1 rx v1 ex
      obtain ⟨k2, rfl, ⟨ys, sq2⟩, g2⟩ := srcOf_kd a1 ry v2 ey
      have l1 := Kd.lt I1 sq1
      have l2 := Kd.lt I1 sq2
      have hne : ∀ {k : Kd} {n : Nat}, (∀ a, k = .lst a ∨ k = .tup a → a < s1.heap.objs.size) → ∀ a, k = .lst a ∨ k = .tup a → a ≠ s1.heap.objs.size + n := fun h a ha => Nat.ne_of_lt (Nat.lt_of_lt_of_le (h a ha) (Nat.le_add_right _ _))
      have fr : ∀ n, FpOk X pins H1 (s1.heap.objs.size + n) := fun n => I1.fpOk (Nat.le_add_right _ _) (I1.hok.fresh (Nat.le_add_right _ _))
      have ok : ∀ {k : Kd} {xs : List V}, k.Sq X.K H1 xs → ∃ its, k.Ok s1.heap its := fun {k xs} q => by
        cases k with
        | lst a => obtain ⟨its, _, p, _⟩ := I1.list q; exact ⟨its, p.isList⟩
        | tup a => obtain ⟨its, _, p, _⟩ := I1.tuple q; exact ⟨its, p⟩
        | str x t => exact ⟨[], trivial⟩
      obtain ⟨its1, ok1⟩ := ok sq1
      obtain ⟨its2, ok2⟩ := ok sq2
      refine zip_begins2 (k1.begins its1) (k2.begins its2) ok1 ok2 fun h' hz hTI hTO h1 h2 hsz hk => wpAny_pyIter_zip hz ?_
      have I2 : Inv X pins σ H1 { s1 with heap := h' } := I1.kept (t' := s1.toks) hk
      obtain ⟨t1, et1, ht1⟩ := k1.fp_eq s1.heap.objs.size
      obtain ⟨t2, et2, ht2⟩ := k2.fp_eq (s1.heap.objs.size + 1)
      have S : ZipSep2 (s1.heap.objs.size + 4) (s1.heap.objs.size + 2) (s1.heap.objs.size + 3) s1.heap.objs.size (s1.heap.objs.size + 1) (k1.fp s1.heap.objs.size) (k2.fp (s1.heap.objs.size + 1)) := by
        rw [et1, et2]
        exact zip_sep2 (fun b hb => l1 b (ht1 b hb)) (fun b hb => l2 b (ht2 b hb))
      refine ⟨s1.heap.objs.size + 4, [s1.heap.objs.size + 4, s1.heap.objs.size + 2, s1.heap.objs.size + 3, s1.heap.objs.size, s1.heap.objs.size + 1], _, _, H1, rfl, I2, turn_zipK S (hne (n := 0) l1) (hne (n := 1) l2), ⟨hz, hTI, ⟨_, _, hTO⟩, k1.start h1, k2.start h2⟩, fun b hb => ?_, ?_⟩
      · simp only [List.mem_cons, List.not_mem_nil, or_false] at hb
        rcases hb with rfl | rfl | rfl | rfl | rfl
        · exact fr 4
        · exact fr 2
        · exact fr 3
        · exact fr 0
        · exact fr 1
      · refine q m H1 _ Fut.refl a1 ⟨fun i d m' H' G' f A' st hi => ?_, fun m' H' G' f A' st => ?_⟩
        · obtain ⟨st1, st2⟩ := stable_append st
          obtain ⟨xs, q1, r1⟩ := g1 m' H' G' f A' st1
          obtain ⟨ys, q2, r2⟩ := g2 m' H' G' f A' st2
          rw [List.getElem?_zipWith] at hi
          split at hi
          · rename_i a b ea eb
            cases hi
            obtain ⟨x, ex, rx⟩ := Rps.get r1 ea
            obtain ⟨y, ey, ry⟩ := Rps.get r2 eb
            refine ⟨⟨xs, ys, x, y, q1, q2, ex, ey⟩, fun v H'' yl => ?_⟩
            obtain ⟨T, x', y', rfl, hT, rfl, n1, n2⟩ := yl
            obtain rfl : x' = x := Option.some.inj ((n1 xs q1).symm.trans ex)
            obtain rfl : y' = y := Option.some.inj ((n2 ys q2).symm.trans ey)
            have fu := Fut.upd_new (K := X.K) (m := m') (o := HO.tup [x', y']) hT []
            rw [List.append_nil] at fu
            exact ⟨fu, A'.extra hT, T, [x', y'], rfl, .of upd_same, Rps.cons (Rp.fut fu _ _ rx) (Rps.cons (Rp.fut fu _ _ ry) Rps.nil)⟩
          · cases hi
        · obtain ⟨st1, st2⟩ := stable_append st
          obtain ⟨xs, q1, r1⟩ := g1 m' H' G' f A' st1
          obtain ⟨ys, q2, r2⟩ := g2 m' H' G' f A' st2
          refine ⟨xs, ys, q1, q2, ?_⟩
          rw [List.length_zipWith, Rps.len r1, Rps.len r2]
/-- a plain thing is walked -/
theorem si_plain (he : SE X W c e ra) : SI X W c tg e (iPl ra) := by
  refine ⟨fun pins s σ H R I h => ?_⟩
  obtain ⟨ρ, G, m, sl, a, P⟩ := h
  -- one reading for every sort
  have key : ∀ (sort : V → Hp → (It → Hp → Prop) → Prop) (hp : PI X tg e fun σ H R => LE X.K W (ra c) σ H fun v H1 => sort v H1 R),
      (∀ d g s m1 H1 v, ra c ρ G = .ok d g → srcOf g d = some s → At X.K m1 H1 g → Rp X.K m1 H1 d v → Fut X.K m H m1 H1 → (∀ J, ItR X.K m1 H1 s J → R J H1) → sort v H1 R) →
      wpAny (model X.prog X.w) X.A (eval e X.env) (fun v s1 => wpAny (model X.prog X.w) X.A (pyIter v) (PIE X pins σ tg R) X.xe s1) X.xe s := fun sort hp hs => by
    refine hp.run pins s σ H R I ⟨ρ, G, m, sl, a, ?_⟩
    unfold iPl at P
    cases er : ra c ρ G with
    | exc _ _ _ => rw [er] at P; exact P
    | err => rw [er] at P; exact P
    | ok d g =>
      rw [er] at P
      dsimp only [Res.bind] at P
      cases es : srcOf g d with
      | none => simp only [es] at P; exact P.elim
      | some sr =>
        simp only [es] at P
        intro m1 H1 v f a1 r
        exact hs d g sr m1 H1 v er es a1 r f fun J it => P m1 H1 J f a1 it
  cases er : ra c ρ G with
  | exc _ _ _ => exact key (fun x H1 R => ∃ a, x = .ref a ∧ (∃ xs, SqL X.K H1 a xs) ∧ R (Itl X.K a) H1) (pi_list he) fun d g s m1 H1 v e' => by rw [er] at e'; cases e'
  | err => exact key (fun x H1 R => ∃ a, x = .ref a ∧ (∃ xs, SqL X.K H1 a xs) ∧ R (Itl X.K a) H1) (pi_list he) fun d g s m1 H1 v e' => by rw [er] at e'; cases e'
  | ok d g =>
    cases d with
    | tup ds =>
      refine key (fun x H1 R => ∃ a, x = .ref a ∧ (∃ xs, SqT X.K H1 a xs) ∧ R (Itt X.K a) H1) (pi_tup he) fun d' g' s m1 H1 v e' es a1 r f q => ?_
      rw [er] at e'
      cases e'
      cases es
      obtain ⟨p, vs, rfl, hq, r⟩ := r
      refine ⟨p, rfl, ⟨vs, hq⟩, q _ ⟨fun i d m' H' G' f' A' st hi => ?_, fun m' H' G' f' A' st => ⟨vs, f'.tup _ _ hq, by rw [Rps.len r]; exact Nat.le_refl _⟩⟩⟩
      obtain ⟨x, ex, rx⟩ := Rps.get (Rps.fut f' _ _ r) hi
      refine ⟨⟨vs, x, f'.tup _ _ hq, ex⟩, fun y H'' yl => ?_⟩
      obtain ⟨rfl, yl⟩ := yl
      obtain rfl : x = y := Option.some.inj (ex.symm.trans (yl vs (f'.tup _ _ hq)))
      exact ⟨Fut.refl, A', rx⟩
    | str z =>
      refine key (fun v H1 R => ∃ x, v = .str x ∧ R (Its x) H1) (pi_str he) fun d' g' s m1 H1 v e' es a1 r f q => ?_
      rw [er] at e'
      cases e'
      cases es
      obtain rfl : v = .str z := r
      refine ⟨z, rfl, q _ ⟨fun i d m' H' G' f' A' st hi => ?_, fun m' H' G' f' A' st => by simp [signs, Its]⟩⟩
      simp only [signs, List.getElem?_map, Array.getElem?_toList] at hi
      obtain ⟨cc, ec, rfl⟩ := Option.map_eq_some_iff.mp hi
      refine ⟨(Array.getElem?_eq_some_iff.mp ec).1, fun y H'' yl => ?_⟩
      obtain ⟨rfl, c', ec', rfl⟩ := yl
      obtain rfl : cc = c' := Option.some.inj (ec.symm.trans ec')
      exact ⟨Fut.refl, A', rfl⟩
    | scr ds =>
      refine key (fun x H1 R => ∃ a, x = .ref a ∧ (∃ xs, SqL X.K H1 a xs) ∧ R (Itl X.K a) H1) (pi_list he) fun d' g' s m1 H1 v e' es a1 r f q => ?_
      rw [er] at e'
      cases e'
      cases es
      obtain ⟨p, vs, rfl, hq, r⟩ := r
      refine ⟨p, rfl, ⟨vs, hq.sql⟩, q _ ⟨fun i d m' H' G' f' A' st hi => ?_, fun m' H' G' f' A' st => ⟨vs, (f'.frl _ _ hq).sql, by rw [Rps.len r]; exact Nat.le_refl _⟩⟩⟩
      obtain ⟨x, ex, rx⟩ := Rps.get (Rps.fut f' _ _ r) hi
      refine ⟨⟨vs, x, (f'.frl _ _ hq).sql, ex⟩, fun y H'' yl => ?_⟩
      obtain ⟨rfl, yl⟩ := yl
      obtain rfl : x = y := Option.some.inj (ex.symm.trans (yl vs (f'.frl _ _ hq).sql))
      exact ⟨Fut.refl, A', rx⟩
    | ref n =>
      refine key (fun x H1 R => ∃ a, x = .ref a ∧ (∃ xs, SqL X.K H1 a xs) ∧ R (Itl X.K a) H1) (pi_list he) fun d' g' s m1 H1 v e' es a1 r f q => ?_
      rw [er] at e'
      cases e'
      obtain ⟨p, hp, rfl⟩ := r
      simp only [srcOf] at es
      split at es
      · rename_i ds e0
        cases es
        obtain ⟨vs, hq, _⟩ := a1.of e0 hp
        have at1 : ∀ m' H' G', Fut X.K m1 H1 m' H' → At X.K m' H' G' → stable [(n, Ob.lst ds)] G' = true → ∃ vs, H' p = some (.lst vs) ∧ Rps X.K m' H' ds vs := fun m' H' G' f' A' st => by
          simp only [stable, List.all_cons, List.all_nil, Bool.and_true, decide_eq_true_eq] at st
          exact A'.of st (f'.at hp)
        refine ⟨p, rfl, ⟨vs, .of hq⟩, q _ ⟨fun i d m' H' G' f' A' st hi => ?_, fun m' H' G' f' A' st => ?_⟩⟩
        · obtain ⟨vs, hq, r⟩ := at1 m' H' G' f' A' st
          obtain ⟨x, ex, rx⟩ := Rps.get r hi
          refine ⟨⟨vs, x, .of hq, ex⟩, fun y H'' yl => ?_⟩
          obtain ⟨rfl, yl⟩ := yl
          obtain rfl : x = y := Option.some.inj (ex.symm.trans (yl vs (.of hq)))
          exact ⟨Fut.refl, A', rx⟩
        · obtain ⟨vs, hq, r⟩ := at1 m' H' G' f' A' st
          exact ⟨vs, .of hq, by rw [Rps.len r]; exact Nat.le_refl _⟩
      · cases es
    | _ => exact key (fun x H1 R => ∃ a, x = .ref a ∧ (∃ xs, SqL X.K H1 a xs) ∧ R (Itl X.K a) H1) (pi_list he) fun d' g' s m1 H1 v e' es => by rw [er] at e'; cases e'; cases es
/-! ranges -/
def rngD (lo : Int) (n : Nat) : List D := (List.range n).map fun (i : Nat) => D.int (lo + i)
def int1 : List D → Option Int
  | [.int j] => some j
  | _ => none
def int2 : List D → Option (Int × Int)
  | [.int i, .int j] => some (i, j)
  | _ => none
def int3 : List D → Option (Int × Int × Int)
  | [.int i, .int j, .int k] => some (i, j, k)
  | _ => none
theorem int1_of {ds : List D} {j : Int} (h : int1 ds = some j) : ds = [.int j] := by
  unfold int1 at h
  split at h
  · cases h; rfl
  · cases h
theorem int2_of {ds : List D} {j : Int × Int} (h : int2 ds = some j) : ds = [.int j.1, .int j.2] := by
  unfold int2 at h
  split at h
  · cases h; rfl
  · cases h
theorem int3_of {ds : List D} {j : Int × Int × Int} (h : int3 ds = some j) : ds = [.int j.1, .int j.2.1, .int j.2.2] := by
  unfold int3 at h
  split at h
  · cases h; rfl
  · cases h
@[irreducible] def iRg1 (rs : Arg) : Itx := fun c ρ g => (rs c ρ g).bind fun ds g => match int1 ds with
  | some j => if -(2 ^ 62) ≤ j ∧ j < 2 ^ 62 then .ok ⟨[], rngD 0 j.toNat⟩ g else .err
  | none => .err
def iRg2 (rs : Arg) : Itx := fun c ρ g => (rs c ρ g).bind fun ds g => match int2 ds with
  | some (i, j) => if -(2 ^ 62) ≤ i ∧ i < 2 ^ 62 ∧ -(2 ^ 62) ≤ j ∧ j < 2 ^ 62 then .ok ⟨[], rngD i (j - i).toNat⟩ g else .err
  | none => .err
def rngC (lo k : Int) (n : Nat) : List D := (List.range n).map fun (i : Nat) => D.int (lo + i * k)
/-- range down by one -/
def iRg3 (rs : Arg) : Itx := fun c ρ g => (rs c ρ g).bind fun ds g => match int3 ds with
  | some (i, j, k) => if -(2 ^ 62) ≤ i ∧ i < 2 ^ 62 ∧ -(2 ^ 62) ≤ j ∧ j < 2 ^ 62 ∧ k = -1 then .ok ⟨[], rngC i (-1) (i - j).toNat⟩ g else .err
  | none => .err
theorem itr_range {K : PySem.W.Frag} {m : List Addr} {H : Hp} {lo : Int} {n : Nat} : ItR K m H ⟨[], rngD lo n⟩ (Itr lo n) := by
  refine ⟨fun i d m' H' G' f' A' st hi => ?_, fun m' H' G' f' A' st => by simp [rngD, Itr]⟩
  simp only [rngD, List.getElem?_map] at hi
  obtain ⟨j, ej, rfl⟩ := Option.map_eq_some_iff.mp hi
  obtain ⟨hl, rfl⟩ := List.getElem?_eq_some_iff.mp ej
  refine ⟨by simp at hl; exact hl, fun y H'' yl => ?_⟩
  obtain ⟨rfl, rfl⟩ := yl
  exact ⟨Fut.refl, A', by simp [Rp]⟩
theorem itr_rangeC {K : PySem.W.Frag} {m : List Addr} {H : Hp} {lo k : Int} {n : Nat} : ItR K m H ⟨[], rngC lo k n⟩ (Itc lo k n) := by
  refine ⟨fun i d m' H' G' f' A' st hi => ?_, fun m' H' G' f' A' st => by simp [rngC, Itc]⟩
  simp only [rngC, List.getElem?_map] at hi
  obtain ⟨j, ej, rfl⟩ := Option.map_eq_some_iff.mp hi
  obtain ⟨hl, rfl⟩ := List.getElem?_eq_some_iff.mp ej
  refine ⟨by simp at hl; exact hl, fun y H'' yl => ?_⟩
  obtain ⟨rfl, rfl⟩ := yl
  exact ⟨Fut.refl, A', by simp [Rp]⟩
theorem si_range1 {rs : Arg} (hg : Gl X "range") (hm : X.mg "range" = none) (ha : SA X W c [e] rs) (hs : starEach [e] X.env = [(false, eval e X.env)]) : SI X W c tg (.Call (.Name "range" p) [e] [] pos) (iRg1 rs) := by
  refine ⟨fun pins s σ H R I h => (pi_range1 hg hm ha hs).run pins s σ H R I ?_⟩
  obtain ⟨ρ, G, m, sl, a, P⟩ := h
  unfold iRg1 at P
  refine ⟨ρ, G, m, sl, a, PostR.step P fun ds g m1 H1 vs f1 a1 r P1 => ?_⟩
  cases ei : int1 ds with
  | none => simp only [ei] at P1; exact P1.elim
  | some j =>
    simp only [ei] at P1
    obtain rfl := int1_of ei
    obtain ⟨v, _, rfl, r1, r2⟩ := r
    cases r2
    split at P1
    · rename_i hj
      exact ⟨j, by rw [show v = V.int j from r1], hj.1, hj.2, P1 m1 H1 _ Fut.refl a1 itr_range⟩
    · exact P1.elim
theorem si_range2 {rs : Arg} (hg : Gl X "range") (hm : X.mg "range" = none) (ha : SA X W c [e, e2] rs) (hs : starEach [e, e2] X.env = [(false, eval e X.env), (false, eval e2 X.env)]) (hs2 : starEach [e2] X.env = [(false, eval e2 X.env)]) : SI X W c tg (.Call (.Name "range" p) [e, e2] [] pos) (iRg2 rs) := by
  refine ⟨fun pins s σ H R I h => (pi_range2 hg hm ha hs hs2).run pins s σ H R I ?_⟩
  obtain ⟨ρ, G, m, sl, a, P⟩ := h
  refine ⟨ρ, G, m, sl, a, PostR.step P fun ds g m1 H1 vs f1 a1 r P1 => ?_⟩
  cases ei : int2 ds with
  | none => simp only [ei] at P1; exact P1.elim
  | some j =>
    simp only [ei] at P1
    obtain rfl := int2_of ei
    obtain ⟨v, _, rfl, r1, w, _, rfl, r2, r3⟩ := r
    cases r3
    split at P1
    · rename_i hj
      exact ⟨j.1, j.2, by rw [show v = V.int _ from r1, show w = V.int _ from r2], hj, P1 m1 H1 _ Fut.refl a1 itr_range⟩
    · exact P1.elim
theorem si_range3 {e3 : Expr} {rs : Arg} (hg : Gl X "range") (hm : X.mg "range" = none) (ha : SA X W c [e, e2, e3] rs) (hs : starEach [e, e2, e3] X.env = (false, eval e X.env) :: starEach [e2, e3] X.env) (hpl : (backTo pos (starEach [e2, e3] X.env)).any (·.1) = false) : SI X W c tg (.Call (.Name "range" p) [e, e2, e3] [] pos) (iRg3 rs) := by
  refine ⟨fun pins s σ H R I h => (pi_range3 hg hm ha hs hpl).run pins s σ H R I ?_⟩
  obtain ⟨ρ, G, m, sl, a, P⟩ := h
  refine ⟨ρ, G, m, sl, a, PostR.step P fun ds g m1 H1 vs f1 a1 r P1 => ?_⟩
  cases ei : int3 ds with
  | none => simp only [ei] at P1; exact P1.elim
  | some j =>
    simp only [ei] at P1
    obtain rfl := int3_of ei
    obtain ⟨v, _, rfl, r1, w, _, rfl, r2, u, _, rfl, r3, r4⟩ := r
    cases r4
    split at P1
    · rename_i hj
      refine ⟨j.1, j.2.1, -1, _, by rw [show v = V.int _ from r1, show w = V.int _ from r2, show u = V.int _ from r3, hj.2.2.2.2], .neg hj.1 hj.2.1 hj.2.2.1 hj.2.2.2.1, P1 m1 H1 _ Fut.refl a1 itr_rangeC⟩
    · exact P1.elim
end
end Ev

namespace Ev
open PySem PySem.Spec PyProof.Rows L2

/-! ## 9. Subscripts, slices, fields -/
def getK (kvs : List (D × D)) (k : D) : Option D := (kvs.find? fun p => decide (p.1 = k)).map (·.2)
def dIx (x y : D) (g : Hh) : Option (D × Hh) := match x, y with
  | .tup xs, .int i => (atI xs i).map fun d => (d, g)
  | .scr xs, .int i => (atI xs i).map fun d => (d, g)
  | .str z, .int i => if z.length ≤ sizeLine then (atI z.cps.toList i).map fun c => (.str ⟨#[c]⟩, g) else none
  | .ref n, y => match g[n]? with
    | some (.lst xs) => match y with
      | .int i => (atI xs i).map fun d => (d, g)
      | _ => none
    | some (.dct kvs) => match y with
      | .int i => (getK kvs (.int i)).map fun d => (d, g)
      | .str i => (getK kvs (.str i)).map fun d => (d, g)
      | _ => none
    | _ => none
  | _, _ => none
def cutD (xs : List D) (lo hi : Option Int) : List D := (xs.drop (HT.sIx xs.length 0 lo)).take (HT.sIx xs.length xs.length hi - HT.sIx xs.length 0 lo)
def dSl (x : D) (lo hi : Option Int) (g : Hh) : Option (D × Hh) := match x with
  | .tup xs => some (.tup (cutD xs lo hi), g)
  | .scr xs => some (.ref g.length, g ++ [.lst (cutD xs lo hi)])
  | .str z => if z.length ≤ sizeLine then some (.str (cutS z lo hi), g) else none
  | .ref n => match g[n]? with
    | some (.lst xs) => some (.ref g.length, g ++ [.lst (cutD xs lo hi)])
    | _ => none
  | _ => none
def dRev (x : D) (g : Hh) : Option (D × Hh) := match x with
  | .scr xs => some (.ref g.length, g ++ [.lst xs.reverse])
  | .ref n => match g[n]? with
    | some (.lst xs) => some (.ref g.length, g ++ [.lst xs.reverse])
    | _ => none
  | _ => none
/-- a part of a slice -/
abbrev Prt := Cal → Env' → Hh → Res (Option Int)
def pNo : Prt := fun _ _ g => .ok none g
def pSome (r : Exp) : Prt := fun c ρ g => (r c ρ g).bind fun d g => match d with
  | .int i => .ok (some i) g
  | _ => .err
def eSl (r : Exp) (lo hi : Prt) : Exp := fun c ρ g => (r c ρ g).bind fun x g => (lo c ρ g).bind fun l g => (hi c ρ g).bind fun h g => Res.of (dSl x l h g)
def eFld (cs : List Str) (f : Str) (ro : Exp) : Exp := fun c ρ g => (ro c ρ g).bind fun x g => match x with
  | .ref n => match g[n]? with
    | some (.ins cl fs) => if cl ∈ cs then (match fs.lookup f with
      | some d => .ok d g
      | none => .err) else .err
    | _ => .err
  | _ => .err
def LP (K : PySem.W.Frag) (W : WX) (r : Env' → Hh → Res (Option Int)) : L2.TO := fun σ H Q => ∃ ρ G m, Sl K m H ρ σ ∧ At K m H G ∧ PostR (fun _ _ a b => a = b) K W m H σ Q (r ρ G)

section
variable {K : PySem.W.Frag} {m : List Addr} {H : Hp}
theorem Rps.atI {ds : List D} {vs : List V} (r : Rps K m H ds vs) {i : Int} {d : D} (h : L2.atI ds i = some d) : ∃ v, L2.atI vs i = some v ∧ Rp K m H d v := by
  unfold L2.atI at h ⊢
  rw [← Rps.len r]
  cases e : ixN ds.length i with
  | none => rw [e] at h; cases h
  | some j => rw [e] at h; exact Rps.get r h
theorem Rps.cut {ds : List D} {vs : List V} (r : Rps K m H ds vs) (lo hi : Option Int) : Rps K m H (cutD ds lo hi) (cutV vs lo hi) := by
  unfold cutD cutV
  rw [← Rps.len r]
  exact Rps.take _ (Rps.drop _ r)
theorem Rfs.get {fs : List (Str × D)} {vs : List (Str × V)} (r : Rfs K m H fs vs) {f : Str} {d : D} (h : fs.lookup f = some d) : ∃ v, vs.lookup f = some v ∧ Rp K m H d v := by
  obtain ⟨r1, r2⟩ := r
  induction fs generalizing vs with
  | nil => cases h
  | cons p ps ih =>
    cases vs with
    | nil => cases r1
    | cons q qs =>
      obtain ⟨a, b⟩ := p
      obtain ⟨a', b'⟩ := q
      simp only [List.map_cons, List.cons.injEq] at r1
      obtain ⟨rfl, r1⟩ := r1
      obtain ⟨v, _, e, ra, rb⟩ := r2
      simp only [List.map_cons, List.cons.injEq] at e
      obtain ⟨rfl, rfl⟩ := e
      rw [List.lookup_cons] at h ⊢
      cases hf : f == a with
      | true => rw [hf] at h; cases h; exact ⟨_, rfl, ra⟩
      | false => rw [hf] at h; exact ih h r1 rb
theorem getK_at {kvs : List (D × D)} {ks : List (Key × V)} (e : kvs.map (·.1) = ks.map (fun k => keyD k.1)) (r : Rps K m H (kvs.map (·.2)) (ks.map (·.2))) (k : Key) {d : D} (h : getK kvs (keyD k) = some d) :
    ∃ v, valV ks k = some v ∧ Rp K m H d v := by
  have ki : ∀ a b : Key, keyD a = keyD b → a = b := fun a b e => by
    cases a <;> cases b <;> first | (cases e; rfl) | cases e
  induction kvs generalizing ks with
  | nil => cases h
  | cons p ps ih =>
    cases ks with
    | nil => cases e
    | cons q qs =>
      obtain ⟨a, b⟩ := p
      obtain ⟨a', b'⟩ := q
      simp only [List.map_cons, List.cons.injEq] at e
      obtain ⟨e1, e2⟩ := e
      obtain ⟨v, _, e3, ra, rb⟩ := r
      simp only [List.map_cons, List.cons.injEq] at e3
      obtain ⟨rfl, rfl⟩ := e3
      unfold getK at h
      rw [List.find?_cons] at h
      by_cases hk : a' = k
      · subst hk
        rw [decide_eq_true e1] at h
        cases h
        exact ⟨b', by unfold valV; rw [List.find?_cons, decide_eq_true rfl]; rfl, ra⟩
      · rw [decide_eq_false (fun z => hk (ki _ _ (e1.symm.trans z)))] at h
        obtain ⟨v, h1, h2⟩ := ih e2 rb (by unfold getK; exact h)
        refine ⟨v, ?_, h2⟩
        unfold valV at h1 ⊢
        rw [List.find?_cons, decide_eq_false hk]
        exact h1
end
theorem PostO.mapS {K : PySem.W.Frag} {m : List Addr} {H : Hp} {g : Hh} {Q : VK} {α : Type} {o : Option α} {f : α → D} (P : PostO K m H Q (o.map fun d => (f d, g))) : ∃ d, o = some d ∧ PostO K m H Q (some (f d, g)) := by
  cases o with
  | none => exact P.elim
  | some d => exact ⟨d, rfl, P⟩
section
variable {X : Cx} {W : WX} {c : Cal} {a b e : Expr} {ra rb : Exp} {pos : Pos}
theorem ix_all (hu : X.A.units + 2 < cLine) : IxR X (rO X.K dIx) := by
  intro value slice pins s σ H v u vv uu Q I rv ru ⟨m, G, x, y, at', rx, ry, P⟩ hs
  cases x with
  | tup xs =>
    cases y with
    | int i =>
      obtain ⟨d, e, P⟩ := PostO.mapS P
      obtain ⟨p, vs, rfl, q, r⟩ := rx
      obtain rfl : u = .int i := ry
      obtain ⟨w, ew, rw'⟩ := Rps.atI r e
      exact ix_tup value slice pins s σ H _ _ vv uu Q I rv ru ⟨p, vs, i, w, rfl, rfl, q, ew, P.same at' rw'⟩ hs
    | _ => exact P.elim
  | scr xs =>
    cases y with
    | int i =>
      obtain ⟨d, e, P⟩ := PostO.mapS P
      obtain ⟨p, vs, rfl, q, r⟩ := rx
      obtain rfl : u = .int i := ry
      obtain ⟨w, ew, rw'⟩ := Rps.atI r e
      exact ix_list value slice pins s σ H _ _ vv uu Q I rv ru ⟨p, vs, i, w, rfl, rfl, q.sql, ew, P.same at' rw'⟩ hs
    | _ => exact P.elim
  | str z =>
    cases y with
    | int i =>
      obtain rfl : v = .str z := rx
      obtain rfl : u = .int i := ry
      simp only [dIx] at P
      split at P
      · rename_i hl
        obtain ⟨d, e, P⟩ := PostO.mapS P
        exact ix_str value slice pins s σ H _ _ vv uu Q I rv ru ⟨z, i, d, rfl, rfl, hl, e, P.same at' rfl⟩ hs
      · exact P.elim
    | _ => exact P.elim
  | ref n =>
    obtain ⟨p, hp, rfl⟩ := rx
    simp only [dIx] at P
    split at P
    · rename_i xs e0
      cases y with
      | int i =>
        obtain ⟨d, e, P⟩ := PostO.mapS P
        obtain rfl : u = .int i := ry
        obtain ⟨vs, q, r⟩ := at'.of e0 hp
        obtain ⟨w, ew, rw'⟩ := Rps.atI r e
        exact ix_list value slice pins s σ H _ _ vv uu Q I rv ru ⟨p, vs, i, w, rfl, rfl, .of q, ew, P.same at' rw'⟩ hs
      | _ => exact P.elim
    · rename_i kvs e0
      obtain ⟨ks, q1, q2, q3, _⟩ := at'.of e0 hp
      obtain rfl : vv = .ref p := rv
      have fin : ∀ (k : Key) (d : D), u = kV k → getK kvs (keyD k) = some d → PostO X.K m H Q (some (d, G)) → wpAny (model X.prog X.w) X.A (subscriptTail value slice (.ref p) uu) (EP X pins σ Q) X.xe s := fun k d eu ek P => by
        subst eu
        obtain ⟨w, ew, rw'⟩ := getK_at q2 q3 k ek
        have g : DGet H p (kV k) (some w) := ew ▸ DGet.k q1
        have hT := dict_typeIs I g
        refine tail_any hT PySem.F.slot_dict_getitem.lookup (d_getItem (by have := hu; omega) I g ru fun w' s3 I3 rw2 => ⟨w, H, I3, rw2, P.same at' rw'⟩) hs
      cases y with
      | int i =>
        obtain ⟨d, e, P⟩ := PostO.mapS P
        exact fin (.inl i) d ry e P
      | str i =>
        obtain ⟨d, e, P⟩ := PostO.mapS P
        exact fin (.inr i) d ry e P
      | _ => exact P.elim
    · exact P.elim
  | _ => exact P.elim
theorem se_ix (hu : X.A.units + 2 < cLine) (ha : SE X W c a ra) (hb : SE X W c b rb) (hs : PlainIx b) : SE X W c (.Subscript a b pos) (eOp dIx ra rb) :=
  pe_imp (pe_ix (ix_all hu) ha hb hs) fun _ _ _ h => le_bin h
/-! slices -/
def rSl (K : PySem.W.Frag) : V → Option Int → Option Int → Hp → VK → Prop := fun v lo hi H Q => ∃ m G x, At K m H G ∧ Rp K m H x v ∧ PostO K m H Q (dSl x lo hi G)
theorem sl_all : SlR X (rSl X.K) := by
  intro pins s σ H v vv vl vu lo hi sl Q I rv hs pl pu ⟨m, G, x, at', rx, P⟩
  cases x with
  | tup xs =>
    obtain ⟨p, vs, rfl, q, r⟩ := rx
    refine sl_tupA pins s σ H _ vv vl vu lo hi sl Q I rv hs pl pu ⟨p, vs, rfl, q, fun h => ?_, fun _ t ht => P.tup at' (r.cut lo hi) ht⟩
    refine P.same at' ⟨p, vs, rfl, q, ?_⟩
    have := r.cut lo hi
    unfold cutV at this
    rw [h.1, h.2, List.drop_zero, Nat.sub_zero, List.take_length] at this
    exact this
  | scr xs =>
    obtain ⟨p, vs, rfl, q, r⟩ := rx
    exact sl_list pins s σ H _ vv vl vu lo hi sl Q I rv hs pl pu ⟨p, vs, rfl, q.sql, fun t ht => P.lst at' (r.cut lo hi) ht⟩
  | str z =>
    obtain rfl : v = .str z := rx
    simp only [dSl] at P
    split at P
    · rename_i hl
      exact sl_str pins s σ H _ vv vl vu lo hi sl Q I rv hs pl pu ⟨z, rfl, hl, P.same at' rfl⟩
    · exact P.elim
  | ref n =>
    obtain ⟨p, hp, rfl⟩ := rx
    simp only [dSl] at P
    split at P
    · rename_i xs e0
      obtain ⟨vs, q, r⟩ := at'.of e0 hp
      exact sl_list pins s σ H _ vv vl vu lo hi sl Q I rv hs pl pu ⟨p, vs, rfl, .of q, fun t ht => P.lst at' (r.cut lo hi) ht⟩
    · exact P.elim
  | _ => exact P.elim
abbrev SP' (X : Cx) (W : WX) (c : Cal) (e : Option Expr) (r : Prt) : Prop := PO X e (LP X.K W (r c))
theorem sp_no : SP' X W c none pNo := by
  refine ⟨fun pins s σ H Q I h => po_none.run pins s σ H Q I ?_⟩
  obtain ⟨ρ, G, m, sl, a, P⟩ := h
  exact P m H _ Fut.refl a rfl
theorem sp_some (h : SE X W c e ra) : SP' X W c (some e) (pSome ra) := by
  refine ⟨fun pins s σ H Q I q => (po_some h).run pins s σ H Q I ?_⟩
  obtain ⟨ρ, G, m, sl, a, P⟩ := q
  refine ⟨ρ, G, m, sl, a, PostR.step P fun x g m1 H1 v f1 a1 r1 P1 => ?_⟩
  cases x with
  | int i => exact ⟨i, r1, P1 m1 H1 _ Fut.refl a1 rfl⟩
  | _ => exact P1.elim
theorem se_sl {lo hi : Option Expr} {pl ph : Prt} {p2 : Pos} (ha : SE X W c a ra) (hl : SP' X W c lo pl) (hh : SP' X W c hi ph) : SE X W c (.Subscript a (.Slice lo hi none p2) pos) (eSl ra pl ph) := by
  refine pe_imp (pe_slice sl_all ha hl hh) fun σ H Q h => ?_
  obtain ⟨ρ, G, m, s, at', P⟩ := h
  refine ⟨ρ, G, m, s, at', PostR.step P fun x g m1 H1 v f1 a1 r1 P1 => ?_⟩
  refine ⟨ρ, g, m1, s.fut f1, a1, PostR.step P1 fun l g2 m2 H2 l' f2 a2 r2 P2 => ?_⟩
  have r2 : l = l' := r2
  subst r2
  refine ⟨ρ, g2, m2, s.fut (f1.trans f2), a2, PostR.step P2 fun h g3 m3 H3 h' f3 a3 r3 P3 => ?_⟩
  have r3 : h = h' := r3
  subst r3
  exact ⟨m3, g3, x, a3, Rp.fut (f2.trans f3) _ _ r1, PostR.of.mp P3⟩
theorem se_rev {k : Nat} {p1 p2 p3 : Pos} (ha : SE X W c a ra) : SE X W c (.Subscript a (.Slice none none (some (.UnaryOp .USub (.Constant (.int 1) k p1) p2)) p3) pos) (eUn dRev ra) := by
  refine pe_imp (pe_revL ha) fun σ H Q h => ?_
  obtain ⟨ρ, G, m, s, at', P⟩ := h
  refine ⟨ρ, G, m, s, at', PostR.step P fun x g m1 H1 v f1 a1 r1 P1 => ?_⟩
  have P1 := PostR.of.mp P1
  cases x with
  | scr xs =>
    obtain ⟨p, vs, rfl, q, r⟩ := r1
    exact ⟨p, vs, rfl, q.sql, fun t ht => P1.lst a1 (Rps.rev r) ht⟩
  | ref n =>
    obtain ⟨p, hp, rfl⟩ := r1
    simp only [dRev] at P1
    split at P1
    · rename_i xs e0
      obtain ⟨vs, q, r⟩ := a1.of e0 hp
      exact ⟨p, vs, rfl, .of q, fun t ht => P1.lst a1 (Rps.rev r) ht⟩
    · exact P1.elim
  | _ => exact P1.elim
/-! fields -/
def ClsOk (K : PySem.W.Frag) (cl : Str) (f : Str) : Prop := Cls K (He.ga K cl) ∧ NoAttr K (He.ga K cl) f
theorem se_fld {cs : List Str} {f : Str} (h : SE X W c e ra) (hc : ∀ cl ∈ cs, ClsOk X.K cl f) (hb : attributeBase e f X.env (eval e X.env) = eval e X.env) : SE X W c (.Attribute e f pos) (eFld cs f ra) := by
  refine pe_imp (pe_fld h hb) fun σ H Q h => ?_
  obtain ⟨ρ, G, m, s, at', P⟩ := h
  refine ⟨ρ, G, m, s, at', PostR.step P fun x g m1 H1 v f1 a1 r1 P1 => ?_⟩
  cases x with
  | ref n =>
    obtain ⟨p, hp, rfl⟩ := r1
    dsimp only at P1
    split at P1
    · rename_i cl fs e0
      split at P1
      · rename_i hcl
        obtain ⟨dx, vs, q, rr⟩ := a1.of e0 hp
        split at P1
        · rename_i d ed
          obtain ⟨w, ew, rw'⟩ := rr.get ed
          obtain ⟨h1, h2⟩ := hc cl hcl
          exact ⟨p, _, dx, vs, w, rfl, q, h1, h2, ew, P1 m1 H1 w Fut.refl a1 rw'⟩
        · exact P1.elim
      · exact P1.elim
    · exact P1.elim
  | _ => exact P1.elim
end
end Ev

namespace Ev
open PySem PySem.Spec PyProof.Rows L2

/-! ## 10. Calls of what is built in -/
abbrev Bop := List D → Hh → Option (D × Hh)
def rC (K : PySem.W.Frag) (op : Bop) : List V → Hp → VK → Prop := fun vs H Q => ∃ m G ds, At K m H G ∧ Rps K m H ds vs ∧ PostO K m H Q (op ds G)
def eCall (op : Bop) (rs : Arg) : Exp := fun c ρ g => (rs c ρ g).bind fun ds g => Res.of (op ds g)
/-- of one argument -/
def b1 (f : D → Hh → Option (D × Hh)) : Bop := fun ds g => match ds with
  | [x] => f x g
  | _ => none
def b2 (f : D → D → Hh → Option (D × Hh)) : Bop := fun ds g => match ds with
  | [x, y] => f x y g
  | _ => none
def lenD (g : Hh) : D → Option Nat
  | .str z => if z.length ≤ sizeLine then some z.length else none
  | .tup xs => some xs.length
  | .scr xs => some xs.length
  | .ref n => match g[n]? with
    | some (.lst xs) => some xs.length
    | some (.dct kvs) => some kvs.length
    | _ => none
  | _ => none
def dLen (x : D) (g : Hh) : Option (D × Hh) := (lenD g x).map fun (n : Nat) => (.int n, g)
def dInt (x : D) (g : Hh) : Option (D × Hh) := match x with
  | .int i => some (.int i, g)
  | .bl k => some (.int (if k then 1 else 0), g)
  | _ => none
def dAbs (x : D) (g : Hh) : Option (D × Hh) := match x with
  | .int i => some (.int (if i < 0 then -i else i), g)
  | _ => none
def dMax2 (x y : D) (g : Hh) : Option (D × Hh) := match x, y with
  | .int i, .int j => some (.int (if j > i then j else i), g)
  | _, _ => none
def dMin2 (x y : D) (g : Hh) : Option (D × Hh) := match x, y with
  | .int i, .int j => some (.int (if j < i then j else i), g)
  | _, _ => none
def seqD (g : Hh) : D → Option (List D)
  | .tup xs => some xs
  | .scr xs => some xs
  | .ref n => match g[n]? with
    | some (.lst xs) => some xs
    | _ => none
  | _ => none
def dTuple (x : D) (g : Hh) : Option (D × Hh) := (seqD g x).map fun xs => (.tup xs, g)
def dList (x : D) (g : Hh) : Option (D × Hh) := match x with
  | .ref n => match g[n]? with
    | some (.lst xs) => some (.ref g.length, g ++ [.lst xs])
    | some (.dct kvs) => some (.ref g.length, g ++ [.lst (kvs.map (·.1))])
    | _ => none
  | .tup xs => some (.ref g.length, g ++ [.lst xs])
  | .scr xs => some (.ref g.length, g ++ [.lst xs])
  | _ => none
def dStr (x : D) (g : Hh) : Option (D × Hh) := match x with
  | .int i => if i.natAbs.log2 < 1920 then some (.str (toString i), g) else none
  | .str z => some (.str z, g)
  | _ => none
def kindD (g : Hh) : D → Option String
  | .non => some "NoneType"
  | .bl _ => some "bool"
  | .int _ => some "int"
  | .str _ => some "str"
  | .tup _ => some "tuple"
  | .scr _ => some "list"
  | .ref n => match g[n]? with
    | some (.lst _) => some "list"
    | some (.dct _) => some "dict"
    | _ => none
  | _ => none
def isiTy (t T : String) : Option Bool :=
  if (["NoneType", "bool", "int", "str", "tuple", "list", "dict"].contains t && ["bool", "int", "str", "tuple", "list", "dict"].contains T) = true then some (t == T || (t == "bool" && T == "int")) else none
def dIsi (x y : D) (g : Hh) : Option (D × Hh) := match y with
  | .ty T => match kindD g x with
    | some t => (isiTy t T).map fun b => (.bl b, g)
    | none => none
  | _ => none
/-! dicts of pairs -/
def putD (kvs : List (D × D)) (k v : D) : List (D × D) := if kvs.any (fun p => decide (p.1 = k)) = true then kvs.map (fun p => if p.1 = k then (p.1, v) else p) else kvs ++ [(k, v)]
def isKey : D → Bool
  | .int _ => true
  | .str _ => true
  | _ => false
def pairsD : List D → Option (List (D × D))
  | [] => some []
  | .tup [k, v] :: r => if isKey k = true then (pairsD r).map fun ps => (k, v) :: ps else none
  | _ => none
def mergeD (ps : List (D × D)) : List (D × D) := ps.foldl (fun acc p => putD acc p.1 p.2) []
def dDict (x : D) (g : Hh) : Option (D × Hh) := match x with
  | .ref n => match g[n]? with
    | some (.lst xs) => match pairsD xs with
      | some ps => some (.ref g.length, g ++ [.dct (mergeD ps)])
      | none => none
    | some (.dct kvs) => some (.ref g.length, g ++ [.dct kvs])
    | _ => none
  | _ => none

theorem isi_ok {K : PySem.W.Frag} {t T : String} {b : Bool} (h : isiTy t T = some b) : PySem.W.kitOne K (.type t) (.type T) = some b := by
  unfold isiTy at h
  split at h
  · rename_i hh
    cases h
    rw [Bool.and_eq_true] at hh
    obtain ⟨h1, h2⟩ := hh
    simp only [List.contains_cons, List.contains_nil, Bool.or_false, Bool.or_eq_true, beq_iff_eq] at h1 h2
    rcases h1 with rfl | rfl | rfl | rfl | rfl | rfl | rfl <;> rcases h2 with rfl | rfl | rfl | rfl | rfl | rfl <;> first | rfl | (unfold PySem.W.kitOne PySem.W.kitCls PySem.W.subIn; decide +kernel)
  · cases h

section
variable {X : Cx}
theorem b1_call {f : Value} {op : D → Hh → Option (D × Hh)} (h : ∀ (pins : List (Addr × Obj)) (s : Shared) (σ : L2.St) (H : Hp) (v : V) (u : Value) (Q : VK) (m : List Addr) (G : Hh) (x : D), Inv X pins σ H s → RelV v u → At X.K m H G → Rp X.K m H x v → PostO X.K m H Q (op x G) →
    wpAny (model X.prog X.w) X.A (call f [u]) (EP X pins σ Q) X.xe s) : CallR X f (rC X.K (b1 op)) := by
  intro pins s σ H vs us Q I rv ⟨m, G, ds, at', rs, P⟩
  unfold b1 at P
  split at P
  · rename_i x
    obtain ⟨v, _, rfl, r1, r2⟩ := rs
    cases r2
    obtain ⟨u, rfl, ru⟩ := vals1 rv
    exact h pins s σ H v u Q m G x I ru at' r1 P
  · exact P.elim
theorem b2_call {f : Value} {op : D → D → Hh → Option (D × Hh)} (h : ∀ (pins : List (Addr × Obj)) (s : Shared) (σ : L2.St) (H : Hp) (v w : V) (u u' : Value) (Q : VK) (m : List Addr) (G : Hh) (x y : D), Inv X pins σ H s → RelV v u → RelV w u' → At X.K m H G → Rp X.K m H x v → Rp X.K m H y w → PostO X.K m H Q (op x y G) →
    wpAny (model X.prog X.w) X.A (call f [u, u']) (EP X pins σ Q) X.xe s) : CallR X f (rC X.K (b2 op)) := by
  intro pins s σ H vs us Q I rv ⟨m, G, ds, at', rs, P⟩
  unfold b2 at P
  split at P
  · rename_i x y
    obtain ⟨v, _, rfl, r1, w, _, rfl, r2, r3⟩ := rs
    cases r3
    obtain ⟨u, u', rfl, ru, ru'⟩ := vals2 rv
    exact h pins s σ H v w u u' Q m G x y I ru ru' at' r1 r2 P
  · exact P.elim
/-- a relation of the layer used at one argument -/
theorem use1 {f : Value} {r : List V → Hp → VK → Prop} (hc : CallR X f r) {pins : List (Addr × Obj)} {s : Shared} {σ : L2.St} {H : Hp} {v : V} {u : Value} {Q : VK} (I : Inv X pins σ H s) (rv : RelV v u) (h : r [v] H Q) :
    wpAny (model X.prog X.w) X.A (call f [u]) (EP X pins σ Q) X.xe s := hc pins s σ H [v] [u] Q I (.cons rv .nil) h
theorem use2 {f : Value} {r : List V → Hp → VK → Prop} (hc : CallR X f r) {pins : List (Addr × Obj)} {s : Shared} {σ : L2.St} {H : Hp} {v w : V} {u u' : Value} {Q : VK} (I : Inv X pins σ H s) (rv : RelV v u) (rw : RelV w u') (h : r [v, w] H Q) :
    wpAny (model X.prog X.w) X.A (call f [u, u']) (EP X pins σ Q) X.xe s := hc pins s σ H [v, w] [u, u'] Q I (.cons rv (.cons rw .nil)) h
theorem c_len : CallR X (.builtin "len") (rC X.K (b1 dLen)) := b1_call fun pins s σ H v u Q m G x I rv at' rx P => by
  obtain ⟨n, e, P⟩ := PostO.mapS P
  cases x with
  | str z =>
    obtain rfl : v = .str z := rx
    simp only [lenD] at e
    split at e
    · rename_i hl
      cases e
      exact use1 call_len_str I rv ⟨z, rfl, hl, P.same at' rfl⟩
    · cases e
  | tup xs =>
    cases e
    obtain ⟨p, vs, rfl, q, r⟩ := rx
    exact use1 call_len_seq I rv ⟨p, vs, rfl, .inr q, P.same at' (by rw [Rps.len r]; rfl)⟩
  | scr xs =>
    cases e
    obtain ⟨p, vs, rfl, q, r⟩ := rx
    exact use1 call_len_seq I rv ⟨p, vs, rfl, .inl q.sql, P.same at' (by rw [Rps.len r]; rfl)⟩
  | ref n =>
    obtain ⟨p, hp, rfl⟩ := rx
    simp only [lenD] at e
    split at e
    · rename_i xs e0
      cases e
      obtain ⟨vs, q, r⟩ := at'.of e0 hp
      exact use1 call_len_seq I rv ⟨p, vs, rfl, .inl (.of q), P.same at' (by rw [Rps.len r]; rfl)⟩
    · rename_i kvs e0
      cases e
      obtain ⟨ks, q1, q2, _⟩ := at'.of e0 hp
      have hl : kvs.length = ks.length := by simpa using congrArg List.length q2
      exact use1 call_lenD I rv ⟨p, ks, rfl, q1, P.same at' (by rw [hl]; rfl)⟩
    · cases e
  | _ => cases e
theorem c_int : CallR X (.type "int") (rC X.K (b1 dInt)) := b1_call fun pins s σ H v u Q m G x I rv at' rx P => by
  cases x with
  | int i => obtain rfl : v = .int i := rx; exact use1 call_int1 I rv (.inl ⟨i, rfl, P.same at' rfl⟩)
  | bl k => obtain rfl : v = .bl k := rx; exact use1 call_int1 I rv (.inr ⟨k, rfl, P.same at' rfl⟩)
  | _ => exact P.elim
theorem c_abs : CallR X (.builtin "abs") (rC X.K (b1 dAbs)) := b1_call fun pins s σ H v u Q m G x I rv at' rx P => by
  cases x with
  | int i => obtain rfl : v = .int i := rx; exact use1 call_abs I rv ⟨i, rfl, P.same at' rfl⟩
  | _ => exact P.elim
theorem c_max2 (hc : X.calm = true) : CallR X (.builtin "max") (rC X.K (b2 dMax2)) := b2_call fun pins s σ H v w u u' Q m G x y I rv rw' at' rx ry P => by
  cases x with
  | int i =>
    cases y with
    | int j => obtain rfl : v = .int i := rx; obtain rfl : w = .int j := ry; exact use2 (call_max2 hc) I rv rw' ⟨i, j, rfl, P.same at' rfl⟩
    | _ => exact P.elim
  | _ => exact P.elim
theorem c_min2 (hc : X.calm = true) : CallR X (.builtin "min") (rC X.K (b2 dMin2)) := b2_call fun pins s σ H v w u u' Q m G x y I rv rw' at' rx ry P => by
  cases x with
  | int i =>
    cases y with
    | int j => obtain rfl : v = .int i := rx; obtain rfl : w = .int j := ry; exact use2 (call_min2 hc) I rv rw' ⟨i, j, rfl, P.same at' rfl⟩
    | _ => exact P.elim
  | _ => exact P.elim
theorem c_tuple : CallR X (.type "tuple") (rC X.K (b1 dTuple)) := b1_call fun pins s σ H v u Q m G x I rv at' rx P => by
  obtain ⟨n, e, P'⟩ := PostO.mapS P
  clear P
  cases x with
  | tup xs =>
    cases e
    obtain ⟨p, vs, rfl, q, r⟩ := rx
    exact use1 call_tuple_of I rv ⟨p, vs, rfl, .inr ⟨q, P'.same at' ⟨p, vs, rfl, q, r⟩⟩⟩
  | scr xs =>
    cases e
    obtain ⟨p, vs, rfl, q, r⟩ := rx
    exact use1 call_tuple_of I rv ⟨p, vs, rfl, .inl ⟨q.sql, fun l hl => P'.tup at' r hl⟩⟩
  | ref n =>
    obtain ⟨p, hp, rfl⟩ := rx
    simp only [seqD] at e
    split at e
    · rename_i xs e0
      cases e
      obtain ⟨vs, q, r⟩ := at'.of e0 hp
      exact use1 call_tuple_of I rv ⟨p, vs, rfl, .inl ⟨.of q, fun l hl => P'.tup at' r hl⟩⟩
    · cases e
  | _ => cases e
theorem keys_rep {K : PySem.W.Frag} {m : List Addr} {H : Hp} {kvs : List (D × D)} : ∀ {ks : List (Key × V)}, kvs.map (·.1) = ks.map (fun k => keyD k.1) → Rps K m H (kvs.map (·.1)) (ks.map fun kv => kV kv.1) := by
  induction kvs with
  | nil => intro ks e; cases ks with
    | nil => exact Rps.nil
    | cons _ _ => cases e
  | cons p ps ih =>
    intro ks e
    cases ks with
    | nil => cases e
    | cons q qs =>
      simp only [List.map_cons, List.cons.injEq] at e
      refine Rps.cons ?_ (ih e.2)
      show Rp K m H p.1 (kV q.1)
      rw [e.1]
      cases q.1 <;> rfl
theorem c_list (hc : X.calm = true) : CallR X (.type "list") (rC X.K (b1 dList)) := b1_call fun pins s σ H v u Q m G x I rv at' rx P => by
  cases x with
  | tup xs =>
    obtain ⟨p, vs, rfl, q, r⟩ := rx
    exact use1 call_list_of I rv ⟨p, vs, rfl, .inr q, fun l hl => P.lst at' r hl⟩
  | scr xs =>
    obtain ⟨p, vs, rfl, q, r⟩ := rx
    exact use1 call_list_of I rv ⟨p, vs, rfl, .inl q.sql, fun l hl => P.lst at' r hl⟩
  | ref n =>
    obtain ⟨p, hp, rfl⟩ := rx
    simp only [dList] at P
    split at P
    · rename_i xs e0
      obtain ⟨vs, q, r⟩ := at'.of e0 hp
      exact use1 call_list_of I rv ⟨p, vs, rfl, .inl (.of q), fun l hl => P.lst at' r hl⟩
    · rename_i kvs e0
      obtain ⟨ks, q1, q2, _⟩ := at'.of e0 hp
      exact use1 (call_listD hc) I rv ⟨p, ks, rfl, .inl q1, fun l hl => P.lst at' (keys_rep q2) hl⟩
    · exact P.elim
  | _ => exact P.elim
theorem c_str : CallR X (.type "str") (rC X.K (b1 dStr)) := b1_call fun pins s σ H v u Q m G x I rv at' rx P => by
  cases x with
  | int i =>
    obtain rfl : v = .int i := rx
    simp only [dStr] at P
    split at P
    · rename_i hl
      exact use1 call_str_int I rv ⟨i, rfl, hl, P.same at' rfl⟩
    · exact P.elim
  | str z => obtain rfl : v = .str z := rx; exact use1 SkE.call_str_str I rv ⟨z, rfl, P.same at' rfl⟩
  | _ => exact P.elim
theorem kind_ty {K : PySem.W.Frag} {m : List Addr} {H : Hp} {g : Hh} {x : D} {v : V} {t : String} (A : At K m H g) (r : Rp K m H x v) (h : kindD g x = some t) : TyX K H v (.type t) := by
  cases x with
  | non => cases h; obtain rfl : v = .non := r; exact .base .non
  | bl b => cases h; obtain rfl : v = .bl b := r; exact .base (.bl b)
  | int i => cases h; obtain rfl : v = .int i := r; exact .base (.int i)
  | str z => cases h; obtain rfl : v = .str z := r; exact .base (.str z)
  | tup xs =>
    cases h
    obtain ⟨p, vs, rfl, q, _⟩ := r
    rcases q with (q | ⟨o, q⟩) | ⟨o, its, n, q, c, _⟩
    · exact .base (.tup q)
    · exact .fTuple q
    · exact .kTuple q c
  | scr xs =>
    cases h
    obtain ⟨p, vs, rfl, q, _⟩ := r
    rcases q with ⟨o, q⟩ | (q | ⟨o, q⟩) | ⟨o, its, n, q, c, _⟩
    · exact .base (.frz q)
    · cases q
    · cases q
    · exact .kList q c
  | ref n =>
    obtain ⟨p, hp, rfl⟩ := r
    simp only [kindD] at h
    split at h
    · rename_i xs e0
      cases h
      obtain ⟨vs, q, _⟩ := A.of e0 hp
      exact .base (.lst q)
    · rename_i kvs e0
      cases h
      obtain ⟨ks, q, _⟩ := A.of e0 hp
      exact .base (.dK q)
    · cases h
  | _ => cases h
theorem c_isi : CallR X (.builtin "isinstance") (rC X.K (b2 dIsi)) := b2_call fun pins s σ H v w u u' Q m G x y I rv rw' at' rx ry P => by
  cases y with
  | ty T =>
    obtain rfl : w = .ty T := ry
    simp only [dIsi] at P
    cases e : kindD G x with
    | none => rw [e] at P; exact P.elim
    | some t =>
      rw [e] at P
      obtain ⟨b, eb, P⟩ := PostO.mapS P
      exact use2 call_isi I rv rw' ⟨v, .ty T, .type t, .type T, b, rfl, .ty T, kind_ty at' rx e, isi_ok eb, P.same at' rfl⟩
  | _ => exact P.elim
/-! dicts -/
theorem keyD_inj {a b : Key} (e : keyD a = keyD b) : a = b := by
  cases a <;> cases b <;> first | (cases e; rfl) | cases e
theorem putD_rep {K : PySem.W.Frag} {m : List Addr} {H : Hp} {kvs : List (D × D)} {ks : List (Key × V)} {k : Key} {d : D} {v : V} (e : kvs.map (·.1) = ks.map (fun k => keyD k.1)) (r : Rps K m H (kvs.map (·.2)) (ks.map (·.2))) (rd : Rp K m H d v) :
    (putD kvs (keyD k) d).map (·.1) = (putK ks k v).map (fun k => keyD k.1) ∧ Rps K m H ((putD kvs (keyD k) d).map (·.2)) ((putK ks k v).map (·.2)) := by
  have hany : (kvs.any fun p => decide (p.1 = keyD k)) = (ks.any fun p => decide (p.1 = k)) := by
    rw [key_at (K := K) (m := m) (H := H) e k, valV_any]
  unfold putD putK
  rw [hany]
  by_cases h : (ks.any fun p => decide (p.1 = k)) = true
  · rw [if_pos h, if_pos h]
    clear h hany
    induction kvs generalizing ks with
    | nil => cases ks with
      | nil => exact ⟨rfl, Rps.nil⟩
      | cons _ _ => cases e
    | cons p ps ih =>
      cases ks with
      | nil => cases e
      | cons q qs =>
        simp only [List.map_cons, List.cons.injEq] at e
        obtain ⟨w, _, e3, ra, rb⟩ := r
        simp only [List.map_cons, List.cons.injEq] at e3
        obtain ⟨rfl, rfl⟩ := e3
        obtain ⟨h1, h2⟩ := ih e.2 rb
        simp only [List.map_cons]
        by_cases hk : q.1 = k
        · rw [if_pos (by rw [e.1, hk]), if_pos hk]
          exact ⟨by rw [h1, e.1], Rps.cons rd h2⟩
        · rw [if_neg (fun z => hk (keyD_inj (e.1.symm.trans z))), if_neg hk]
          exact ⟨by rw [h1, e.1], Rps.cons ra h2⟩
  · rw [if_neg h, if_neg h]
    simp only [List.map_append, List.map_cons, List.map_nil]
    exact ⟨by rw [e], Rps.app r (Rps.cons rd Rps.nil)⟩
theorem putK_nodup {ks : List (Key × V)} {k : Key} {v : V} (h : (ks.map (·.1)).Nodup) : ((putK ks k v).map (·.1)).Nodup := by
  unfold putK
  split
  · have e : (ks.map fun kv => if kv.1 = k then (kv.1, v) else kv).map (·.1) = ks.map (·.1) := by
      rw [List.map_map]
      refine List.map_congr_left fun p _ => ?_
      show (if p.1 = k then (p.1, v) else p).1 = p.1
      split <;> rfl
    rw [e]
    exact h
  · rename_i hn
    rw [List.map_append, List.nodup_append]
    refine ⟨h, by simp, fun a ha b hb => ?_⟩
    simp only [List.map_cons, List.map_nil, List.mem_singleton] at hb
    subst hb
    intro e
    subst e
    refine hn (List.any_eq_true.mpr ?_)
    obtain ⟨p, hp, rfl⟩ := List.mem_map.mp ha
    exact ⟨p, hp, by simp⟩
theorem isKey_of {d : D} (h : isKey d = true) : ∃ k : Key, d = keyD k := by
  cases d <;> first | exact ⟨.inl _, rfl⟩ | exact ⟨.inr _, rfl⟩ | cases h
/-- how dicts are told: the keys, the values -/
def Rks (K : PySem.W.Frag) (m : List Addr) (H : Hp) (kvs : List (D × D)) (ks : List (Key × V)) : Prop := kvs.map (·.1) = ks.map (fun k => keyD k.1) ∧ Rps K m H (kvs.map (·.2)) (ks.map (·.2))
theorem pairs_rep {K : PySem.W.Frag} {m : List Addr} {H : Hp} : ∀ {xs : List D} {vs : List V} {ps : List (D × D)}, Rps K m H xs vs → pairsD xs = some ps →
    ∃ (as : List Addr) (ks : List (Key × V)), vs = as.map V.ref ∧ Paired (fun p kv => SqT K H p [kV kv.1, kv.2]) as ks ∧ Rks K m H ps ks := by
  intro xs
  induction xs with
  | nil =>
    intro vs ps r e
    cases r
    cases e
    exact ⟨[], [], rfl, .nil, rfl, Rps.nil⟩
  | cons x xs ih =>
    intro vs ps r e
    obtain ⟨v, w, rfl, r1, r2⟩ := r
    unfold pairsD at e
    split at e
    · rename_i heq
      cases heq
    · rename_i k y r' heq
      cases heq
      split at e
      · rename_i hk
        obtain ⟨ps', e', rfl⟩ := Option.map_eq_some_iff.mp e
        obtain ⟨as, ks, rfl, h1, h2, h3⟩ := ih r2 e'
        obtain ⟨kk, rfl⟩ := isKey_of hk
        obtain ⟨a, us, rfl, q, u1, _, rfl, ra, u2, _, rfl, rb, rc⟩ := r1
        cases rc
        have hu : u1 = kV kk := by cases kk <;> exact ra
        subst hu
        exact ⟨a :: as, (kk, u2) :: ks, rfl, .cons q h1, by simp [h2], Rps.cons rb h3⟩
      · cases e
    · cases e
theorem merge_rep {K : PySem.W.Frag} {m : List Addr} {H : Hp} : ∀ {ps : List (D × D)} {ks : List (Key × V)} {acc : List (D × D)} {kacc : List (Key × V)}, Rks K m H ps ks → Rks K m H acc kacc → (kacc.map (·.1)).Nodup →
    Rks K m H (ps.foldl (fun acc p => putD acc p.1 p.2) acc) (mergeK kacc ks) ∧ ((mergeK kacc ks).map (·.1)).Nodup := by
  intro ps
  induction ps with
  | nil =>
    intro ks acc kacc r ra hn
    cases ks with
    | nil => exact ⟨ra, hn⟩
    | cons _ _ => cases r.1
  | cons p ps ih =>
    intro ks acc kacc r ra hn
    cases ks with
    | nil => cases r.1
    | cons q qs =>
      obtain ⟨e, r⟩ := r
      simp only [List.map_cons, List.cons.injEq] at e
      obtain ⟨w, _, e3, r1, r2⟩ := r
      simp only [List.map_cons, List.cons.injEq] at e3
      obtain ⟨rfl, rfl⟩ := e3
      have := putD_rep (k := q.1) ra.1 ra.2 r1
      rw [← e.1] at this
      exact ih (ks := qs) (kacc := putK kacc q.1 q.2) ⟨e.2, r2⟩ this (putK_nodup hn)
theorem PostO.dct {K : PySem.W.Frag} {m : List Addr} {H : Hp} {G : Hh} {Q : VK} {kvs : List (D × D)} {ks : List (Key × V)} (h : PostO K m H Q (some (.ref G.length, G ++ [.dct kvs]))) (a : At K m H G) (r : Rks K m H kvs ks) (hn : (ks.map (·.1)).Nodup) {p : Addr} (hp : H p = none) : Q (.ref p) (upd H p (.dK ks)) := by
  have f := Fut.upd_new (K := K) (m := m) (o := HO.dK ks) hp [p]
  refine h (m ++ [p]) _ _ f (a.push hp ⟨ks, upd_same, r.1, Rps.fut f _ _ r.2, hn⟩) ⟨p, ?_, rfl⟩
  rw [← a.len, List.getElem?_append_right (Nat.le_refl _)]
  simp
theorem c_dict (hc : X.calm = true) : CallR X (.type "dict") (rC X.K (b1 dDict)) := b1_call fun pins s σ H v u Q m G x I rv at' rx P => by
  cases x with
  | ref n =>
    obtain ⟨p, hp, rfl⟩ := rx
    simp only [dDict] at P
    split at P
    · rename_i xs e0
      split at P
      · rename_i ps e1
        obtain ⟨vs, q, r⟩ := at'.of e0 hp
        obtain ⟨as, ks, rfl, h1, h2⟩ := pairs_rep r e1
        have hm := merge_rep (acc := []) (kacc := []) h2 ⟨rfl, Rps.nil⟩ List.nodup_nil
        exact use1 (call_dictP hc) I rv ⟨p, as, ks, rfl, .of q, h1, fun t ht => P.dct at' hm.1 hm.2 ht⟩
      · exact P.elim
    · rename_i kvs e0
      obtain ⟨ks, q1, q2, q3, q4⟩ := at'.of e0 hp
      exact use1 call_dictD I rv ⟨p, ks, rfl, .inl q1, fun t ht => P.dct at' ⟨q2, q3⟩ q4 ht⟩
    · exact P.elim
  | _ => exact P.elim
/-- the call of a builtin function, of a builtin type -/
theorem se_callB {W : WX} {c : Cal} {x : Str} {p pos : Pos} {e : Expr} {es : List Expr} {rs : Arg} {id : String} {op : Bop} (hc : CallR X (.builtin id) (rC X.K op)) (hg : Gl X x) (hm : X.mg x = none) (hv : bootBuiltins x = some (.builtin id)) (ha : SA X W c (e :: es) rs)
    (hn : x ≠ "__name__") (hdb : (x == ("__debug__" : Str)) = false) (he : starEach (e :: es) X.env = (false, eval e X.env) :: starEach es X.env) (hpl : (backTo pos (starEach es X.env)).any (·.1) = false) : SE X W c (.Call (.Name x p) (e :: es) [] pos) (eCall op rs) := by
  refine pe_imp (pe_callB hc hg hm hv ha hn hdb he hpl) fun σ H Q h => ?_
  obtain ⟨ρ, G, m, s, at', P⟩ := h
  exact ⟨ρ, G, m, s, at', PostR.step P fun ds g m1 H1 vs f1 a1 r1 P1 => ⟨m1, g, ds, a1, r1, PostR.of.mp P1⟩⟩
theorem se_callT {W : WX} {c : Cal} {x : Str} {p pos : Pos} {e : Expr} {es : List Expr} {rs : Arg} {T : String} {op : Bop} (hc : CallR X (.type T) (rC X.K op)) (hg : Gl X x) (hm : X.mg x = none) (hv : bootBuiltins x = some (.type T)) (ha : SA X W c (e :: es) rs)
    (hn : x ≠ "__name__") (hdb : (x == ("__debug__" : Str)) = false) (he : starEach (e :: es) X.env = (false, eval e X.env) :: starEach es X.env) (hpl : (backTo pos (starEach es X.env)).any (·.1) = false) : SE X W c (.Call (.Name x p) (e :: es) [] pos) (eCall op rs) := by
  refine pe_imp (pe_callTy hc hg hm hv ha hn hdb he hpl) fun σ H Q h => ?_
  obtain ⟨ρ, G, m, s, at', P⟩ := h
  exact ⟨ρ, G, m, s, at', PostR.step P fun ds g m1 H1 vs f1 a1 r1 P1 => ⟨m1, g, ds, a1, r1, PostR.of.mp P1⟩⟩
end
end Ev

namespace Ev
open PySem PySem.Spec PyProof.Rows L2

/-! ## 11. Methods of what is built in -/
abbrev Mop := D → List D → Hh → Option (D × Hh)
def rM (K : PySem.W.Frag) (op : Mop) : V → List V → Hp → VK → Prop := fun v vs H Q => ∃ m G d ds, At K m H G ∧ Rp K m H d v ∧ Rps K m H ds vs ∧ PostO K m H Q (op d ds G)
def mAppend : Mop := fun x ds g => match x, ds with
  | .ref n, [y] => match g[n]? with
    | some (.lst xs) => if xs.length < sizeLine then some (.non, g.set n (.lst (xs ++ [y]))) else none
    | _ => none
  | _, _ => none
def mPop : Mop := fun x ds g => match x, ds with
  | .ref n, [] => match g[n]? with
    | some (.lst xs) => (xs[xs.length - 1]?).map fun y => (y, g.set n (.lst xs.dropLast))
    | _ => none
  | .ref n, [.int i] => match g[n]? with
    | some (.lst xs) => if -(2 ^ 63) ≤ i ∧ i < 2 ^ 63 then (match seqIndex? i xs.length with
      | some k => (xs[k]?).map fun y => (y, g.set n (.lst (xs.eraseIdx k)))
      | none => none) else none
    | _ => none
  | _, _ => none
def mExtend : Mop := fun x ds g => match x, ds with
  | .ref n, [.ref k] => match g[n]?, g[k]? with
    | some (.lst xs), some (.lst ys) => if xs.length + ys.length ≤ sizeLine then some (.non, g.set n (.lst (xs ++ ys))) else none
    | _, _ => none
  | _, _ => none
def mCount : Mop := fun x ds g => match x, ds with
  | .ref n, [y] => match g[n]? with
    | some (.lst xs) => match pyD y, pyDs xs with
      | some a, some b => if SeqAt.shaped a = true ∧ SeqAt.shaped (.list b) = true then some (.int ((b.countP fun z => PyData.eqv z a : Nat) : Int), g) else none
      | _, _ => none
    | _ => none
  | _, _ => none
def mGet : Mop := fun x ds g => match x with
  | .ref n => match g[n]? with
    | some (.dct kvs) => match ds with
      | [k] => if isKey k = true then some ((getK kvs k).getD .non, g) else none
      | [k, d] => if isKey k = true then some ((getK kvs k).getD d, g) else none
      | _ => none
    | _ => none
  | _ => none
def bmT (T : String) (name : Str) : Option Mop :=
  if T = "list" then (if name = "append" then some mAppend else if name = "pop" then some mPop else if name = "extend" then some mExtend else if name = "count" then some mCount else none)
  else if T = "dict" then (if name = "get" then some mGet else none)
  else none
def typeD (g : Hh) : D → Option String
  | .str _ => some "str"
  | .ref n => match g[n]? with
    | some (.lst _) => some "list"
    | some (.dct _) => some "dict"
    | _ => none
  | _ => none
/-- o.name(args): the receiver's type is looked at first -/
def eMth (name : Str) (ro : Exp) (rs : Arg) : Exp := fun c ρ g => (ro c ρ g).bind fun x g => match typeD g x with
  | some T => match bmT T name with
    | some op => (rs c ρ g).bind fun ds g => Res.of (op x ds g)
    | none => .err
  | none => .err

section
variable {X : Cx}
theorem PostO.put {K : PySem.W.Frag} {m : List Addr} {H : Hp} {G : Hh} {Q : VK} {d : D} {v : V} {i : Nat} {a : Addr} {o o' : Ob} {u : HO} (P : PostO K m H Q (some (d, G.set i o'))) (A : At K m H G) (hG : G[i]? = some o) (ha : m[i]? = some a)
    (h : ∀ f : Fut K m H m (upd H a u), ObAt K m (upd H a u) o' a) (r : Rp K m H d v) : Q v (upd H a u) := by
  obtain ⟨f, A'⟩ := A.put hG ha h
  exact P m _ v f A' (Rp.fut f _ _ r)
theorem m_append : MtR X "list.append" (rM X.K mAppend) := by
  intro pins s σ H v vs vv us Q I rv rvs ⟨m, G, x, ds, A, rx, rs, P⟩
  unfold mAppend at P
  split at P
  · rename_i n y
    obtain ⟨p, hp, rfl⟩ := rx
    obtain ⟨w, _, rfl, r1, r2⟩ := rs
    cases r2
    split at P
    · rename_i xs e0
      split at P
      · rename_i hl
        obtain ⟨ws, q, r⟩ := A.of e0 hp
        exact mt_append pins s σ H _ _ vv us Q I rv rvs ⟨p, ws, w, rfl, rfl, q, by rw [← Rps.len r]; exact hl, P.put A e0 hp (fun f => ⟨_, upd_same, Rps.fut f _ _ (Rps.app r (Rps.cons r1 Rps.nil))⟩) rfl⟩
      · exact P.elim
    · exact P.elim
  · exact P.elim
theorem Rps.dropLast {K : PySem.W.Frag} {m : List Addr} {H : Hp} {ds : List D} {vs : List V} (r : Rps K m H ds vs) : Rps K m H ds.dropLast vs.dropLast := by
  rw [List.dropLast_eq_take, List.dropLast_eq_take, ← Rps.len r]
  exact Rps.take _ r
theorem Rps.erase {K : PySem.W.Frag} {m : List Addr} {H : Hp} {ds : List D} {vs : List V} (r : Rps K m H ds vs) (k : Nat) : Rps K m H (ds.eraseIdx k) (vs.eraseIdx k) := by
  rw [List.eraseIdx_eq_take_drop_succ, List.eraseIdx_eq_take_drop_succ]
  exact Rps.app (Rps.take _ r) (Rps.drop _ r)
theorem m_pop : MtR X "list.pop" (rM X.K mPop) := by
  intro pins s σ H v vs vv us Q I rv rvs ⟨m, G, x, ds, A, rx, rs, P⟩
  unfold mPop at P
  split at P
  · rename_i n
    obtain ⟨p, hp, rfl⟩ := rx
    cases rs
    split at P
    · rename_i xs e0
      obtain ⟨ws, q, r⟩ := A.of e0 hp
      cases ey : xs[xs.length - 1]? with
      | none => rw [ey] at P; exact P.elim
      | some y =>
        rw [ey] at P
        obtain ⟨w, ew, rw'⟩ := Rps.get r ey
        rw [Rps.len r] at ew
        exact mt_pop pins s σ H _ _ vv us Q I rv rvs ⟨p, ws, w, rfl, rfl, q, ew, P.put A e0 hp (fun f => ⟨_, upd_same, Rps.fut f _ _ r.dropLast⟩) rw'⟩
    · exact P.elim
  · rename_i n i
    obtain ⟨p, hp, rfl⟩ := rx
    obtain ⟨w, _, rfl, r1, r2⟩ := rs
    cases r2
    obtain rfl : w = .int i := r1
    split at P
    · rename_i xs e0
      obtain ⟨ws, q, r⟩ := A.of e0 hp
      split at P
      · rename_i hi
        split at P
        · rename_i k ek
          cases ey : xs[k]? with
          | none => rw [ey] at P; exact P.elim
          | some y =>
            rw [ey] at P
            obtain ⟨w, ew, rw'⟩ := Rps.get r ey
            rw [Rps.len r] at ek
            exact mt_popAt pins s σ H _ _ vv us Q I rv rvs ⟨p, ws, i, k, w, rfl, rfl, q, hi.1, hi.2, ek, ew, P.put A e0 hp (fun f => ⟨_, upd_same, Rps.fut f _ _ (r.erase k)⟩) rw'⟩
        · exact P.elim
      · exact P.elim
    · exact P.elim
  · exact P.elim
theorem m_extend : MtR X "list.extend" (rM X.K mExtend) := by
  intro pins s σ H v vs vv us Q I rv rvs ⟨m, G, x, ds, A, rx, rs, P⟩
  unfold mExtend at P
  split at P
  · rename_i n k
    obtain ⟨p, hp, rfl⟩ := rx
    obtain ⟨w, _, rfl, r1, r2⟩ := rs
    cases r2
    obtain ⟨p2, hp2, rfl⟩ := r1
    split at P
    · rename_i xs ys e0 e1
      split at P
      · rename_i hl
        obtain ⟨ws, q, r⟩ := A.of e0 hp
        obtain ⟨zs, q2, rr2⟩ := A.of e1 hp2
        exact mt_extend pins s σ H _ _ vv us Q I rv rvs ⟨p, p2, ws, zs, rfl, rfl, q, q2, by rw [← Rps.len r, ← Rps.len rr2]; exact hl, P.put A e0 hp (fun f => ⟨_, upd_same, Rps.fut f _ _ (Rps.app r rr2)⟩) rfl⟩
      · exact P.elim
    · exact P.elim
  · exact P.elim
theorem m_count (hu : X.A.units + 70 < cLine) : MtR X "list.count" (rM X.K mCount) := by
  intro pins s σ H v vs vv us Q I rv rvs ⟨m, G, x, ds, A, rx, rs, P⟩
  unfold mCount at P
  split at P
  · rename_i n y
    obtain ⟨w, _, rfl, r1, r2⟩ := rs
    cases r2
    split at P
    · rename_i xs e0
      split at P
      · rename_i a b e1 e2
        split at P
        · rename_i hs
          have d1 := dp_of _ _ _ r1 e1
          have d2 := dp_v (d := .ref n) (p := .list b) A rx (by simp only [pyV, e0, e2]; rfl)
          obtain ⟨p, hp, rfl⟩ := rx
          obtain ⟨u, rfl, ru⟩ := rvs.one
          obtain rfl : vv = .ref p := rv
          obtain ⟨as, q1⟩ := Dp.reads I a w u d1 ru
          obtain ⟨bs, q2⟩ := Dp.reads I _ (.ref p) (.ref p) d2 rfl
          cases q2 with
          | @list _ o items _ n' _ h1 h2 h3 h4 =>
            have hl : PyData.canLayAll0 b = true := by
              have := SeqAt.canLay_of_shaped hs.2
              simpa [PyData.canLay0] using this
            have h1' := SeqAt.depth_of_shaped hs.1
            have h2' : min (PyData.depthAll b) a.depth ≤ a.depth := Nat.min_le_right _ _
            have ea := SeqAt.items_eqAt h4 q1 hl (SeqAt.canLay_of_shaped hs.1) (A := X.A) (by omega)
            have ec : items.toList.countP (fun y => PyData.eqv (SeqAt.readOf s.heap y) a) = b.countP fun z => PyData.eqv z a := by
              rw [← SeqAt.readsAll_map b _ _ hl h4, List.countP_map]
              rfl
            obtain ⟨cls, dd, data, sl⟩ := o
            simp only at h2 h3
            subst h2 h3
            refine call_meets PySem.F.slot_list_count ⟨_, h1, rfl⟩ PySem.F.entry_list_count (PySem.F.args_list_count_2 _ _)
              (SeqAt.list_countAt p items _ dd sl u (fun y => PyData.eqv (SeqAt.readOf s.heap y) a)) ⟨h1, ea, ?_⟩
            refine ⟨.int _, H, I.tok _, ⟨s.toks, rfl⟩, ?_⟩
            rw [ec]
            exact P.same A rfl
        · exact P.elim
      · exact P.elim
    · exact P.elim
  · exact P.elim
theorem m_get (hu : X.A.units + 70 < cLine) : MtR X "dict.get" (rM X.K mGet) := by
  intro pins s σ H v vs vv us Q I rv rvs ⟨m, G, x, ds, A, rx, rs, P⟩
  unfold mGet at P
  split at P
  · rename_i n
    obtain ⟨p, hp, rfl⟩ := rx
    obtain rfl : vv = .ref p := rv
    split at P
    · rename_i kvs e0
      obtain ⟨ks, q1, q2, q3, _⟩ := A.of e0 hp
      have getR : ∀ (k : Key) (d : D) (z : V), Rp X.K m H d z → Rp X.K m H ((getK kvs (keyD k)).getD d) ((valV ks k).getD z) := fun k d z rd => by
        cases e : getK kvs (keyD k) with
        | some y =>
          obtain ⟨w, ew, rw'⟩ := getK_at q2 q3 k e
          rw [ew]
          exact rw'
        | none =>
          have := key_at (K := X.K) (m := m) (H := H) q2 k
          have hn : (kvs.any fun p => decide (p.1 = keyD k)) = false := by
            unfold getK at e
            rw [Option.map_eq_none_iff, List.find?_eq_none] at e
            rw [List.any_eq_false]
            exact e
          rw [hn] at this
          cases e2 : valV ks k with
          | none => exact rd
          | some _ => rw [e2] at this; cases this
      split at P
      · rename_i k
        split at P
        · rename_i hk
          obtain ⟨kk, rfl⟩ := isKey_of hk
          obtain ⟨w, _, rfl, r1, r2⟩ := rs
          cases r2
          have hw : w = kV kk := by cases kk <;> exact r1
          subst hw
          obtain ⟨u, rfl, ru⟩ := rvs.one
          exact d_get1 (by omega) I (DGet.k q1) ru fun w' s' I' r' => ⟨_, H, I', r', P.same A (getR kk .non .non rfl)⟩
        · exact P.elim
      · rename_i k d
        split at P
        · rename_i hk
          obtain ⟨kk, rfl⟩ := isKey_of hk
          obtain ⟨w, _, rfl, r1, z, _, rfl, r2, r3⟩ := rs
          cases r3
          have hw : w = kV kk := by cases kk <;> exact r1
          subst hw
          obtain ⟨u, u2, rfl, ru, ru2⟩ := rvs.two
          exact d_get2 (by omega) I (DGet.k q1) ru ru2 fun w' s' I' r' => ⟨_, H, I', r', P.same A (getR kk d z r2)⟩
        · exact P.elim
      · exact P.elim
    · exact P.elim
  · exact P.elim
/-- what is seen of a type's method -/
def BmOk (X : Cx) (T : String) (name : Str) (op : Mop) : Prop := ∃ id, PlainAttrs T ∧ Slot T name id ∧ typeOf (.builtin id) = pure (.type "method_descriptor") ∧ MtR X id (rM X.K op)
theorem bm_ok (hu : X.A.units + 70 < cLine) {T : String} {name : Str} {op : Mop} (h : bmT T name = some op) : BmOk X T name op := by
  unfold bmT at h
  split at h
  · rename_i hT
    subst hT
    repeat' split at h
    all_goals first | (cases h; done) | skip
    · rename_i hn; subst hn; cases h; exact ⟨_, PySem.F.plainAttrs_list, PySem.F.slot_list_append, PySem.F.type_list_append, m_append⟩
    · rename_i hn; subst hn; cases h; exact ⟨_, PySem.F.plainAttrs_list, PySem.F.slot_list_pop, PySem.F.type_list_pop, m_pop⟩
    · rename_i hn; subst hn; cases h; exact ⟨_, PySem.F.plainAttrs_list, PySem.F.slot_list_extend, PySem.F.type_list_extend, m_extend⟩
    · rename_i hn; subst hn; cases h; exact ⟨_, PySem.F.plainAttrs_list, PySem.F.slot_list_count, PySem.F.type_list_count, m_count hu⟩
  · split at h
    · rename_i hT
      subst hT
      repeat' split at h
      all_goals first | (cases h; done) | skip
      · rename_i hn; subst hn; cases h; exact ⟨_, PySem.F.plainAttrs_dict, PySem.F.slot_dict_get, PySem.F.type_dict_get, m_get hu⟩
    · cases h
theorem type_ty {K : PySem.W.Frag} {m : List Addr} {H : Hp} {g : Hh} {x : D} {v : V} {T : String} (A : At K m H g) (r : Rp K m H x v) (h : typeD g x = some T) : tyV K T v H := by
  cases x with
  | str z => cases h; obtain rfl : v = .str z := r; rfl
  | ref n =>
    obtain ⟨p, hp, rfl⟩ := r
    simp only [typeD] at h
    split at h
    · rename_i xs e0
      cases h
      obtain ⟨vs, q, _⟩ := A.of e0 hp
      exact .inl ⟨rfl, vs, .of q⟩
    · rename_i kvs e0
      cases h
      obtain ⟨ks, q, _⟩ := A.of e0 hp
      exact .inr (.inr (.inl ⟨rfl, .inl ⟨ks, q⟩⟩))
    · cases h
  | _ => cases h
variable {W : WX} {c : Cal} {o e : Expr} {es : List Expr} {ro : Exp} {rs : Arg} {name : Str} {apos cpos : Pos}
/-- a method call is read as one of a type's method, or nothing is read -/
theorem se_mth (hu : X.A.units + 70 < cLine) (ho : SE X W c o ro) (ha : SA X W c (e :: es) rs) (hbase : attributeBase o name X.env (eval o X.env) = eval o X.env)
    (hfew : ((backTo cpos (starEach (e :: es) X.env)).all (fun x => !x.1) && (backToKw cpos (keywordEach [] X.env)).all (fun x => x.1.isSome)
      && decide ((e :: es).length + ([] : List Keyword).length + (if ([] : List Keyword).isEmpty then 0 else 1) < 30)) = true)
    (hline : (apos.endLine == cpos.line) = true) (hs : starEach (e :: es) X.env = (false, eval e X.env) :: starEach es X.env) (hplain : (backTo cpos (starEach es X.env)).any (·.1) = false) :
    SE X W c (.Call (.Attribute o name apos) (e :: es) [] cpos) (eMth name ro rs) := by
  refine ⟨fun pins s σ H Q I h => ?_⟩
  obtain ⟨ρ, G, m, sl, a, P⟩ := h
  have first : LE X.K W (ro c) σ H fun v H1 => ∃ T op, BmOk X T name op ∧ tyV X.K T v H1 ∧ LA X.K W (rs c) σ H1 fun vs H2 => rM X.K op v vs H2 Q := by
    refine ⟨ρ, G, m, sl, a, PostR.step P fun x g m1 H1 v f1 a1 r1 P1 => ?_⟩
    cases eT : typeD g x with
    | none => simp only [eT] at P1; exact P1.elim
    | some T =>
      cases eo : bmT T name with
      | none => simp only [eT, eo] at P1; exact P1.elim
      | some op =>
        simp only [eT, eo] at P1
        refine ⟨T, op, bm_ok hu eo, type_ty a1 r1 eT, ρ, g, m1, sl.fut f1, a1, PostR.step P1 fun ds g2 m2 H2 vs f2 a2 r2 P2 => ?_⟩
        exact ⟨m2, g2, x, ds, a2, Rp.fut f2 _ _ r1, r2, PostR.of.mp P2⟩
  refine wpAny_Call_method_late hbase hfew hline rfl (thn (ho.run pins s σ H _ I first) fun ov s1 ⟨v, H1, I1, rv, T, op, ⟨id, b1, b2, b3, b4⟩, ty, q⟩ => ?_)
  have hT := tyV_is I1 rv ty
  refine ⟨T, id, b1, b2, b3, hT.1, hT.2, ?_⟩
  have args := ha.run cpos pins s1 σ H1 _ I1 q
  rw [hs] at args ⊢
  refine Calls.callWith_builtin (by show (false || (backTo cpos (starEach es X.env)).any (·.1)) = false; rw [hplain, Bool.or_false]) (Calls.evalArgs_plain (thn args fun us s2 ⟨vs, H2, I2, rvs, q2⟩ => ?_))
  exact b4 pins s2 σ H2 v vs ov us Q I2 rv rvs q2
theorem se_mth0 (hu : X.A.units + 70 < cLine) (ho : SE X W c o ro) (hbase : attributeBase o name X.env (eval o X.env) = eval o X.env)
    (hline : (apos.endLine == cpos.line) = true) : SE X W c (.Call (.Attribute o name apos) [] [] cpos) (eMth name ro aNil) := by
  refine ⟨fun pins s σ H Q I h => ?_⟩
  obtain ⟨ρ, G, m, sl, a, P⟩ := h
  have first : LE X.K W (ro c) σ H fun v H1 => ∃ T op, BmOk X T name op ∧ tyV X.K T v H1 ∧ rM X.K op v [] H1 Q := by
    refine ⟨ρ, G, m, sl, a, PostR.step P fun x g m1 H1 v f1 a1 r1 P1 => ?_⟩
    cases eT : typeD g x with
    | none => simp only [eT] at P1; exact P1.elim
    | some T =>
      cases eo : bmT T name with
      | none => simp only [eT, eo] at P1; exact P1.elim
      | some op =>
        simp only [eT, eo] at P1
        exact ⟨T, op, bm_ok hu eo, type_ty a1 r1 eT, m1, g, x, [], a1, r1, Rps.nil, (PostR.of (W := W) (σ := σ)).mp P1⟩
  refine wpAny_Call_method0_late hbase hline (thn (ho.run pins s σ H _ I first) fun ov s1 ⟨v, H1, I1, rv, T, op, ⟨id, b1, b2, b3, b4⟩, ty, q⟩ => ?_)
  have hT := tyV_is I1 rv ty
  exact ⟨T, id, b1, b2, b3, hT.1, hT.2, Calls.callWith_builtin rfl (PySem.evalArgs_none (b4 pins s1 σ H1 v [] ov [] Q I1 rv .nil q))⟩
end
end Ev

namespace Ev
open PySem PySem.Spec PyProof.Rows L2

/-! ## 12. Calls of defs and classes of the text -/
/-- what a def promises, told by a plain function -/
def spOf (K : PySem.W.Frag) (n : Nat) (r : List D → Hh → Res D) : Sp := fun vs H Q E => ∃ m G ds, ds.length = n ∧ At K m H G ∧ Rps K m H ds vs ∧ PostR (Rp K) K (fun u d _ H => E u d H) m H [] Q (r ds G)
def OwnF (X : Cx) (W : WX) (f : Addr) (n : Nat) (r : List D → Hh → Res D) : Prop := ∃ (CX : CXT) (k : Nat) (fd : FuncData) (ps : List Str), FnOk X.prog X.w X.K X.mg X.base CX k f fd ps (spOf X.K n r) ∧ Room (k + 1) X.A ∧ Binds X.K fd ps [] ∧
  (∀ σ, PassesAt CX X σ fun u d H => W u d σ H) ∧ ∀ (X' : Cx) (σ : L2.St), PassesAt CX X' σ fun _ _ _ => False
def eOwn (key : Str) (n : Nat) (rs : Arg) : Exp := fun c ρ g => (rs c ρ g).bind fun ds g => if ds.length = n then c key ds g else .err
/-- C(..): the new thing, then its __init__ -/
def eNew (cl key : Str) (n : Nat) (rs : Arg) : Exp := fun c ρ g => (rs c ρ g).bind fun ds g => if ds.length = n then (c key (.ref g.length :: ds) (g ++ [.ins cl []])).bind fun v g' => (if v = .non then .ok (.ref g.length) g' else .err) else .err
theorem PostR.at {K : PySem.W.Frag} {W : WX} {m : List Addr} {H : Hp} {σ : L2.St} {Q : VK} {x : Res D} (h : PostR (Rp K) K W m H σ Q x) : PostR (Rp K) K (fun u d _ H => W u d σ H) m H [] Q x := by
  cases x with
  | ok a g => exact h
  | exc c fs g => exact h
  | err => exact h
section
variable {X : Cx} {W : WX} {c : Cal} {x : Str} {f : Addr} {n : Nat} {key cl : Str} {p pos : Pos} {e : Expr} {es : List Expr} {rs : Arg}
theorem own_run (F : OwnF X W f n (c key)) {pins : List (Addr × Obj)} {s : Shared} {σ : L2.St} {H : Hp} {Q : VK} {us : List Value} {vs : List V} (I : Inv X pins σ H s) (r : Vals vs us)
    (h : ∃ m G ds, ds.length = n ∧ At X.K m H G ∧ Rps X.K m H ds vs ∧ PostR (Rp X.K) X.K W m H σ Q (c key ds G)) : wpAny (model X.prog X.w) X.A (call (.ref f) us) (EP X pins σ Q) X.xe s := by
  obtain ⟨CX, k, fd, ps, fo, hr, hb, hx, _⟩ := F
  obtain ⟨m, G, ds, hl, A, rr, P⟩ := h
  exact run_fnSD (dvs := []) (ds := []) (E := fun σ u d H => W u d σ H) fo (hr.mono (Nat.le_succ _)) hb .nil (hx σ) I r (by rw [List.append_nil]; exact ⟨m, G, ds, hl, A, rr, P.at⟩)
theorem le_own {σ : L2.St} {H : Hp} {Q : VK} (h : LE X.K W (eOwn key n rs c) σ H Q) : LA X.K W (rs c) σ H fun vs H1 => ∃ m G ds, ds.length = n ∧ At X.K m H1 G ∧ Rps X.K m H1 ds vs ∧ PostR (Rp X.K) X.K W m H1 σ Q (c key ds G) := by
  obtain ⟨ρ, G, m, sl, a, P⟩ := h
  refine ⟨ρ, G, m, sl, a, PostR.step P fun ds g m1 H1 vs f1 a1 r1 P1 => ?_⟩
  split at P1
  · rename_i hl
    exact ⟨m1, g, ds, hl, a1, r1, P1⟩
  · exact P1.elim
theorem se_own (F : OwnF X W f n (c key)) (hg : Gl X x) (hm : X.mg x = some (.ref f)) (hk : PySem.W.keepIn X.K (.ref f) = true) (ha : SA X W c (e :: es) rs) (hdb : (x == ("__debug__" : Str)) = false)
    (he : starEach (e :: es) X.env = (false, eval e X.env) :: starEach es X.env) (hpl : (backTo pos (starEach es X.env)).any (·.1) = false) : SE X W c (.Call (.Name x p) (e :: es) [] pos) (eOwn key n rs) := by
  refine ⟨fun pins s σ H Q I h => wpAny_Call_Name_kw (ld_glob I hg hm ?_ hdb)⟩
  exact PySem.W.callWith_K (h₀ := X.base) I.ok.mod.kin hk (thn (ha.run pos pins s σ H _ I (le_own h)) fun us s1 ⟨vs, H1, I1, r, q⟩ => ⟨I1.kIn, own_run F I1 r q⟩) he hpl
theorem se_own0 (F : OwnF X W f n (c key)) (hg : Gl X x) (hm : X.mg x = some (.ref f)) (hk : PySem.W.keepIn X.K (.ref f) = true) (hdb : (x == ("__debug__" : Str)) = false) : SE X W c (.Call (.Name x p) [] [] pos) (eOwn key n aNil) := by
  refine ⟨fun pins s σ H Q I h => wpAny_Call_Name_kw (ld_glob I hg hm ?_ hdb)⟩
  refine PySem.W.callWith_K0 I.kIn hk (own_run (us := []) (vs := []) F I .nil ?_)
  obtain ⟨ρ, G, m, sl, a, P⟩ := h
  refine ⟨m, G, [], ?_⟩
  simp only [eOwn, aNil, Res.bind] at P
  split at P
  · rename_i hl
    exact ⟨hl, a, Rps.nil, P⟩
  · exact P.elim
/-! keywords -/
abbrev SK (X : Cx) (W : WX) (c : Cal) (kws : List Keyword) (rs : Arg) : Prop := PK X kws (LA X.K W (rs c))
theorem sk_nil : SK X W c [] aNil := by
  refine ⟨fun pos pins s σ H Q I h => pk_nil.run pos pins s σ H Q I ?_⟩
  obtain ⟨ρ, G, m, sl, a, P⟩ := h
  exact P m H [] Fut.refl a rfl
theorem sk_cons {nm : Option Str} {kpos : Pos} {ra : Exp} {kws : List Keyword} (ha : SE X W c e ra) (hr : SK X W c kws rs) : SK X W c (⟨nm, e, kpos⟩ :: kws) (aCons ra rs) := by
  refine ⟨fun pos pins s σ H Q I h => (pk_cons ha hr).run pos pins s σ H Q I ?_⟩
  obtain ⟨ρ, G, m, sl, a, P⟩ := h
  refine ⟨ρ, G, m, sl, a, PostR.step P fun x g m1 H1 v f1 a1 r1 P1 => ?_⟩
  refine ⟨ρ, g, m1, sl.fut f1, a1, PostR.step P1 fun xs g2 m2 H2 us f2 a2 r2 P2 => ?_⟩
  exact P2 m2 H2 _ Fut.refl a2 (Rps.cons (Rp.fut f2 _ _ r1) r2)
/-- the keywords' values in the parameters' order -/
def ordK {α : Type} (ix : List Nat) (ws : List α) : List α := ix.filterMap fun i => ws[i]?
def eOwnK (key : Str) (n : Nat) (ix : List Nat) (rs : Arg) : Exp := fun c ρ g => (rs c ρ g).bind fun ds g => if ds.length = ix.length ∧ (ordK ix ds).length = n then c key (ordK ix ds) g else .err
theorem Rps.ord {K : PySem.W.Frag} {m : List Addr} {H : Hp} {ds : List D} {vs : List V} (r : Rps K m H ds vs) : ∀ ix : List Nat, Rps K m H (ordK ix ds) (ordK ix vs)
  | [] => Rps.nil
  | i :: ix => by
    unfold ordK
    rw [List.filterMap_cons, List.filterMap_cons]
    cases e : ds[i]? with
    | none =>
      have : vs[i]? = none := by
        rw [List.getElem?_eq_none_iff] at e ⊢
        rw [← Rps.len r]
        exact e
      rw [this]
      exact Rps.ord r ix
    | some d =>
      obtain ⟨v, e2, rv⟩ := Rps.get r e
      rw [e2]
      exact Rps.cons rv (Rps.ord r ix)
theorem vals_ord {vs : List V} {us : List Value} (r : Vals vs us) : ∀ ix : List Nat, Vals (ordK ix vs) (ordK ix us)
  | [] => .nil
  | i :: ix => by
    unfold ordK
    rw [List.filterMap_cons, List.filterMap_cons]
    cases e : vs[i]? with
    | none =>
      rw [r.none_of e]
      exact vals_ord r ix
    | some d =>
      obtain ⟨v, e2, rv⟩ := r.get e
      rw [e2]
      exact .cons rv (vals_ord r ix)
/-- the keywords named ks bind so -/
def OwnK (X : Cx) (W : WX) (f : Addr) (n : Nat) (ks : List Str) (ix : List Nat) (r : List D → Hh → Res D) : Prop := ∃ (CX : CXT) (k : Nat) (fd : FuncData) (ps : List Str), FnOk X.prog X.w X.K X.mg X.base CX k f fd ps (spOf X.K n r) ∧ Room (k + 1) X.A ∧
  (∀ (s : Shared) (ws : List Value), X.K.In s.heap → ws.length = ks.length → BindsTo s fd ⟨[], ks.zip ws⟩ (ps.zip (ordK ix ws))) ∧ ks.length = ix.length ∧ (∀ σ, PassesAt CX X σ fun u d H => W u d σ H) ∧ ∀ (X' : Cx) (σ : L2.St), PassesAt CX X' σ fun _ _ _ => False
theorem se_ownK {ks : List Str} {ix : List Nat} {kws : List Keyword} (F : OwnK X W f n ks ix (c key)) (hg : Gl X x) (hm : X.mg x = some (.ref f)) (hk : PySem.W.keepIn X.K (.ref f) = true) (ha : SK X W c kws rs) (hdb : (x == ("__debug__" : Str)) = false)
    (hall : (backToKw pos (keywordEach kws X.env)).all (·.1.isSome) = true) (hks : (backToKw pos (keywordEach kws X.env)).filterMap (·.1) = ks)
    (hpl : ((backTo pos (starEach [] X.env)).any (·.1) || (backToKw pos (keywordEach kws X.env)).any (·.1.isNone)) = false) : SE X W c (.Call (.Name x p) [] kws pos) (eOwnK key n ix rs) := by
  refine ⟨fun pins s σ H Q I h => wpAny_Call_Name_kw (ld_glob I hg hm ?_ hdb)⟩
  obtain ⟨CX, k, fd, ps, fo, hr, hb, hix, hx, _⟩ := F
  have hla : LA X.K W (rs c) σ H fun vs H1 => ∃ m G ds, ds.length = ix.length ∧ (ordK ix ds).length = n ∧ At X.K m H1 G ∧ Rps X.K m H1 ds vs ∧ PostR (Rp X.K) X.K W m H1 σ Q (c key (ordK ix ds) G) := by
    obtain ⟨ρ, G, m, sl, a, P⟩ := h
    refine ⟨ρ, G, m, sl, a, PostR.step P fun ds g m1 H1 vs f1 a1 r1 P1 => ?_⟩
    split at P1
    · rename_i hl
      exact ⟨m1, g, ds, hl.1, hl.2, a1, r1, P1⟩
    · exact P1.elim
  refine PySem.W.callWith_KW0 (h₀ := X.base) I.ok.mod.kin hk hall (thn (ha.run pos pins s σ H _ I hla) fun ws s2 ⟨zs, H2, I2, rz, m, G, ds, l1, l2, A, rr, P⟩ => ⟨I2.kIn, ?_⟩) hpl
  rw [hks]
  have hz : zs.length = ks.length := by rw [← Rps.len rr, l1, hix]
  refine wpAny_call (codeAny_mono (fo.run X.A X.stack s2 H2 ⟨[], ks.zip ws⟩ (ordK ix ws) (ordK ix zs) Q (fun u d H => W u d σ H) (hr.mono (Nat.le_succ _)) I2.env0 (hb s2 ws I2.kIn (by rw [← rz.length]; exact hz)) (vals_ord rz ix) ⟨m, G, _, l2, A, Rps.ord rr ix, P.at⟩) fun r s' hq => ?_)
  match r, hq with
  | .error e, hq => exact hx σ pins H2 s2 e s' I2 hq
  | .ok (.ret u), hq => exact I2.after hq
  | .ok .next, hq => exact hq.elim
  | .ok .brk, hq => exact hq.elim
  | .ok .cont, hq => exact hq.elim
/-! classes -/
theorem se_new {C : Addr} (M : Mk X.K C f) (hC : C = He.ga X.K cl) (F : OwnF X W f (n + 1) (c key)) (hg : Gl X x) (hm : X.mg x = some (.ref C)) (ha : SA X W c (e :: es) rs) (hdb : (x == ("__debug__" : Str)) = false)
    (he : starEach (e :: es) X.env = (false, eval e X.env) :: starEach es X.env) (hpl : (backTo pos (starEach es X.env)).any (·.1) = false) : SE X W c (.Call (.Name x p) (e :: es) [] pos) (eNew cl key n rs) := by
  refine ⟨fun pins s σ H Q I h => wpAny_Call_Name_kw (ld_glob I hg hm ?_ hdb)⟩
  obtain ⟨CX, k, fd, ps, fo, hr, hb, hx, _⟩ := F
  subst hC
  have hla : LA X.K W (rs c) σ H fun vs H1 => ∃ m G ds, ds.length = n ∧ At X.K m H1 G ∧ Rps X.K m H1 ds vs ∧ PostR (Rp X.K) X.K W m H1 σ Q ((c key (.ref G.length :: ds) (G ++ [.ins cl []])).bind fun v g' => if v = .non then .ok (.ref G.length) g' else .err) := by
    obtain ⟨ρ, G, m, sl, a, P⟩ := h
    refine ⟨ρ, G, m, sl, a, PostR.step P fun ds g m1 H1 vs f1 a1 r1 P1 => ?_⟩
    split at P1
    · rename_i hl
      exact ⟨m1, g, ds, hl, a1, r1, P1⟩
    · exact P1.elim
  refine PySem.W.callWith_K (h₀ := X.base) I.ok.mod.kin M.kp (thn (ha.run pos pins s σ H _ I hla) fun us s1 ⟨vs, H1, I1, r, m, G, ds, hl, A, rr, P⟩ => ⟨I1.kIn, ?_⟩) he hpl
  -- the two new cells
  have n1 : H1 (s1.heap.objs.size + 1) = none := I1.hok.fresh (Nat.le_add_right _ 1)
  have n0 : H1 s1.heap.objs.size = none := I1.hok.fresh Nat.le.refl
  have ne : s1.heap.objs.size ≠ s1.heap.objs.size + 1 := Nat.ne_of_lt (Nat.lt_add_one _)
  generalize hz : s1.heap.objs.size + 1 = z at n1 ne
  have A1 : At X.K m (upd H1 s1.heap.objs.size (.own z)) G := A.extra n0
  have f1 : Fut X.K m H1 m (upd H1 s1.heap.objs.size (.own z)) := by
    have := Fut.upd_new (K := X.K) (m := m) (o := HO.own z) n0 []
    rwa [List.append_nil] at this
  have nz : upd H1 s1.heap.objs.size (.own z) z = none := (upd_ne ne.symm).trans n1
  have A2 := A1.push (u := .ins (He.ga X.K cl) s1.heap.objs.size []) (o := .ins cl []) nz ⟨_, [], upd_same, rfl, Rps.nil⟩
  have f2 := f1.trans (Fut.upd_new (K := X.K) (m := m) (o := HO.ins (He.ga X.K cl) s1.heap.objs.size []) nz [z])
  have hzm : (m ++ [z])[G.length]? = some z := by
    rw [← A.len, List.getElem?_append_right Nat.le.refl, Nat.sub_self]
    rfl
  have sp := (PostR.at (PostR.step (R' := Rp X.K) (Q' := fun v H2 => v = .non ∧ Q (.ref z) H2) (PostR.fut f2 P) fun d g' m3 H3 v f3 a3 r3 P3 => by
    split at P3
    · rename_i hd
      subst hd
      exact ⟨r3, P3 m3 H3 _ Fut.refl a3 ⟨z, f3.at hzm, rfl⟩⟩
    · exact P3.elim))
  have promise : spOf X.K (n + 1) (c key) (.ref z :: vs) (upd (upd H1 s1.heap.objs.size (.own z)) z (.ins (He.ga X.K cl) s1.heap.objs.size [])) (fun v H2 => v = .non ∧ Q (.ref z) H2) fun u d H => W u d σ H :=
    ⟨m ++ [z], G ++ [.ins cl []], .ref G.length :: ds, by simp [hl], A2, Rps.cons ⟨z, hzm, rfl⟩ (Rps.fut f2 _ _ rr), sp⟩
  have J := Inv.made (C := He.ga X.K cl) I1
  subst hz
  have rv : Vals (V.ref (s1.heap.objs.size + 1) :: vs) (Value.ref (s1.heap.objs.size + 1) :: us) := .cons rfl r
  have len := rv.length.symm.trans (fo.len _ _ _ _ promise)
  have bd := hb _ (Value.ref (s1.heap.objs.size + 1) :: us) J.kIn (by rw [List.append_nil]; exact len)
  rw [List.append_nil] at bd
  have runs := fo.run _ X.stack _ _ _ _ _ _ (fun u d H => W u d σ H) (hr.make (He.ga X.K cl) us []) (J.env0.make (He.ga X.K cl) us []) bd rv promise
  refine wpAny_call (make_map (f := f) I1.kIn M.makes M.init (beq_iff_eq.mp M.fn) (codeAny_mono runs fun r s' hq => ?_))
  match r, hq with
  | .error e, hq => exact hx σ pins _ _ e s' J hq
  | .ok (.ret u), hq =>
    obtain ⟨w, H', I3, rw', e, q3⟩ := J.after hq
    subst e
    exact ⟨rw', .ref _, H', I3, rfl, q3⟩
  | .ok .next, hq => exact hq.elim
  | .ok .brk, hq => exact hq.elim
  | .ok .cont, hq => exact hq.elim
end
end Ev

namespace Ev
open PySem PySem.Spec PyProof.Rows L2

/-! ## 13. Stores at places -/
def putFD (f : Str) (d : D) : List (Str × D) → List (Str × D)
  | [] => [(f, d)]
  | (g, x) :: r => if g = f then (g, d) :: r else (g, x) :: putFD f d r
def sFld (cs : List Str) (f : Str) (ro rv : Exp) : Stm := fun c ρ g => (rv c ρ g).out ρ fun d g => (ro c ρ g).out ρ fun x g => match x with
  | .ref n => match g[n]? with
    | some (.ins cl fs) => if cl ∈ cs ∧ fs.length < 1000 then .nx ρ (g.set n (.ins cl (putFD f d fs))) else .err
    | _ => .err
  | _ => .err
/-- o.f op= e -/
def sFldAug (cs : List Str) (f : Str) (op : D → D → Hh → Option (D × Hh)) (ro rv : Exp) : Stm := fun c ρ g => (ro c ρ g).out ρ fun x g => match x with
  | .ref n => match g[n]? with
    | some (.ins cl fs) => if cl ∈ cs then (match fs.lookup f with
      | some y => (rv c ρ g).out ρ fun d g => (Res.of (op y d g)).out ρ fun z g => match g[n]? with
        | some (.ins cl' fs') => if cl' = cl ∧ fs'.length < 1000 then .nx ρ (g.set n (.ins cl (putFD f z fs'))) else .err
        | _ => .err
      | none => .err) else .err
    | _ => .err
  | _ => .err
def rSet (K : PySem.W.Frag) : TSet := fun o i v H Q => ∃ m G x y d, At K m H G ∧ Rp K m H x o ∧ Rp K m H y i ∧ Rp K m H d v ∧ match dSet x y d G with
  | some G' => ∀ H', Fut K m H m H' → At K m H' G' → Q H'
  | none => False
def notSlice : Expr → Bool
  | .Slice .. => false
  | _ => true
section
variable {X : Cx} {W : WX} {c : Cal}
theorem set_all (hu : X.A.units + 70 < cLine) : PSet X (rSet X.K) := by
  intro pins s σ H o i v ov iv u Q I ro ri rv ⟨m, G, x, y, d, A, rx, ry, rd, P⟩
  cases x with
  | ref n =>
    obtain ⟨p, hp, rfl⟩ := rx
    simp only [dSet] at P
    split at P
    · rename_i G' eG
      split at eG
      · rename_i xs e0
        obtain ⟨ws, q, r⟩ := A.of e0 hp
        cases y with
        | int k =>
          simp only at eG
          split at eG
          · rename_i j ej
            cases eG
            obtain rfl : i = .int k := ry
            refine set_list pins s σ H _ _ v ov iv u Q I ro ri rv ⟨p, ws, k, j, rfl, rfl, q, by rw [← Rps.len r]; exact ej, ?_⟩
            obtain ⟨f, A'⟩ := A.put (u := .lst (ws.set j v)) (o' := .lst (xs.set j d)) e0 hp fun f => ⟨_, upd_same, Rps.fut f _ _ (Rps.set rd j r)⟩
            exact P _ f A'
          · cases eG
        | _ => cases eG
      · rename_i kvs e0
        obtain ⟨ks, q1, q2, q3, q4⟩ := A.of e0 hp
        have hl : kvs.length = ks.length := by simpa using congrArg List.length q2
        split at eG
        · rename_i hlen
          have fin : ∀ kk : Key, i = kV kk → G' = G.set n (.dct (putD kvs (keyD kk) d)) → wpAny (model X.prog X.w) X.A (setItem ov iv u) (fun _ s' => ∃ H', Inv X pins σ H' s' ∧ Q H') X.xe s := fun kk ei eG => by
            subst eG
            have put := putD_rep (k := kk) q2 q3 rd
            obtain ⟨f, A'⟩ := A.put (u := .dK (putK ks kk v)) (o' := .dct (putD kvs (keyD kk) d)) e0 hp fun f => ⟨_, upd_same, put.1, Rps.fut f _ _ put.2, putK_nodup q4⟩
            refine set_dict (by omega) pins s σ H _ _ v ov iv u Q I ro ri rv ⟨p, _, rfl, ?_, P _ f A'⟩
            rw [ei]
            exact DPut.k q1 (by omega)
          cases y with
          | int k => cases eG; exact fin (.inl k) ry rfl
          | str k => cases eG; exact fin (.inr k) ry rfl
          | _ => cases eG
        · cases eG
      · cases eG
    · exact P.elim
  | _ => exact P.elim
theorem assign_sub {o i : Expr} {pos : Pos} (h : notSlice i = true) (v : Value) : assign (.Subscript o i pos) X.env v = (do
      let ov ← holding [v] (eval o X.env)
      let iv ← holding [v, ov] (eval i X.env)
      standAt pos
      holding [v, ov, iv] (setItem ov iv v)
      release [v, ov, iv] []) := by
  cases i <;> first | rfl | cases h
theorem sg_sub {o i : Expr} {ro ri : Exp} {pos : Pos} (hu : X.A.units + 70 < cLine) (hi' : notSlice i = true) (ho : SE X W0 c o ro) (hi : SE X W0 c i ri) : SG X c (.Subscript o i pos) (gSb ro ri) := by
  refine ⟨fun pins s σ H v u Q I r h => (pg_sub ho hi (set_all hu) (assign_sub hi')).run pins s σ H v u Q I r ?_⟩
  obtain ⟨ρ, G, m, d, sl, a, rd, P⟩ := h
  unfold gSb at P
  refine ⟨ρ, G, m, sl, a, ?_⟩
  cases eo : ro c ρ G with
  | exc _ _ _ => rw [eo] at P; exact P.elim
  | err => rw [eo] at P; exact P.elim
  | ok x g =>
    rw [eo] at P
    dsimp only [Res.bind] at P
    intro m1 H1 w f1 a1 r1
    refine ⟨ρ, g, m1, sl.fut f1, a1, ?_⟩
    cases ei : ri c ρ g with
    | exc _ _ _ => rw [ei] at P; exact P.elim
    | err => rw [ei] at P; exact P.elim
    | ok y g2 =>
      rw [ei] at P
      dsimp only at P
      intro m2 H2 w2 f2 a2 r2
      refine ⟨m2, g2, x, y, d, a2, Rp.fut f2 _ _ r1, r2, Rp.fut (f1.trans f2) _ _ rd, ?_⟩
      cases es : dSet x y d g2 with
      | none => simp only [es] at P; exact P.elim
      | some g3 =>
        simp only [es] at P
        exact fun H3 f3 a3 => P m2 H3 σ (f1.trans (f2.trans f3)) a3 (sl.fut (f1.trans (f2.trans f3)))
theorem putF_rep {K : PySem.W.Frag} {m : List Addr} {H : Hp} {f : Str} {d : D} {v : V} (rd : Rp K m H d v) : ∀ {fs : List (Str × D)} {vs : List (Str × V)}, Rfs K m H fs vs → Rfs K m H (putFD f d fs) (putF f v vs) := by
  intro fs
  induction fs with
  | nil =>
    intro vs r
    cases vs with
    | nil => exact ⟨rfl, Rps.cons rd Rps.nil⟩
    | cons _ _ => cases r.1
  | cons p ps ih =>
    intro vs r
    cases vs with
    | nil => cases r.1
    | cons q qs =>
      obtain ⟨a, b⟩ := p
      obtain ⟨a', b'⟩ := q
      obtain ⟨e, w, _, e3, ra, rb⟩ := r
      simp only [List.map_cons, List.cons.injEq] at e e3
      obtain ⟨rfl, e⟩ := e
      obtain ⟨rfl, rfl⟩ := e3
      have h2 := ih (vs := qs) ⟨e, rb⟩
      unfold putFD putF
      by_cases h : a = f
      · rw [if_pos h, if_pos h]
        exact ⟨by simp [e], Rps.cons rd rb⟩
      · rw [if_neg h, if_neg h]
        exact ⟨by simp [h2.1], Rps.cons ra h2.2⟩
theorem Rfs.fut {K : PySem.W.Frag} {m m' : List Addr} {H H' : Hp} {fs : List (Str × D)} {vs : List (Str × V)} (f : Fut K m H m' H') (r : Rfs K m H fs vs) : Rfs K m' H' fs vs := ⟨r.1, Rps.fut f _ _ r.2⟩
theorem Rfs.len {K : PySem.W.Frag} {m : List Addr} {H : Hp} {fs : List (Str × D)} {vs : List (Str × V)} (r : Rfs K m H fs vs) : fs.length = vs.length := by simpa using congrArg List.length r.1
theorem ss_fld {cs : List Str} {f : Str} {o value : Expr} {ro rv : Exp} {pos pos' : Pos} (ho : SE X W c o ro) (hv : SE X W c value rv) (hc : ∀ cl ∈ cs, ClsOk X.K cl f) (hs : swapsWith value (some (.Attribute o f pos')) pos.line X.env = pure false) :
    SS X W c (.Assign [.Attribute o f pos'] value pos) (sFld cs f ro rv) := by
  refine ps_imp (ps_fld ho hv hs) fun E σ H ⟨ρ, G, m, s, a, P⟩ => ?_
  refine ⟨ρ, G, m, s, a, PostS.step s P fun d g m1 H1 v f1 a1 r1 P1 => ?_⟩
  refine ⟨ρ, g, m1, s.fut f1, a1, PostS.step (s.fut f1) P1 fun x g2 m2 H2 w f2 a2 r2 P2 => ?_⟩
  cases x with
  | ref n =>
    obtain ⟨p, hp, rfl⟩ := r2
    dsimp only at P2
    split at P2
    · rename_i cl fs e0
      split at P2
      · rename_i hcl
        obtain ⟨dx, vs, q, rr⟩ := a2.of e0 hp
        obtain ⟨h1, h2⟩ := hc cl hcl.1
        refine ⟨p, _, dx, vs, rfl, q, h1, h2, by rw [← rr.len]; exact hcl.2, ?_⟩
        obtain ⟨f3, A3⟩ := a2.put (u := .ins (He.ga X.K cl) dx (putF f v vs)) (o' := .ins cl (putFD f d fs)) e0 hp fun f => ⟨dx, _, upd_same, (putF_rep (Rp.fut f2 _ _ r1) rr).fut f⟩
        exact P2 m2 _ σ f3 A3 (s.fut (f1.trans (f2.trans f3)))
      · exact P2.elim
    · exact P2.elim
  | _ => exact P2.elim
theorem ss_fldaug {cs : List Str} {f : Str} {op : Operator} {dop : D → D → Hh → Option (D × Hh)} {o value : Expr} {ro rv : Exp} {pos tpos : Pos} (ho : SE X W c o ro) (hv : SE X W c value rv) (hop : OpR X (inplaceOp op) (rO X.K dop)) (hc : ∀ cl ∈ cs, ClsOk X.K cl f) :
    SS X W c (.AugAssign (.Attribute o f tpos) op value pos) (sFldAug cs f dop ro rv) := by
  have hp : InOp X op (rO X.K dop) := fun pins s σ H x y u v Q I r1 r2 h => hop pins s σ H x y u v Q I r1 r2 h
  refine ps_imp (ps_fldaug ho hv hp) fun E σ H ⟨ρ, G, m, s, a, P⟩ => ?_
  refine ⟨ρ, G, m, s, a, PostS.step s P fun x g m1 H1 w f1 a1 r1 P1 => ?_⟩
  cases x with
  | ref n =>
    obtain ⟨p, hp, rfl⟩ := r1
    dsimp only at P1
    split at P1
    · rename_i cl fs e0
      split at P1
      · rename_i hcl
        obtain ⟨dx, vs, q, rr⟩ := a1.of e0 hp
        obtain ⟨h1, h2⟩ := hc cl hcl
        split at P1
        · rename_i y ey
          obtain ⟨wy, ewy, rwy⟩ := rr.get ey
          refine ⟨p, _, dx, vs, wy, rfl, q, h1, h2, ewy, ρ, g, m1, s.fut f1, a1, PostS.step (s.fut f1) P1 fun d g2 m2 H2 v f2 a2 r2 P2 => ?_⟩
          refine ⟨m2, g2, y, d, a2, Rp.fut f2 _ _ rwy, r2, (PostR.of (W := W) (σ := σ)).mp (PostS.step (s.fut (f1.trans f2)) P2 fun z g3 m3 H3 u f3 a3 r3 P3 => ?_)⟩
          split at P3
          · rename_i cl' fs' e0'
            split at P3
            · rename_i hcl'
              obtain ⟨rfl, hl⟩ := hcl'
              have hp3 := (f2.trans f3).at hp
              obtain ⟨dx', vs', q', rr'⟩ := a3.of e0' hp3
              refine ⟨dx', vs', q', by rw [← rr'.len]; exact hl, ?_⟩
              obtain ⟨f4, A4⟩ := a3.put (u := .ins (He.ga X.K cl') dx' (putF f u vs')) (o' := .ins cl' (putFD f z fs')) e0' hp3 fun f => ⟨dx', _, upd_same, (putF_rep r3 rr').fut f⟩
              exact P3 m3 _ σ f4 A4 (s.fut (f1.trans (f2.trans (f3.trans f4))))
            · exact P3.elim
          · exact P3.elim
        · exact P1.elim
      · exact P1.elim
    · exact P1.elim
  | _ => exact P1.elim
end
end Ev

namespace Ev
open PySem PySem.Spec PyProof.Rows L2

/-! ## 19. Nested tuples of ints and texts as keys -/
mutual
def Nv (h : Heap) : D → Value → Prop
  | .int i, v => ∃ t, v = .int i t
  | .str x, v => ∃ t, v = .str x t
  | .tup ds, v => ∃ a o vs n, v = .ref a ∧ h.get? a = some o ∧ o.cls = .type "tuple" ∧ o.data = .seq vs n ∧ Nvs h ds vs.toList
  | _, _ => False
def Nvs (h : Heap) : List D → List Value → Prop
  | [], vs => vs = []
  | d :: ds, vs => ∃ v r, vs = v :: r ∧ Nv h d v ∧ Nvs h ds r
end
mutual
def dpD : D → Nat
  | .tup ds => dpDs ds + 1
  | _ => 0
def dpDs : List D → Nat
  | [] => 0
  | d :: ds => max (dpD d) (dpDs ds)
end
mutual
def hD (w : World) : D → Int
  | .int i => hashInt i
  | .str x => hashStr w x
  | .tup ds => reduceHash (Builtin.Tuple.tupleHashOf (hDs w ds))
  | _ => 0
def hDs (w : World) : List D → List Int
  | [] => []
  | d :: ds => hD w d :: hDs w ds
end
mutual
def drD : D → Nat
  | .tup ds => drDs ds + 1
  | _ => 1
def drDs : List D → Nat
  | [] => 0
  | d :: ds => drD d + drDs ds
end
theorem hDs_append (w : World) : ∀ xs ys : List D, hDs w (xs ++ ys) = hDs w xs ++ hDs w ys
  | [], _ => rfl
  | x :: xs, ys => by show hD w x :: hDs w (xs ++ ys) = _; rw [hDs_append w xs ys]; rfl
theorem drDs_append : ∀ xs ys : List D, drDs (xs ++ ys) = drDs xs + drDs ys
  | [], _ => by simp [drDs]
  | x :: xs, ys => by show drD x + drDs (xs ++ ys) = _; rw [drDs_append xs ys]; simp [drDs]; omega
theorem dpDs_mem : ∀ {ds : List D} {d : D}, d ∈ ds → dpD d ≤ dpDs ds
  | d :: ds, x, h => by
    rcases List.mem_cons.mp h with e | h
    · rw [e]; exact Nat.le_max_left _ _
    · exact Nat.le_trans (dpDs_mem h) (Nat.le_max_right _ _)
section
variable {P : Program} {w : World} {A : Around} {E : Value → Shared → Prop} {s : Shared}
theorem Nv.typeIs {ds : List D} {a : Addr} (h : Nv s.heap (.tup ds) (.ref a)) : s.TypeIs (.ref a) "tuple" := by
  obtain ⟨b, o, vs, n, e, h1, h2, _⟩ := h
  cases e
  exact ⟨o, h1, h2⟩
theorem nv_hash : ∀ (m : Nat) (d : D), dpD d ≤ m → ∀ {A : Around} {s : Shared} {v : Value} {E : Value → Shared → Prop} {Q : Int → Shared → Prop}, Nv s.heap d v → A.units + 2 * m < cLine → Q (hD w d) { s with toks := s.toks + drD d } → wpAny (model P w) A (pyHash v) Q E s := by
  intro m
  induction m with
  | zero =>
    intro d hd A s v E Q hv hu h
    cases d with
    | int i => obtain ⟨t, rfl⟩ := hv; exact wpAny_pyHash_int h
    | str x => obtain ⟨t, rfl⟩ := hv; exact wpAny_pyHash_str h
    | tup ds => exact absurd hd (by simp [dpD])
    | _ => exact hv.elim
  | succ m ih =>
    intro d hd A s v E Q hv hu h
    cases d with
    | int i => obtain ⟨t, rfl⟩ := hv; exact wpAny_pyHash_int h
    | str x => obtain ⟨t, rfl⟩ := hv; exact wpAny_pyHash_str h
    | tup ds =>
      obtain ⟨a, o, vs, n, rfl, ho, hc, hdat, hvs⟩ := id hv
      have hT := Nv.typeIs hv
      have hds : dpDs ds ≤ m := by simp [dpD] at hd; exact hd
      unfold pyHash
      first | unfold pyHashByItsType | skip
      first | refine wpAny_bind (wpAny_cRoomFor_or (.inr (by omega)) ?_) | skip
      refine wpAny_bind (wpAny_specialOf hT F.slot_tuple_hash.lookup ?_)
      refine wp_if_neg (by rw [beq_builtin_none]; exact Bool.false_ne_true) ?_
      refine wpAny_bind (wpAny_specialOf hT F.slot_tuple_hash.lookup ?_)
      show wpAny _ _ (callSpecialIfBoundUnlessNone? (.ref a) "__hash__" _ >>= _) Q E s
      refine wpAny_bind (wpAny_callSpecialIfBoundUnlessNone?_slot hT F.slot_tuple_hash (wpAny_call_entry F.slot_tuple_hash hT F.entry_tuple_hash ?_ (F.args_tuple_hash_1 _)))
      show wpAny _ _ (Builtin.Tuple.tupleItemsOf (.ref a) >>= _) _ _ s
      refine wpAny_bind (wpAny_tupleItemsOf ho hdat (wpAny_bind ?_))
      rw [← Array.forIn_toList]
      refine wpAny_forIn_list _ (fun rest (b : Array Int) z => ∃ done left, ds = done ++ left ∧ Nvs s.heap left rest ∧ b.toList = hDs w done ∧ z = { s with toks := s.toks + drDs done }) _ ?_ ?_ _ _ ⟨[], ds, rfl, hvs, rfl, rfl⟩
      · rintro x rest b z ⟨done, left, rfl, hl, hb, rfl⟩
        cases left with
        | nil => cases hl
        | cons k left =>
          obtain ⟨y, r, e, hk, hl⟩ := hl
          cases e
          have hkm : dpD k ≤ m := Nat.le_trans (dpDs_mem (List.mem_append_right _ List.mem_cons_self)) hds
          refine wpAny_bind (ih k hkm hk (by show A.units + 1 + 2 * m < cLine; omega) ?_)
          have fin : ∃ done' left', done ++ k :: left = done' ++ left' ∧ Nvs s.heap left' rest ∧ (b.push (hD w k)).toList = hDs w done' ∧ ({ s with toks := s.toks + drDs done + drD k } : Shared) = { s with toks := s.toks + drDs done' } :=
            ⟨done ++ [k], left, by simp, hl, by simp [hb, hDs_append, hDs], by rw [drDs_append]; simp [drDs, Nat.add_assoc]⟩
          first
            | exact wpAny_pure fin
            | exact wpAny_bind (wpAny_pure (wpAny_pure fin))
      · rintro b z ⟨done, left, e0, hl, hb, rfl⟩
        cases left with
        | cons k left => obtain ⟨y, r, e, _⟩ := hl; cases e
        | nil =>
          rw [List.append_nil] at e0
          subst e0
          show wpAny _ _ (retInt (Builtin.Tuple.tupleHashOf b.toList)) _ _ _
          rw [hb]
          refine wpAny_ret_mkInt ?_
          have h' : Q (reduceHash (Builtin.Tuple.tupleHashOf (hDs w ds))) { s with toks := s.toks + (drDs ds + 1) } := h
          show wpAny _ _ (if (decide (-(2 : Int) ^ 63 ≤ Builtin.Tuple.tupleHashOf (hDs w ds)) && decide (Builtin.Tuple.tupleHashOf (hDs w ds) < 2 ^ 63)) = true then _ else _) Q E _
          unfold reduceHash at h'
          by_cases hr : (decide (-(2 : Int) ^ 63 ≤ Builtin.Tuple.tupleHashOf (hDs w ds)) && decide (Builtin.Tuple.tupleHashOf (hDs w ds) < 2 ^ 63)) = true
          · rw [if_pos hr] at h' ⊢
            exact wpAny_pure (by simpa [Nat.add_assoc] using h')
          · rw [if_neg hr] at h' ⊢
            exact wpAny_bind (wpAny_rule (wpAny_pure (by simpa [Nat.add_assoc] using h')))
    | _ => exact hv.elim
/-! equality, by data -/
mutual
theorem nv_reads : ∀ (d : D) {h : Heap} {v : Value}, Nv h d v → ∃ p as, pyD d = some p ∧ Reads h v p as
  | .int i, h, v, ⟨t, e⟩ => by subst e; exact ⟨_, _, rfl, .int i t⟩
  | .str x, h, v, ⟨t, e⟩ => by subst e; exact ⟨_, _, rfl, .str x t⟩
  | .tup ds, h, v, ⟨a, o, vs, n, e, h1, h2, h3, h4⟩ => by
    subst e
    obtain ⟨ps, as, e2, r⟩ := nvs_reads ds h4
    exact ⟨.tuple ps, as, by simp [pyD, e2], .tuple h1 h2 h3 r⟩
  | .non, _, _, h => h.elim
  | .bl _, _, _, h => h.elim
  | .ref _, _, _, h => h.elim
  | .fn _, _, _, h => h.elim
  | .scr _, _, _, h => h.elim
  | .ty _, _, _, h => h.elim
theorem nvs_reads : ∀ (ds : List D) {h : Heap} {vs : List Value}, Nvs h ds vs → ∃ ps as, pyDs ds = some ps ∧ ReadsAll h vs ps as
  | [], h, vs, e => by cases e; exact ⟨[], [], rfl, .nil⟩
  | d :: ds, h, vs, ⟨v, r, e, h1, h2⟩ => by
    subst e
    obtain ⟨p, as, e1, r1⟩ := nv_reads d h1
    obtain ⟨ps, bs, e2, r2⟩ := nvs_reads ds h2
    exact ⟨p :: ps, as ++ bs, by simp [pyDs, e1, e2], .cons r1 r2⟩
end
end

mutual
def nkD : D → Bool
  | .int _ => true
  | .str _ => true
  | .tup ds => nkDs ds
  | _ => false
def nkDs : List D → Bool
  | [] => true
  | d :: ds => nkD d && nkDs ds
end
mutual
theorem nv_nk : ∀ (d : D) {h : Heap} {v : Value}, Nv h d v → nkD d = true
  | .int _, _, _, _ => rfl
  | .str _, _, _, _ => rfl
  | .tup ds, _, _, ⟨_, _, _, _, _, _, _, _, h4⟩ => nvs_nk ds h4
  | .non, _, _, h => h.elim
  | .bl _, _, _, h => h.elim
  | .ref _, _, _, h => h.elim
  | .fn _, _, _, h => h.elim
  | .scr _, _, _, h => h.elim
  | .ty _, _, _, h => h.elim
theorem nvs_nk : ∀ (ds : List D) {h : Heap} {vs : List Value}, Nvs h ds vs → nkDs ds = true
  | [], _, _, _ => rfl
  | d :: ds, _, _, ⟨_, _, _, h1, h2⟩ => by unfold nkDs; rw [nv_nk d h1, nvs_nk ds h2]; rfl
end
mutual
theorem eqv_nk : ∀ (d e : D) {p q : PyData}, nkD d = true → nkD e = true → pyD d = some p → pyD e = some q → PyData.eqv p q = decide (d = e)
  | .int i, e, p, q, _, he, hp, hq => by
    cases hp
    cases e <;> first | (cases he; done) | skip
    · rename_i j; cases hq; by_cases h : i = j <;> simp [PyData.eqv, h]
    · cases hq; simp [PyData.eqv]
    · simp only [pyD] at hq; obtain ⟨qs, _, rfl⟩ := Option.map_eq_some_iff.mp hq; simp [PyData.eqv]
  | .str x, e, p, q, _, he, hp, hq => by
    cases hp
    cases e <;> first | (cases he; done) | skip
    · cases hq; simp [PyData.eqv]
    · rename_i y; cases hq; by_cases h : x = y <;> simp [PyData.eqv, h]
    · simp only [pyD] at hq; obtain ⟨qs, _, rfl⟩ := Option.map_eq_some_iff.mp hq; simp [PyData.eqv]
  | .tup ds, e, p, q, hd, he, hp, hq => by
    simp only [pyD] at hp
    obtain ⟨ps, e1, rfl⟩ := Option.map_eq_some_iff.mp hp
    cases e <;> first | (cases he; done) | skip
    · cases hq; simp [PyData.eqv]
    · cases hq; simp [PyData.eqv]
    · simp only [pyD] at hq
      obtain ⟨qs, e2, rfl⟩ := Option.map_eq_some_iff.mp hq
      have := eqvs_nk ds _ hd he e1 e2
      simp only [PyData.eqv, this, D.tup.injEq]
  | .non, _, _, _, hd, _, _, _ => nomatch hd
  | .bl _, _, _, _, hd, _, _, _ => nomatch hd
  | .ref _, _, _, _, hd, _, _, _ => nomatch hd
  | .fn _, _, _, _, hd, _, _, _ => nomatch hd
  | .scr _, _, _, _, hd, _, _, _ => nomatch hd
  | .ty _, _, _, _, hd, _, _, _ => nomatch hd
theorem eqvs_nk : ∀ (ds es : List D) {ps qs : List PyData}, nkDs ds = true → nkDs es = true → pyDs ds = some ps → pyDs es = some qs → PyData.eqvAll ps qs = decide (ds = es)
  | [], es, ps, qs, _, _, hp, hq => by
    cases hp
    cases es with
    | nil => cases hq; simp [PyData.eqvAll]
    | cons e es =>
      simp only [pyDs] at hq
      split at hq
      · cases hq; simp [PyData.eqvAll]
      · cases hq
  | d :: ds, es, ps, qs, hd, he, hp, hq => by
    simp only [pyDs] at hp
    split at hp
    · rename_i p ps' e1 e2
      cases hp
      cases es with
      | nil => cases hq; simp [PyData.eqvAll]
      | cons e es =>
        simp only [pyDs] at hq
        split at hq
        · rename_i q qs' e3 e4
          cases hq
          simp only [nkDs, Bool.and_eq_true] at hd he
          rw [PyData.eqvAll, eqv_nk d e hd.1 he.1 e1 e3, eqvs_nk ds es hd.2 he.2 e2 e4]
          by_cases h1 : d = e <;> by_cases h2 : ds = es <;> simp [h1, h2]
        · cases hq
    · cases hp
end
/-- a key: nested, not too deep, of fitting texts -/
def deepOk (d : D) : Bool := decide (dpD d ≤ 8) && nkD d && (match pyD d with
  | some p => SeqAt.shaped p
  | none => false)
theorem deepOk_py {d : D} (h : deepOk d = true) : dpD d ≤ 8 ∧ ∃ p, pyD d = some p ∧ SeqAt.shaped p = true := by
  unfold deepOk at h
  simp only [Bool.and_eq_true, decide_eq_true_eq] at h
  refine ⟨h.1.1, ?_⟩
  cases e : pyD d with
  | none => rw [e] at h; exact absurd h.2 Bool.false_ne_true
  | some p => rw [e] at h; exact ⟨p, rfl, h.2⟩
section
variable {P : Program} {w : World} {A : Around} {E : Value → Shared → Prop} {s : Shared}
theorem nv_eq {d e : D} {v u : Value} {Q : Bool → Shared → Prop} (hd : deepOk d = true) (he : deepOk e = true) (hv : Nv s.heap d v) (hu : Nv s.heap e u) (hr : A.units + 64 < cLine) (h : Q (decide (d = e)) s) : wpAny (model P w) A (eqBool v u) Q E s := by
  obtain ⟨p, as, e1, r1⟩ := nv_reads d hv
  obtain ⟨q, bs, e2, r2⟩ := nv_reads e hu
  obtain ⟨_, p', e3, s1⟩ := deepOk_py hd
  obtain ⟨_, q', e4, s2⟩ := deepOk_py he
  cases e1.symm.trans e3
  cases e2.symm.trans e4
  refine SeqAt.eqAt_reads p q A s v u as bs r1 r2 (SeqAt.canLay_of_shaped s1) (SeqAt.canLay_of_shaped s2) (SeqAt.room_of_shaped s1 hr) P w E Q ?_
  rw [eqv_nk d e (nv_nk d hv) (nv_nk e hu) e1 e2]
  exact h
theorem nvs_all {h : Heap} {ds : List D} {vs : List Value} (r : Nvs h ds vs) : ∀ v ∈ vs, ∃ d ∈ ds, Nv h d v := by
  induction ds generalizing vs with
  | nil => cases r; intro v hv; cases hv
  | cons d ds ih =>
    obtain ⟨v, t, rfl, h1, h2⟩ := r
    intro u hu
    rcases List.mem_cons.mp hu with e | hu
    · rw [e]; exact ⟨d, List.mem_cons_self, h1⟩
    · obtain ⟨x, hx, hn⟩ := ih h2 u hu
      exact ⟨x, List.mem_cons_of_mem _ hx, hn⟩
theorem nv_quiet : ∀ (n : Nat) (d : D) {A : Around} {s : Shared} {v : Value} {E : Value → Shared → Prop} {Q : Bool → Shared → Prop}, dpD d ≤ n → Nv s.heap d v → Q true s → wpAny (model P w) A (eqIsQuiet n v) Q E s := by
  intro n
  induction n with
  | zero =>
    intro d A s v E Q hd hv h
    cases d with
    | int i => obtain ⟨t, rfl⟩ := hv; exact wpAny_pure h
    | str x => obtain ⟨t, rfl⟩ := hv; exact wpAny_pure h
    | tup ds => exact absurd hd (by simp [dpD])
    | _ => exact hv.elim
  | succ n ih =>
    intro d A s v E Q hd hv h
    cases d with
    | int i => obtain ⟨t, rfl⟩ := hv; rw [eqIsQuiet_byValue _ rfl]; exact wpAny_pure h
    | str x => obtain ⟨t, rfl⟩ := hv; rw [eqIsQuiet_byValue _ rfl]; exact wpAny_pure h
    | tup ds =>
      obtain ⟨a, o, vs, k, rfl, ho, hc, hdat, hvs⟩ := id hv
      have hT := Nv.typeIs hv
      have hds : dpDs ds ≤ n := by simp [dpD] at hd; exact hd
      unfold eqIsQuiet
      refine wpAny_bind (wpAny_specialOf hT F.slot_tuple_eq.lookup ?_)
      show wpAny _ _ (isInstance (.ref a) (.type "tuple") >>= _) _ _ s
      refine wpAny_bind (wpAny_isInstance hT isSubtype_tuple_tuple ?_)
      simp only [Bool.not_true, Bool.false_eq_true, if_false]
      refine wpAny_bind (wpAny_seqItems ho hdat (wpAny_bind ?_))
      show wpAny _ _ (forIn vs _ _) _ _ s
      rw [← Array.forIn_toList]
      refine wpAny_forIn_list _ (fun rest r z => r.1 = none ∧ z = s ∧ ∀ v ∈ rest, ∃ d ∈ ds, Nv s.heap d v) _ ?_ ?_ _ _ ⟨rfl, rfl, nvs_all hvs⟩
      · rintro x rest r z ⟨hr, rfl, hall⟩
        obtain ⟨e, he, hn⟩ := hall x List.mem_cons_self
        refine wpAny_bind (ih e (Nat.le_trans (dpDs_mem he) hds) hn ?_)
        simp only [Bool.not_true, Bool.false_eq_true, if_false]
        exact wpAny_pure ⟨rfl, rfl, fun u hu => hall u (List.mem_cons_of_mem _ hu)⟩
      · rintro ⟨r1, r2⟩ z ⟨hr, rfl, _⟩
        simp only at hr
        subst hr
        exact wpAny_pure h
    | _ => exact hv.elim
theorem nv_aclass : ∀ (n : Nat) (d : D) {A : Around} {s : Shared} {v : Value} {E : Value → Shared → Prop} {Q : Bool → Shared → Prop}, dpD d ≤ n → Nv s.heap d v → Q false s → wpAny (model P w) A (ofAClassStatement n v) Q E s := by
  intro n
  induction n with
  | zero =>
    intro d A s v E Q hd hv h
    cases d with
    | int i => obtain ⟨t, rfl⟩ := hv; exact wpAny_pure h
    | str x => obtain ⟨t, rfl⟩ := hv; exact wpAny_pure h
    | tup ds => exact absurd hd (by simp [dpD])
    | _ => exact hv.elim
  | succ n ih =>
    intro d A s v E Q hd hv h
    cases d with
    | int i => obtain ⟨t, rfl⟩ := hv; exact wpAny_pure h
    | str x => obtain ⟨t, rfl⟩ := hv; exact wpAny_pure h
    | tup ds =>
      obtain ⟨a, o, vs, k, rfl, ho, hc, hdat, hvs⟩ := id hv
      have hT := Nv.typeIs hv
      have hds : dpDs ds ≤ n := by simp [dpD] at hd; exact hd
      unfold ofAClassStatement
      refine wpAny_bind (wpAny_typeOf hT ?_)
      dsimp only
      have e : (("tuple" : String) == "tuple") = true := by decide
      simp only [e, if_true, Bool.not_true, Bool.false_eq_true, if_false]
      try refine wpAny_bind (wpAny_pure ?_)
      try simp only [Bool.not_true, Bool.false_eq_true, if_false]
      show wpAny _ _ (seqItems? (.ref a) >>= _) _ _ s
      refine wpAny_bind (wpAny_seqItems ho hdat ?_)
      dsimp only
      refine wpAny_bind ?_
      show wpAny _ _ (forIn vs _ _) _ _ s
      rw [← Array.forIn_toList]
      refine wpAny_forIn_list _ (fun rest r z => r.1 = none ∧ z = s ∧ ∀ v ∈ rest, ∃ d ∈ ds, Nv s.heap d v) _ ?_ ?_ _ _ ⟨rfl, rfl, nvs_all hvs⟩
      · rintro x rest r z ⟨hr, rfl, hall⟩
        obtain ⟨e, he, hn⟩ := hall x List.mem_cons_self
        refine wpAny_bind (ih e (Nat.le_trans (dpDs_mem he) hds) hn ?_)
        simp only [Bool.false_eq_true, if_false]
        exact wpAny_pure ⟨rfl, rfl, fun u hu => hall u (List.mem_cons_of_mem _ hu)⟩
      · rintro ⟨r1, r2⟩ z ⟨hr, rfl, _⟩
        simp only at hr
        subst hr
        exact wpAny_pure h
    | _ => exact hv.elim
/-- whether the hash is one by value: some answer -/
theorem nv_byval : ∀ (n : Nat) (d : D) {A : Around} {s : Shared} {v : Value} {E : Value → Shared → Prop} {Q : Bool → Shared → Prop}, Nv s.heap d v → (∀ b, Q b s) → wpAny (model P w) A (hashByValue n v) Q E s := by
  intro n
  induction n with
  | zero =>
    intro d A s v E Q hv h
    cases d with
    | int i => obtain ⟨t, rfl⟩ := hv; exact wpAny_pure (h _)
    | str x => obtain ⟨t, rfl⟩ := hv; exact wpAny_pure (h _)
    | tup ds => obtain ⟨a, o, vs, k, rfl, _⟩ := hv; exact wpAny_pure (h _)
    | _ => exact hv.elim
  | succ n ih =>
    intro d A s v E Q hv h
    cases d with
    | int i => obtain ⟨t, rfl⟩ := hv; exact wpAny_pure (h _)
    | str x => obtain ⟨t, rfl⟩ := hv; exact wpAny_pure (h _)
    | tup ds =>
      obtain ⟨a, o, vs, k, rfl, ho, hc, hdat, hvs⟩ := id hv
      have hT := Nv.typeIs hv
      unfold hashByValue
      refine wpAny_bind (wpAny_specialOf hT F.slot_tuple_hash.lookup ?_)
      show wpAny _ _ (seqItems? (.ref a) >>= _) _ _ s
      refine wpAny_bind (wpAny_seqItems ho hdat (wpAny_bind ?_))
      show wpAny _ _ (forIn vs _ _) _ _ s
      rw [← Array.forIn_toList]
      refine wpAny_forIn_list _ (fun rest r z => r.1 = none ∧ z = s ∧ ∀ v ∈ rest, ∃ d ∈ ds, Nv s.heap d v) _ ?_ ?_ _ _ ⟨rfl, rfl, nvs_all hvs⟩
      · rintro x rest r z ⟨hr, rfl, hall⟩
        obtain ⟨e, he, hn⟩ := hall x List.mem_cons_self
        refine wpAny_bind (ih e hn fun b => ?_)
        cases b with
        | true =>
          simp only [Bool.not_true, Bool.false_eq_true, if_false]
          exact wpAny_pure ⟨rfl, rfl, fun u hu => hall u (List.mem_cons_of_mem _ hu)⟩
        | false =>
          simp only [Bool.not_false, if_true]
          exact wpAny_pure (wpAny_pure (h _))
      · rintro ⟨r1, r2⟩ z ⟨hr, rfl, _⟩
        simp only at hr
        subst hr
        exact wpAny_pure (h _)
    | _ => exact hv.elim
end
mutual
theorem Nv.keeps : ∀ (d : D) {h h' : Heap} {v : Value}, (∀ b o vs n, h.get? b = some o → o.data = .seq vs n → h'.get? b = some o) → Nv h d v → Nv h' d v
  | .int _, _, _, _, _, h => h
  | .str _, _, _, _, _, h => h
  | .tup ds, _, _, _, k, ⟨a, o, vs, n, e, h1, h2, h3, h4⟩ => ⟨a, o, vs, n, e, k _ _ _ _ h1 h3, h2, h3, Nvs.keeps ds k h4⟩
  | .non, _, _, _, _, h => h.elim
  | .bl _, _, _, _, _, h => h.elim
  | .ref _, _, _, _, _, h => h.elim
  | .fn _, _, _, _, _, h => h.elim
  | .scr _, _, _, _, _, h => h.elim
  | .ty _, _, _, _, _, h => h.elim
theorem Nvs.keeps : ∀ (ds : List D) {h h' : Heap} {vs : List Value}, (∀ b o vs n, h.get? b = some o → o.data = .seq vs n → h'.get? b = some o) → Nvs h ds vs → Nvs h' ds vs
  | [], _, _, _, _, h => h
  | d :: ds, _, _, _, k, ⟨v, r, e, h1, h2⟩ => ⟨v, r, e, Nv.keeps d k h1, Nvs.keeps ds k h2⟩
end
mutual
theorem Nv.inj : ∀ (d e : D) {h : Heap} {v : Value}, Nv h d v → Nv h e v → d = e
  | .int i, e, h, v, ⟨t, hv⟩, he => by
    subst hv
    cases e <;> first | (exact he.elim) | skip
    · obtain ⟨u, e⟩ := he; cases e; rfl
    · obtain ⟨u, e⟩ := he; cases e
    · obtain ⟨a, _, _, _, e, _⟩ := he; cases e
  | .str i, e, h, v, ⟨t, hv⟩, he => by
    subst hv
    cases e <;> first | (exact he.elim) | skip
    · obtain ⟨u, e⟩ := he; cases e
    · obtain ⟨u, e⟩ := he; cases e; rfl
    · obtain ⟨a, _, _, _, e, _⟩ := he; cases e
  | .tup ds, e, h, v, ⟨a, o, vs, n, hv, h1, h2, h3, h4⟩, he => by
    subst hv
    cases e <;> first | (exact he.elim) | skip
    · obtain ⟨u, e⟩ := he; cases e
    · obtain ⟨u, e⟩ := he; cases e
    · obtain ⟨b, o', us, k, e, g1, g2, g3, g4⟩ := he
      cases e
      cases h1.symm.trans g1
      cases h3.symm.trans g3
      rw [Nvs.inj ds _ h4 g4]
  | .non, _, _, _, h, _ => h.elim
  | .bl _, _, _, _, h, _ => h.elim
  | .ref _, _, _, _, h, _ => h.elim
  | .fn _, _, _, _, h, _ => h.elim
  | .scr _, _, _, _, h, _ => h.elim
  | .ty _, _, _, _, h, _ => h.elim
theorem Nvs.inj : ∀ (ds es : List D) {h : Heap} {vs : List Value}, Nvs h ds vs → Nvs h es vs → ds = es
  | [], es, h, vs, e, he => by
    cases e
    cases es with
    | nil => rfl
    | cons _ _ => obtain ⟨_, _, e, _⟩ := he; cases e
  | d :: ds, es, h, vs, ⟨v, r, e, h1, h2⟩, he => by
    subst e
    cases es with
    | nil => cases he
    | cons x xs =>
      obtain ⟨v', r', e, g1, g2⟩ := he
      cases e
      rw [Nv.inj d x h1 g1, Nvs.inj ds xs h2 g2]
end
/-- nested tuples as keys of a dict or a set -/
def deepKind (P : Program) (w : World) : HeapKind P w D where
  is := fun h d a => Nv h d (.ref a) ∧ deepOk d = true
  hash := hD w
  draws := drD
  room := fun A => A.units + 64 < cLine
  inj := fun hx hy => Nv.inj _ _ hx.1 hy.1
  keeps := fun hx ho hd hs => ⟨Nv.keeps _ (fun b o vs n e ed => (hs.2 b fun z => by
    subst z
    cases ho.symm.trans e
    rw [hd] at ed
    cases ed).trans e) hx.1, hx.2⟩
  pyHash := fun {A E s k a Q} hr hk h => nv_hash 8 k (deepOk_py hk.2).1 hk.1 (by omega) h
  eqBool := fun hr hx hy h => nv_eq hx.2 hy.2 hx.1 hy.1 hr h
  quiet := fun {A E s k a Q} hk h => nv_quiet 8 k (deepOk_py hk.2).1 hk.1 h
end Ev

namespace Ev
open PySem PySem.Spec PyProof.Rows L2

/-! ## 20. A set of nested tuples, put in order at once -/
abbrev Ent := Addr × D
def rws (w : World) (L : List Ent) : List (Int × Value) := L.map fun e => (hD w e.2, Value.ref e.1)
def KeyAt (h : Heap) (e : Ent) : Prop := Nv h e.2 (.ref e.1) ∧ deepOk e.2 = true
theorem rws_len (w : World) (L : List Ent) : (rws w L).length = L.length := List.length_map ..
/-- the set's own object -/
structure Bag (w : World) (h : Heap) (a : Addr) (L : List Ent) (rows : Array (Int × Value)) (ver : Nat) (t : SetTable) : Prop where
  cell : ∃ o, h.get? a = some o ∧ o.ExactSet ∧ o.data = .set rows ver t
  rows : rows.toList = rws w L
  tab : TabOk t (L.map fun e => hD w e.2)
  nd : (L.map (·.2)).Nodup
  led : w.params.followText "set-order" = true ∨ t.led = true
  room : L.length * 5 < t.mask * 3
  few : L.length < 64
section
variable {P : Program} {w : World} {A : Around} {E : Value → Shared → Prop} {s : Shared} {a x : Addr} {k : D} {L : List Ent} {rows : Array (Int × Value)} {ver : Nat} {t : SetTable}
theorem Bag.size {h : Heap} (B : Bag w h a L rows ver t) : rows.size = L.length := by
  rw [← Array.length_toList, B.rows, rws_len]
theorem Bag.place {h : Heap} (B : Bag w h a L rows ver t) : t.place.toList.length = L.length := by
  have := B.tab.sz
  rw [List.length_map] at this
  rw [Array.length_toList, this]
theorem Bag.fits {h : Heap} (B : Bag w h a L rows ver t) : t.fits rows.size = true := by
  have e1 := B.place
  have e2 := B.size
  have e3 := B.room
  rw [Array.length_toList] at e1
  simp only [SetTable.fits, SetTable.fill, B.tab.dm, Bool.and_eq_true, beq_iff_eq, decide_eq_true_eq]
  refine ⟨by omega, ?_⟩
  show t.place.size + 0 ≤ t.mask
  omega
theorem Bag.row {h : Heap} (B : Bag w h a L rows ver t) {i : Nat} {e : Ent} (he : L[i]? = some e) : rows[i]? = some (hD w e.2, Value.ref e.1) := by
  have : rows.toList[i]? = some (hD w e.2, Value.ref e.1) := by
    rw [B.rows, rws, List.getElem?_map, he]
    rfl
  rwa [Array.getElem?_toList] at this
theorem nth_dummy (m : Nat) : ∀ (n : Nat) (p : SetTable.Probe), p.dummy = none → (nth m p n).dummy = none
  | 0, _, h => h
  | n + 1, p, h => nth_dummy m n (adv m p) (by unfold adv; split <;> exact h)
/-- looking through the others of the same hash shows nothing of the table -/
theorem unseen {ys : List Value} (hx : KeyAt s.heap (x, k)) (hy : ∀ y ∈ ys, ∃ e : Ent, y = Value.ref e.1 ∧ KeyAt s.heap e) {Q : Bool → Shared → Prop} (h : Q false s) : wpAny (model P w) A (searchCouldBeSeen (.ref x) ys) Q E s := by
  have d8 : ∀ {e : Ent}, KeyAt s.heap e → dpD e.2 ≤ 8 := fun he => (deepOk_py he.2).1
  unfold searchCouldBeSeen
  refine wpAny_bind (wpAny_forIn_list _ (fun left r z => r.1 = none ∧ z = s ∧ ∀ y ∈ left, ∃ e : Ent, y = Value.ref e.1 ∧ KeyAt s.heap e) _ ?_ ?_ _ _ ⟨rfl, rfl, hy⟩)
  · rintro y left r z ⟨hr, rfl, all⟩
    obtain ⟨e, rfl, he⟩ := all _ List.mem_cons_self
    have more : ∀ y ∈ left, ∃ e : Ent, y = Value.ref e.1 ∧ KeyAt z.heap e := fun u hu => all u (List.mem_cons_of_mem _ hu)
    dsimp only
    by_cases same : (x == e.1 || (carriedByValue (.ref x) && carriedByValue (.ref e.1))) = true
    · exact wp_if_pos same (wpAny_pure ⟨rfl, rfl, more⟩)
    · refine wp_if_neg same (wpAny_bind (nv_quiet 8 k (d8 hx) hx.1 ?_))
      simp only [Bool.not_true, Bool.false_eq_true, if_false]
      refine wpAny_bind (nv_quiet 8 e.2 (d8 he) he.1 ?_)
      simp only [Bool.not_true, Bool.false_eq_true, if_false]
      refine wpAny_bind (nv_aclass 8 k (d8 hx) hx.1 ?_)
      simp only [Bool.false_eq_true, if_false]
      refine wpAny_bind (nv_aclass 8 e.2 (d8 he) he.1 ?_)
      simp only [Bool.false_eq_true, if_false]
      exact wpAny_pure ⟨rfl, rfl, more⟩
  · rintro ⟨r, u⟩ z ⟨hr, rfl, _⟩
    cases (show r = none from hr)
    exact wpAny_pure h
/-- the way of a key, from the c-th step on, n steps to the first free place -/
theorem seek (B : Bag w s.heap a L rows ver t) (ks : ∀ e ∈ L, KeyAt s.heap e) (hx : KeyAt s.heap (x, k)) (hu : A.units + 64 < cLine) {n : Nat} (hn : n < 10 * SetTable.turns t.mask)
    (free : way t.mask (hD w k) n ∉ t.place.toList) (taken : ∀ c, c < n → way t.mask (hD w k) c ∈ t.place.toList) {Q : SetFound → Shared → Prop}
    (yes : k ∈ L.map (·.2) → Q (.there none) s) (no : k ∉ L.map (·.2) → Q (.free (way t.mask (hD w k) n) false) s) :
    ∀ (fuel c : Nat) (from? : Option SetTable.Probe), from?.getD (t.probeStart (hD w k)) = nth t.mask (runAt t.mask (SetTable.bits (hD w k) % (t.mask + 1)) (SetTable.bits (hD w k))) c → c ≤ n → n < fuel + c →
      (∀ (i : Nat) (e : Ent), L[i]? = some e → e.2 = k → ∃ c', c ≤ c' ∧ c' < n ∧ t.place.toList[i]? = some (way t.mask (hD w k) c')) →
      wpAny (model P w) A (setSearchFrom a (.ref x) (hD w k) true fuel from?) Q E s := by
  obtain ⟨ob, hob, hex, hdat⟩ := B.cell
  have hashes : ∀ {i : Nat} {e : Ent}, L[i]? = some e → ((rows[i]? : Option (Int × Value)).map (·.1)).getD 0 = hD w e.2 := fun he => by rw [B.row he]; rfl
  generalize hst : runAt t.mask (SetTable.bits (hD w k) % (t.mask + 1)) (SetTable.bits (hD w k)) = st
  have wayE : ∀ q, way t.mask (hD w k) q = (nth t.mask st q).j := fun q => by rw [← hst]
  intro fuel
  induction fuel with
  | zero => intro c _ _ h1 h2; omega
  | succ fuel ih =>
    intro c from? hfrom hc hf ahead
    have step : ∀ q, nth t.mask (nth t.mask st c) q = nth t.mask st (c + q) := fun q => (nth_add t.mask c st q).symm
    have stepJ : ∀ q, (nth t.mask (nth t.mask st c) q).j = way t.mask (hD w k) (c + q) := fun q => by rw [step, wayE]
    rw [setSearchFrom_succ]
    refine wpAny_bind (wpAny_setState_of hob hdat B.fits ?_)
    dsimp only
    refine wp_if_neg (by unfold SetTable.gaveWay; rw [mask_odd B.tab.mok]; decide) ?_
    try refine wpAny_bind (wpAny_pure ?_)
    have look := go_spec t B.tab.ris B.tab.dm (fun i => (rows[i]?.map (·.1)).getD 0) (hD w k) (10 * SetTable.turns t.mask) (n - c) (nth t.mask st c) (nth_dummy _ _ _ (by rw [← hst]; rfl)) (by omega)
      (fun q hq => by rw [stepJ]; exact taken _ (by omega)) (by rw [stepJ, Nat.add_sub_cancel' hc]; exact free)
    -- a row of that hash that was passed is none of k
    have passed : ∀ (q i : Nat) (e : Ent), (∀ q' i', q' < q → t.place.toList[i']? = some (nth t.mask (nth t.mask st c) q').j → ((rows[i']? : Option (Int × Value)).map (·.1)).getD 0 ≠ hD w k) → L[i]? = some e → e.2 = k →
        ∀ c', c ≤ c' → c' < c + q → t.place.toList[i]? ≠ some (way t.mask (hD w k) c') := fun q i e nonB he hk c' h1 h2 h3 => by
      refine nonB (c' - c) i (by omega) (by rw [stepJ, Nat.add_sub_cancel' h1]; exact h3) ?_
      rw [hashes he, hk]
    rcases look with ⟨q, i, hq, hi, _, nonB, probe⟩ | ⟨nonB, probe⟩
    · rw [stepJ] at hi
      obtain ⟨e, he⟩ : ∃ e, L[i]? = some e := by
        have : i < L.length := by rw [← B.place]; exact (List.getElem?_eq_some_iff.mp hi).1
        exact ⟨_, List.getElem?_eq_getElem this⟩
      have inL := List.mem_of_getElem? he
      have probe' : t.probe (fun i => (rows[i]?.map (·.1)).getD 0) (hD w k) (from?.getD (t.probeStart (hD w k))) = some (.candidate (way t.mask (hD w k) (c + q)) i (nth t.mask st (c + (q + 1)))) := by
        rw [hfrom, ← stepJ, ← step]
        exact probe
      rw [probe']
      dsimp only
      have tail : wpAny (model P w) A (searchRest a (.ref x) (hD w k) true fuel rows t (way t.mask (hD w k) (c + q)) i (nth t.mask st (c + (q + 1)))) Q E s := by
        unfold searchRest
        rw [B.row he]
        dsimp only
        refine wpAny_bind (wpAny_holding (nv_eq (ks e inL).2 hx.2 (ks e inL).1 hx.1 hu ?_))
        refine wpAny_bind (wpAny_setState_of hob hdat B.fits ?_)
        dsimp only
        by_cases ek : e.2 = k
        · exact wp_if_pos (by simp [ek]) (wpAny_pure (yes (List.mem_map.mpr ⟨e, inL, ek⟩)))
        · refine wp_if_neg (by simp [ek]) ?_
          try refine wpAny_bind (wpAny_pure ?_)
          rw [sameMem]
          dsimp only
          have live : t.slot (way t.mask (hD w k) (c + q)) = .live i := slot_live B.tab.ris hi
          simp only [if_true, live, B.row he]
          refine wpAny_bind (wpAny_isSame_ref_self (wpAny_bind (wpAny_pure ?_)))
          simp only [if_true]
          refine wp_if_neg (by simp [ek]) (ih (c + (q + 1)) _ rfl (by omega) (by omega) fun i0 e0 h0 k0 => ?_)
          obtain ⟨c', b1, b2, b3⟩ := ahead i0 e0 h0 k0
          refine ⟨c', ?_, b2, b3⟩
          have b4 : ¬ c' < c + q := fun z => passed q i0 e0 nonB h0 k0 c' b1 z b3
          have b5 : c' ≠ c + q := fun z => by
            rw [z] at b3
            have l0 := slot_live B.tab.ris b3
            rw [live] at l0
            cases l0
            cases he.symm.trans h0
            exact ek k0
          omega
      by_cases hl : t.led = true
      · refine wp_if_neg (by simp [hl]) ?_
        try refine wpAny_bind (wpAny_pure ?_)
        exact tail
      · refine wp_if_pos (by simp [hl]) (wpAny_bind (unseen hx (fun y hy => ?_) ?_))
        · obtain ⟨r, hr, rfl⟩ := List.mem_map.mp hy
          have hr2 : r ∈ rows.toList := by
            have : r ∈ rows ∧ r.1 = hD w k := by simpa using hr
            simpa using this.1
          rw [B.rows] at hr2
          obtain ⟨e', he', rfl⟩ := List.mem_map.mp hr2
          exact ⟨e', rfl, ks e' he'⟩
        · refine wp_if_neg (by decide) ?_
          try refine wpAny_bind (wpAny_pure ?_)
          exact tail
    · have probe' : t.probe (fun i => (rows[i]?.map (·.1)).getD 0) (hD w k) (from?.getD (t.probeStart (hD w k))) = some (.empty (way t.mask (hD w k) n) none) := by
        have e2 : way t.mask (hD w k) n = (nth t.mask (nth t.mask st c) (n - c)).j := by rw [stepJ, Nat.add_sub_cancel' hc]
        rw [hfrom, e2]
        exact probe
      rw [probe']
      dsimp only
      refine wpAny_pure (no fun hm => ?_)
      obtain ⟨e0, h0, k0⟩ := List.mem_map.mp hm
      obtain ⟨i0, hi0⟩ := List.mem_iff_getElem?.mp h0
      obtain ⟨c', b1, b2, b3⟩ := ahead i0 e0 hi0 k0
      exact passed (n - c) i0 e0 nonB hi0 k0 c' b1 (by omega) b3
theorem seekAll (B : Bag w s.heap a L rows ver t) (ks : ∀ e ∈ L, KeyAt s.heap e) (hx : KeyAt s.heap (x, k)) (hu : A.units + 64 < cLine) {Q : SetFound → Shared → Prop}
    (yes : k ∈ L.map (·.2) → Q (.there none) s)
    (no : ∀ n, k ∉ L.map (·.2) → way t.mask (hD w k) n ∉ t.place.toList → (∀ c, c < n → way t.mask (hD w k) c ∈ t.place.toList) → Q (.free (way t.mask (hD w k) n) false) s) :
    wpAny (model P w) A (setSearch a (.ref x) (hD w k) true) Q E s := by
  have rm := B.room
  obtain ⟨n, hn, free, taken⟩ := B.tab.first (by rw [List.length_map]; omega) (hD w k)
  have small : n < 100000 := by
    have : 10 * SetTable.turns t.mask ≤ 1420 := by
      unfold SetTable.turns
      rcases B.tab.mok with e | e | e <;> omega
    omega
  unfold setSearch
  refine seek B ks hx hu hn free taken yes (fun z => no n z free taken) 100000 0 none rfl (Nat.zero_le _) (by omega) fun i e he ek => ?_
  have hh : (L.map fun e => hD w e.2)[i]? = some (hD w k) := by rw [List.getElem?_map, he, ← ek]; rfl
  have hi : i < t.place.toList.length := by rw [B.place]; exact (List.getElem?_eq_some_iff.mp he).1
  obtain ⟨c, hc, e2⟩ := B.tab.before free hh (List.getElem?_eq_getElem hi)
  exact ⟨c, Nat.zero_le _, hc, by rw [List.getElem?_eq_getElem hi, e2]⟩
theorem KeyAt.keeps {h h' : Heap} {e : Ent} (ke : KeyAt h e) (hk : ∀ b o vs n, h.get? b = some o → o.data = .seq vs n → h'.get? b = some o) : KeyAt h' e := ⟨Nv.keeps _ hk ke.1, ke.2⟩
/-- the set's object is no tuple -/
theorem KeyAt.beside {h h' : Heap} {e : Ent} {o : Obj} (ke : KeyAt h e) (ho : h.get? a = some o) (hd : o.data = .set rows ver t) (sb : Heap.SameBut a h h') : KeyAt h' e :=
  ke.keeps fun b u vs n hu hv => (sb.2 b fun z => by
    subst z
    cases ho.symm.trans hu
    rw [hd] at hv
    cases hv).trans hu
theorem rws_put (i : Nat) (e : Ent) : rws w (L.take i ++ e :: L.drop i) = (rws w L).take i ++ (hD w e.2, Value.ref e.1) :: (rws w L).drop i := by
  simp [rws, List.map_take, List.map_drop]
theorem take_drop_perm {α : Type} (l : List α) (i : Nat) (y : α) : (l.take i ++ y :: l.drop i).Perm (y :: l) := by
  have := List.perm_middle (a := y) (l₁ := l.take i) (l₂ := l.drop i)
  rwa [List.take_append_drop] at this
/-- rows taken in another order -/
theorem rws_order (hr : rows.toList = rws w L) (order : Array Nat) (hp : order.toList.Perm (List.range L.length)) :
    ∃ L2, (order.filterMap (rows[·]?)).toList = rws w L2 ∧ L2.Perm L ∧ (L2.map fun e => hD w e.2) = order.toList.map fun i => (rows.map (·.1)).getD i 0 := by
  have at_ : ∀ (i : Nat) (e : Ent), L[i]? = some e → rows[i]? = some (hD w e.2, Value.ref e.1) := fun i e he => by
    rw [← Array.getElem?_toList, hr, rws, List.getElem?_map, he]
    rfl
  have go : ∀ l : List Nat, (∀ i ∈ l, i < L.length) → l.filterMap (fun i => rows[i]?) = rws w (l.filterMap fun i => L[i]?) ∧ ((l.filterMap fun i => L[i]?).map fun e => hD w e.2) = l.map fun i => (rows.map (·.1)).getD i 0 := by
    intro l
    induction l with
    | nil => intro _; exact ⟨rfl, rfl⟩
    | cons i l ih =>
      intro hl
      have hi := hl i List.mem_cons_self
      have he : L[i]? = some L[i] := List.getElem?_eq_getElem hi
      obtain ⟨h1, h2⟩ := ih fun j hj => hl j (List.mem_cons_of_mem _ hj)
      rw [List.filterMap_cons_some (at_ i _ he), List.filterMap_cons_some he, h1, List.map_cons, List.map_cons, h2]
      refine ⟨rfl, ?_⟩
      have : (rows.map (·.1))[i]? = some (hD w L[i].2) := by rw [Array.getElem?_map, at_ i _ he]; rfl
      rw [Array.getD_eq_getD_getElem?, this]
      rfl
  obtain ⟨h1, h2⟩ := go order.toList fun i hi => List.mem_range.mp (hp.mem_iff.mp hi)
  refine ⟨_, by rw [Array.toList_filterMap]; exact h1, ?_, h2⟩
  have all : ∀ n, n ≤ L.length → (List.range n).filterMap (fun i => L[i]?) = L.take n := by
    intro n
    induction n with
    | zero => intro _; rfl
    | succ n ih =>
      intro hn
      rw [List.range_succ, List.filterMap_append, ih (Nat.le_of_succ_le hn), List.take_succ, List.getElem?_eq_getElem hn, List.filterMap_cons_some (List.getElem?_eq_getElem hn)]
      rfl
  have := hp.filterMap fun i => L[i]?
  rwa [all _ (Nat.le_refl _), List.take_length] at this
/-- a larger table -/
theorem regrow {o : Obj} (ho : s.heap.get? a = some o) (hex : o.ExactSet) (hd : o.data = .set rows ver t) (hr : rows.toList = rws w L) (pl : t.place.size = rows.size) (dm : t.dummies = #[]) (lm : rows.size ≤ t.mask)
    (nd : (L.map (·.2)).Nodup) (led : w.params.followText "set-order" = true ∨ t.led = true) (few : L.length < 64) {want m : Nat} (hm : SetTable.sizeAbove want - 1 = m) (om : MaskOk m) (h128 : SetTable.sizeAbove want ≤ 128) (rm : L.length * 5 < m * 3)
    {Q : Unit → Shared → Prop} (q : ∀ h' L' rows' ver' t', Heap.SameBut a s.heap h' → Bag w h' a L' rows' ver' t' → L'.Perm L → Q () { s with heap := h' }) : wpAny (model P w) A (setRelay a want) Q E s := by
  have sz : rows.size = L.length := by rw [← Array.length_toList, hr, rws_len]
  have fits : t.fits rows.size = true := by
    simp only [SetTable.fits, SetTable.fill, dm, Bool.and_eq_true, beq_iff_eq, decide_eq_true_eq]
    refine ⟨pl, ?_⟩
    show t.place.size + 0 ≤ t.mask
    omega
  obtain ⟨t', order, laid, perm, T, em, el, _, _⟩ := relaid_ok t (hs := rows.map (·.1)) hm om (by rw [Array.size_map, sz]; omega)
  rw [Array.size_map, sz] at perm
  obtain ⟨L2, r1, r2, r3⟩ := rws_order hr order perm
  rw [← r3] at T
  have sz2 : (order.filterMap (rows[·]?)).size = rows.size := by rw [← Array.length_toList, r1, rws_len, r2.length_eq, sz]
  rw [setRelay_eq]
  refine wpAny_bind (wpAny_setState_of ho hd fits ?_)
  dsimp only
  refine wp_if_neg (by rw [sizeLine_eq]; omega) ?_
  try refine wpAny_bind (wpAny_pure ?_)
  rw [laid]
  dsimp only
  refine wpAny_bind (wp_if_neg (by simp [sz2]) ?_)
  try refine wpAny_bind (wpAny_pure ?_)
  refine wpAny_pure ?_
  dsimp only
  refine wpAny_storeSet_of ho hd ?_ (by rw [sz2, sz, sizeLine_eq]; omega)
  have sb : Heap.SameBut a s.heap (s.heap.update a (Obj.putSet (order.filterMap (rows[·]?)) t')) := .update ..
  refine q _ L2 _ (ver + 1) t' sb ⟨⟨_, store_at ho hd, ⟨hex.1, hex.2.1, hex.2.2⟩, rfl⟩, r1, T, (r2.map (·.2)).nodup_iff.mpr nd, by rw [el]; exact led, ?_, by rw [r2.length_eq]; exact few⟩ r2
  rw [r2.length_eq, em]
  exact rm
/-- one key more, or none -/
theorem adds (B : Bag w s.heap a L rows ver t) (ks : ∀ e ∈ L, KeyAt s.heap e) (hx : KeyAt s.heap (x, k)) (hu : A.units + 64 < cLine) (few : L.length + 1 < 64) {Q : Bool → Shared → Prop}
    (q : ∀ b h' L' rows' ver' t', Heap.SameBut a s.heap h' → Bag w h' a L' rows' ver' t' → (k ∈ L.map (·.2) → L' = L) → (k ∉ L.map (·.2) → L'.Perm ((x, k) :: L)) → Q b { s with heap := h' }) :
    wpAny (model P w) A (setAddHashed a (.ref x) (hD w k)) Q E s := by
  obtain ⟨o, ho, hex, hd⟩ := B.cell
  have sz := B.size
  have rm := B.room
  unfold setAddHashed
  refine wpAny_holding ?_
  rw [show (100000 : Nat) = 99999 + 1 from rfl, setAddHashedIn_succ]
  refine wpAny_bind (wpAny_setState_of ho hd B.fits ?_)
  dsimp only
  refine wp_if_neg (by simp [byScan, Value.scannable]) ?_
  try refine wpAny_bind (wpAny_pure ?_)
  refine wpAny_bind (seekAll B ks hx hu (fun hm => ?_) fun n hm free taken => ?_)
  · dsimp only
    exact wpAny_pure (q false s.heap L rows ver t (.refl a s.heap) B (fun _ => rfl) fun z => absurd hm z)
  · dsimp only
    refine wpAny_bind (wpAny_setState_of ho hd B.fits ?_)
    dsimp only
    obtain ⟨p1, p2, p3, p4, p5, _, _, _, p9⟩ := B.tab.put free taken
    generalize hpt : t.put (way t.mask (hD w k) n) = pt at p1 p3 p4 p5 p9 ⊢
    obtain ⟨t1, i⟩ := pt
    dsimp only at p1 p3 p4 p5 p9 ⊢
    subst p1
    generalize hi : SetTable.below t.place (way t.mask (hD w k) n) = i at p2 p3 ⊢
    have pm := take_drop_perm L i (x, k)
    have rw1 : (SetTable.insertAt rows i (hD w k, Value.ref x)).toList = rws w (L.take i ++ (x, k) :: L.drop i) := by rw [SetTable.toList_insertAt, rws_put, B.rows]
    have hs1 : (L.take i ++ (x, k) :: L.drop i).map (fun e => hD w e.2) = (L.map fun e => hD w e.2).take i ++ hD w k :: (L.map fun e => hD w e.2).drop i := by simp [List.map_take, List.map_drop]
    rw [← hs1] at p3
    have len1 : (L.take i ++ (x, k) :: L.drop i).length = L.length + 1 := pm.length_eq
    have nd1 : ((L.take i ++ (x, k) :: L.drop i).map (·.2)).Nodup := (pm.map (·.2)).nodup_iff.mpr (List.nodup_cons.mpr ⟨hm, B.nd⟩)
    have sz1 : (SetTable.insertAt rows i (hD w k, Value.ref x)).size = L.length + 1 := by rw [← Array.length_toList, rw1, rws_len, len1]
    generalize SetTable.insertAt rows i (hD w k, Value.ref x) = rows1 at rw1 sz1 ⊢
    generalize L.take i ++ (x, k) :: L.drop i = L1 at pm rw1 len1 nd1 p3
    -- the table, whatever is said of its hashes
    have onward : ∀ t2 : SetTable, TabOk t2 (L1.map fun e => hD w e.2) → t2.mask = t.mask → t2.led = t.led → (t2.tooFull = decide (t2.mask * 3 ≤ (L.length + 1) * 5)) →
        wpAny (model P w) A (do
          storeSet a rows1 t2
          if !false && t2.tooFull then setRelay a (SetTable.grown (rows.size + 1))
          return true) Q E s := fun t2 T em el full => by
      refine wpAny_bind (wpAny_storeSet_of ho hd ?_ (by rw [sz1, sizeLine_eq]; omega))
      have sb : Heap.SameBut a s.heap (s.heap.update a (Obj.putSet rows1 t2)) := .update ..
      have ho1 := store_at (es' := rows1) (t' := t2) ho hd
      generalize s.heap.update a (Obj.putSet rows1 t2) = h1 at sb ho1 ⊢
      have led1 : w.params.followText "set-order" = true ∨ t2.led = true := by rw [el]; exact B.led
      by_cases hf : t2.tooFull = true
      · have hfull : t2.mask * 3 ≤ (L.length + 1) * 5 := by rw [full] at hf; exact of_decide_eq_true hf
        rw [sz]
        have pl1 : t2.place.size = rows1.size := by have := T.sz; rw [List.length_map, len1] at this; rw [this, sz1]
        have two : (t.mask = 7 ∧ L.length = 4) ∨ (t.mask = 31 ∧ L.length = 18) := by
          rw [em] at hfull
          rcases B.tab.mok with e | e | e
          · exact .inl ⟨e, by rw [e] at hfull rm; omega⟩
          · exact .inr ⟨e, by rw [e] at hfull rm; omega⟩
          · rw [e] at hfull; omega
        have go : ∀ m, SetTable.sizeAbove (SetTable.grown (L.length + 1)) - 1 = m → MaskOk m → SetTable.sizeAbove (SetTable.grown (L.length + 1)) ≤ 128 → (L.length + 1) * 5 < m * 3 →
            wpAny (model P w) A (setRelay a (SetTable.grown (L.length + 1))) (fun _ z => wpAny (model P w) A (pure true) Q E z) E { s with heap := h1 } := fun m g1 g2 g3 g4 =>
          regrow (s := { s with heap := h1 }) ho1 ⟨hex.1, hex.2.1, hex.2.2⟩ rfl rw1 pl1 T.dm (by rw [sz1, em]; rcases two with ⟨e, e2⟩ | ⟨e, e2⟩ <;> omega) nd1 led1 (by rw [len1]; exact few) g1 g2 g3 (by rw [len1]; exact g4)
            fun h2 L2 rows2 ver2 t3 sb2 B2 pm2 => wpAny_pure (q true h2 L2 rows2 ver2 t3 (sb.trans sb2) B2 (fun z => absurd z hm) fun _ => pm2.trans pm)
        have body : wpAny (model P w) A (setRelay a (SetTable.grown (L.length + 1))) (fun _ z => wpAny (model P w) A (pure true) Q E z) E { s with heap := h1 } := by
          rcases two with ⟨_, e2⟩ | ⟨_, e2⟩
          · exact go 31 (by rw [e2, size_20]) (.inr (.inl rfl)) (by rw [e2, size_20]; decide) (by omega)
          · exact go 127 (by rw [e2, size_76]) (.inr (.inr rfl)) (by rw [e2, size_76]; decide) (by omega)
        first
          | (refine wpAny_bind ?_; exact wp_if_pos (by simp [hf]) body)
          | exact wp_if_pos (by simp [hf]) (wpAny_bind body)
      · have done : wpAny (model P w) A (pure true) Q E { s with heap := h1 } := by
          refine wpAny_pure (q true h1 L1 rows1 (ver + 1) t2 sb ⟨⟨_, ho1, ⟨hex.1, hex.2.1, hex.2.2⟩, rfl⟩, rw1, T, nd1, led1, ?_, by rw [len1]; exact few⟩ (fun z => absurd z hm) fun _ => pm)
          rw [full, decide_eq_true_eq] at hf
          rw [len1]
          omega
        first
          | exact wp_if_neg (by simp [hf]) done
          | (refine wpAny_bind ?_; exact wp_if_neg (by simp [hf]) (wpAny_pure done))
    have full1 : t1.tooFull = decide (t1.mask * 3 ≤ (L.length + 1) * 5) := by
      unfold SetTable.tooFull
      rw [p9, List.length_map]
    have go1 := onward t1 p3 p4 p5 full1
    have go2 := onward { t1 with plain := false } ⟨p3.ris, p3.dm, p3.sz, p3.mok, p3.bd, p3.reach⟩ p4 p5 full1
    have both : ∀ b : Bool, wpAny (model P w) A (do
        let t ← pure (if b = true then t1 else { t1 with plain := false })
        storeSet a rows1 t
        if !false && t.tooFull then setRelay a (SetTable.grown (rows.size + 1))
        return true) Q E s := fun b => by
      cases b with
      | true => exact wpAny_bind (wpAny_pure go1)
      | false => exact wpAny_bind (wpAny_pure go2)
    by_cases hp : t1.plain = true
    · first
        | exact wpAny_bind (wp_if_pos hp (nv_byval 8 k hx.1 fun b => by cases b with | true => exact go1 | false => exact go2))
        | exact wp_if_pos hp (wpAny_bind (nv_byval 8 k hx.1 fun b => by cases b with | true => exact go1 | false => exact go2))
    · first
        | exact wpAny_bind (wp_if_neg hp (wpAny_pure go1))
        | exact wp_if_neg hp (wpAny_bind (wpAny_pure go1))
        | exact wp_if_neg hp go1
end
/-- what was put in of the first i of a list -/
structure Took (all : List Ent) (i : Nat) (L : List Ent) : Prop where
  sub : ∀ e ∈ L, e ∈ all
  has : ∀ e ∈ all.take i, e.2 ∈ L.map (·.2)
  len : L.length ≤ i
theorem Took.next {all L L' : List Ent} {i : Nat} {e : Ent} (T : Took all i L) (he : all[i]? = some e) (old : e.2 ∈ L.map (·.2) → L' = L) (new : e.2 ∉ L.map (·.2) → L'.Perm (e :: L)) : Took all (i + 1) L' := by
  have tk : all.take (i + 1) = all.take i ++ [e] := by rw [List.take_succ, he]; rfl
  by_cases h : e.2 ∈ L.map (·.2)
  · rw [old h]
    refine ⟨T.sub, fun y hy => ?_, Nat.le_succ_of_le T.len⟩
    rw [tk] at hy
    rcases List.mem_append.mp hy with z | z
    · exact T.has y z
    · rw [List.mem_singleton.mp z]; exact h
  · have pm := new h
    refine ⟨fun y hy => ?_, fun y hy => ?_, by rw [pm.length_eq]; exact Nat.succ_le_succ T.len⟩
    · rcases List.mem_cons.mp (pm.mem_iff.mp hy) with z | z
      · rw [z]; exact List.mem_of_getElem? he
      · exact T.sub y z
    · rw [(pm.map (·.2)).mem_iff, List.map_cons]
      rw [tk] at hy
      rcases List.mem_append.mp hy with z | z
      · exact List.mem_cons_of_mem _ (T.has y z)
      · rw [List.mem_singleton.mp z]; exact List.mem_cons_self
section
variable {P : Program} {w : World} {A : Around} {E : Value → Shared → Prop} {s : Shared}
theorem Bag.onto {h h' : Heap} {a : Addr} {L : List Ent} {rows : Array (Int × Value)} {ver : Nat} {t : SetTable} (B : Bag w h a L rows ver t) (k : ∀ o, h.get? a = some o → h'.get? a = some o) : Bag w h' a L rows ver t :=
  ⟨let ⟨o, ho, r⟩ := B.cell; ⟨o, k o ho, r⟩, B.rows, B.tab, B.nd, B.led, B.room, B.few⟩
abbrev newSet (w : World) : Obj := { cls := .type "set", dict := none, data := .set #[] 0 (.fresh 0 0 (!w.params.followText "set-order")) }
theorem bag_new {h : Heap} {a : Addr} (ho : h.get? a = some (newSet w)) : Bag w h a [] #[] 0 (.fresh 0 0 (!w.params.followText "set-order")) where
  cell := ⟨_, ho, ⟨rfl, rfl, rfl⟩, rfl⟩
  rows := rfl
  tab := ⟨List.Pairwise.nil, rfl, rfl, .inl rfl, fun _ hx => (nomatch hx), fun i h j hi => by simp at hi⟩
  nd := List.nodup_nil
  led := by
    cases e : w.params.followText "set-order" with
    | false => exact .inr rfl
    | true => exact .inl rfl
  room := by show 0 * 5 < 7 * 3; decide
  few := by show 0 < 64; decide
/-- the loop of set.update, over the keys of a walk -/
theorem fills {I : Addr} {fp wr : List Addr} {G : Array GenState → Array GenState → Prop} {n : Nat} {Pv : Nat → Value → Prop} {St : Nat → Shared → Prop} {R : Result → Shared → Prop} (W : WalksS P w A.in1 I fp wr G n Pv St) (S : Addr) (hS : S ∉ fp)
    (all : List Ent) (hn : n = all.length) (few : all.length < 64) (val : ∀ i v, Pv i v → ∃ e, all[i]? = some e ∧ v = .ref e.1) (h0 : Heap) (hk : ∀ e ∈ all, KeyAt h0 e) (fresh : ∀ b, b = S ∨ b ∈ wr → h0.get? b = none) (hu : A.in1.units + 64 < cLine) :
    ∀ (m i : Nat) (s : Shared), n = i + m → St i s → (∀ b o, h0.get? b = some o → s.heap.get? b = some o) → (∃ L rows ver t, Bag w s.heap S L rows ver t ∧ Took all i L) →
      (∀ z L rows ver t, Moved (S :: wr) G s z → Bag w z.heap S L rows ver t → Took all n L → (∀ b o, h0.get? b = some o → z.heap.get? b = some o) → R (.ok (.ret .none)) z) →
      codeAny (model P w) A (.builtin "set.update.loop" ⟨[.ref S, .ref I], []⟩) R s := by
  have offS : S ∉ wr := fun z => hS (W.sub _ z)
  have up : ∀ b ∈ wr, b ∈ S :: wr := fun b hb => List.mem_cons_of_mem _ hb
  have old : ∀ {y z : Shared}, Moved wr G y z → (∀ b o, h0.get? b = some o → y.heap.get? b = some o) → ∀ b o, h0.get? b = some o → z.heap.get? b = some o := fun mv k b o e =>
    mv.heap b o (fun hb => by rw [fresh b (.inr hb)] at e; cases e) (k b o e)
  intro m
  induction m with
  | zero =>
    intro i s hi st k ⟨L, rows, ver, t, B, T⟩ fin
    subst hi
    refine codeAny_builtin F.entry_set_update_loop ?_
    rw [Around.under_plainId F.plain_set_update_loop _]
    show wpAny _ A.in1 (pyNext (.ref I) >>= _) _ _ s
    refine wpAny_bind (W.done s _ _ st fun z mv => ?_)
    show wpAny _ A.in1 (ret Value.none) _ _ z
    exact wpAny_pure (fin z L rows ver t (mv.mono up) (B.onto fun o e => mv.heap S o offS e) T (old mv k))
  | succ m ih =>
    intro i s hi st k ⟨L, rows, ver, t, B, T⟩ fin
    refine codeAny_builtin F.entry_set_update_loop ?_
    rw [Around.under_plainId F.plain_set_update_loop _]
    show wpAny _ A.in1 (pyNext (.ref I) >>= _) _ _ s
    refine wpAny_bind (W.item i s _ _ (by omega) st fun v z hv st' mv => ?_)
    obtain ⟨e, he, rfl⟩ := val i v hv
    have k1 := old mv k
    have B1 := B.onto (h' := z.heap) fun o e => mv.heap S o offS e
    have keys : ∀ e ∈ all, KeyAt z.heap e := fun e he => (hk e he).keeps fun b o vs n ho _ => k1 b o ho
    show wpAny _ A.in1 (holding [Value.ref e.1] (setAdd S (.ref e.1)) >>= _) _ _ z
    refine wpAny_bind (wpAny_holding ?_)
    unfold setAdd
    have inAll := List.mem_of_getElem? he
    have il := (List.getElem?_eq_some_iff.mp he).1
    refine wpAny_holding (wpAny_bind (nv_hash 8 e.2 (deepOk_py (keys e inAll).2).1 (keys e inAll).1 (by omega) ?_))
    refine adds (s := { z with toks := z.toks + drD e.2 }) B1 (fun y hy => keys y (T.sub y hy)) (x := e.1) (keys e inAll) hu (by have := T.len; omega) fun b h' L' rows' ver' t' sb B2 c1 c2 => ?_
    have k2 : ∀ b o, h0.get? b = some o → h'.get? b = some o := fun b o hb => (sb.2 b fun q => by rw [fresh b (.inl q)] at hb; cases hb).trans (k1 b o hb)
    refine wpAny_pure ⟨plainId_quiet F.plain_set_update_loop _, ih (i + 1) _ (by omega) (W.frame _ z _ _ st' (Nat.le_add_right _ _) fun b hb o hbo => (sb.2 b fun q => hS (q ▸ hb)).trans hbo) k2 ⟨L', rows', ver', t', B2, T.next he c1 c2⟩ fun z2 L2 rows2 ver2 t2 mv2 B3 T3 k3 => ?_⟩
    exact fin z2 L2 rows2 ver2 t2 (Moved.trans W.gtrans ((mv.mono up).then_heap (Nat.le_add_right _ _) fun b o hb hbo => (sb.2 b fun q => hb (q ▸ List.mem_cons_self)).trans hbo) mv2) B3 T3 k3
/-- set(xs) of a list of keys -/
theorem call_bag {l : Addr} {items : Array Value} (all : List Ent) {Q : Value → Shared → Prop} (hh : A.handled = none) (hl : s.heap.IsList l items) (it : items.toList = all.map fun e => Value.ref e.1) (hk : ∀ e ∈ all, KeyAt s.heap e) (few : all.length < 64) (hu : A.units + 70 < cLine)
    (q : ∀ (h' : Heap) (tk : Nat) L rows ver t, Bag w h' s.heap.objs.size L rows ver t → Took all all.length L → (∀ b o, s.heap.get? b = some o → h'.get? b = some o) → Q (.ref s.heap.objs.size) { s with heap := h', toks := tk }) :
    wpAny (model P w) A (call (.type "set") [.ref l]) Q E s := by
  have n1 : items.size = all.length := by rw [← Array.length_toList, it, List.length_map]
  obtain ⟨c, tl, hmro⟩ := F.called_set.mro
  have hmade := F.called_set.made
  have hsub := F.called_set.sub
  refine wpAny_call (codeAny_of_tree ?_)
  show wpAny _ _ (callAny (.type "set") _) _ _ _
  refine wpAny_pure ⟨Code.quiet_builtin _ (by decide +kernel), codeAny_builtin F.entry_type_call ?_⟩
  rw [Around.under_plain (weight_type_call_type "set" [.ref l] []) rfl]
  have h1 := F.called_set.notType
  have h2 := F.called_set.canCreate
  have hct := F.typeCall_set_1 (.ref l)
  repeat (any_goals (first | assumption | wp_step))
  refine codeAny_mono (code_set_led1 (.ref l) (E := E) (Q₁ := fun v z => v = .ref s.heap.objs.size ∧ z = { s with heap := s.heap.push (newSet w) }) ⟨rfl, rfl⟩) fun r z hr => ?_
  match r, hr with
  | .error e, hr => exact hr
  | .ok .next, hr => exact hr.elim
  | .ok .brk, hr => exact hr.elim
  | .ok .cont, hr => exact hr.elim
  | .ok (.ret obj), hr =>
    obtain ⟨rfl, rfl⟩ := hr
    have atS : (s.heap.push (newSet w)).get? s.heap.objs.size = some (newSet w) := Heap.get?_push_size _ rfl
    have hT : Shared.TypeIs { s with heap := s.heap.push (newSet w) } (.ref s.heap.objs.size) "set" := ⟨_, atS, rfl⟩
    have hli := F.called_set.init.lookup
    have hbi := F.called_set.init.bind (.ref s.heap.objs.size)
    repeat (any_goals (first | assumption | wp_step))
    refine codeAny_mono (codeAny_call_builtin (R := wants (fun r z => r = .none ∧ ∃ h' tk L rows ver t, z = { s with heap := h', toks := tk } ∧ Bag w h' s.heap.objs.size L rows ver t ∧ Took all all.length L ∧ (∀ b o, s.heap.get? b = some o → h'.get? b = some o)) E)
      F.called_set.init.plain F.entry_set_init (check_set_init_1 hT ?_)) fun r2 z2 hr2 => ?_
    · obtain ⟨⟨oc, od, odat, osl⟩, hol, hcl, nl, hdl⟩ := id hl
      simp only at hcl hdl
      subst hcl hdl
      have hol' : (s.heap.push (newSet w)).get? l = some { cls := .type "list", dict := od, data := .seq items nl, slots := osl } := Heap.get?_push_of_some _ hol
      have hsls := F.sub_list_set
      have hslf := F.sub_list_frozenset
      have hne : (Value.type "list" == Value.type "dict") = false := by decide
      have hl1 : (s.heap.push (newSet w)).IsList l items := ⟨_, hol', rfl, nl, rfl⟩
      unfold Builtin.«set.__init__» noKeywords Builtin.Frozenset.updateFrom
      generalize hPI : pyIter = PI
      wp_walk
      subst hPI
      refine wpAny_pyIter_list hl1 (wpAny_bind (wpAny_runValue ?_))
      have lt : l < s.heap.objs.size := Heap.lt_size hol
      have sz1 : (s.heap.push (newSet w)).objs.size = s.heap.objs.size + 1 := Heap.size_push ..
      have gone : ∀ b, s.heap.objs.size ≤ b → s.heap.get? b = none := fun b hb => Heap.get?_none_of_le hb
      have hh3 : A.in1.in1.in1.handled = none := hh
      have apart : l ≠ (s.heap.push (newSet w)).objs.size := by rw [sz1]; exact Nat.ne_of_lt (Nat.lt_succ_of_lt lt)
      refine fills ((Walks.list hh3 _ l apart items).toS) s.heap.objs.size (by
          rw [sz1]
          simp only [List.mem_cons, List.not_mem_nil, or_false, not_or]
          exact ⟨Nat.ne_of_lt (Nat.lt_succ_self _), Nat.ne_of_gt lt⟩) all n1 few (fun i v hv => ?_) s.heap hk (fun b hb => gone b ?_) (by show A.units + 1 + 1 + 1 + 64 < cLine; omega) items.size 0 _ (by omega)
        ⟨⟨_, Heap.get?_push_size _ rfl, rfl, rfl⟩, hl1.push _⟩ (fun b o e => Heap.get?_push_of_some _ (Heap.get?_push_of_some _ e)) ⟨[], #[], 0, _, bag_new (Heap.get?_push_of_some _ atS), ⟨fun _ h => (nomatch h), fun _ h => (by simp at h), Nat.le_refl _⟩⟩ ?_
      · have hv' : items.toList[i]? = some v := by rw [Array.getElem?_toList]; exact hv
        rw [it, List.getElem?_map] at hv'
        obtain ⟨e, he, rfl⟩ := Option.map_eq_some_iff.mp hv'
        exact ⟨e, he, rfl⟩
      · rcases hb with e | hb
        · rw [e]; exact Nat.le_refl _
        · rw [List.mem_singleton.mp hb, sz1]; exact Nat.le_succ _
      · intro z L rows ver t mv B T k
        obtain ⟨zh, zg, zd, zt, zo⟩ := z
        have eg : zg = s.gens := mv.gens
        have ed : zd = s.drawn := mv.drawn
        have eo : zo = s.os := mv.os
        subst eg ed eo
        rw [n1] at T
        refine wpAny_pure ?_
        show wpAny _ _ (ret Value.none) _ _ _
        exact wpAny_pure ⟨rfl, zh, zt, L, rows, ver, t, rfl, B, T, k⟩
    · match r2, hr2 with
      | .error e, hr2 => exact hr2
      | .ok .next, hr2 => exact hr2.elim
      | .ok .brk, hr2 => exact hr2.elim
      | .ok .cont, hr2 => exact hr2.elim
      | .ok (.ret v), hr2 =>
        obtain ⟨rfl, h', tk, L, rows, ver, t, rfl, B, T, k⟩ := hr2
        repeat (any_goals (first | assumption | wp_step))
        exact q _ _ _ _ _ _ B T k
end
end Ev

namespace Ev
open PySem PySem.Spec PyProof.Rows L2

/-! ## 21. Nested data put in order -/
def srtK (d : D) : PyData := (pyD d).getD .none
def leD : D → D → Bool := PySem.W.dataLe false srtK
def isCons : D → Bool
  | .tup (_ :: _) => true
  | _ => false
def isFlat : D → Bool
  | .int _ => true
  | .str _ => true
  | _ => false
def srtOk (ds : List D) : Bool := decide (ds.length < 64) && ds.all deepOk && ds.all (fun d => decide ((srtK d).depth ≤ 8)) && ds.all (fun d => ds.all fun e => PySem.W.alike (srtK d) (srtK e)) && (ds.all isCons || ds.all isFlat)
def srtD (ds : List D) : List D := ds.mergeSort leD
def ddp : List D → List D
  | [] => []
  | d :: r => if d ∈ r then ddp r else d :: ddp r
def dSorted (x : D) (g : Hh) : Option (D × Hh) := match x with
  | .ref n => match g[n]? with
    | some (.lst ds) => if srtOk ds = true then some (.ref g.length, g ++ [.lst (srtD ds)]) else none
    | _ => none
  | _ => none
def dSrtSet (x : D) (g : Hh) : Option (D × Hh) := match x with
  | .ref n => match g[n]? with
    | some (.lst ds) => if (srtOk ds && ds.all isCons) = true then some (.ref g.length, g ++ [.lst (srtD (ddp ds))]) else none
    | _ => none
  | _ => none

/-! ### the order is one -/
theorem le_total (a b : D) : (leD a b || leD b a) = true := by
  unfold leD
  simp only [PySem.W.dataLe_eq]
  show (!PySem.W.dataLt (srtK b) (srtK a) || !PySem.W.dataLt (srtK a) (srtK b)) = true
  unfold PySem.W.dataLt
  cases h1 : PyProof.Rows.lexLt PyProof.Rows.itemOrd (PySem.W.keyToks (srtK b)) (PySem.W.keyToks (srtK a)) with
  | false => rfl
  | true =>
    cases h2 : PyProof.Rows.lexLt PyProof.Rows.itemOrd (PySem.W.keyToks (srtK a)) (PySem.W.keyToks (srtK b)) with
    | false => rfl
    | true =>
      have := PyProof.Rows.lex_trans _ _ _ h1 h2
      rw [PyProof.Rows.lex_irrefl] at this
      cases this
theorem le_trans' (a b c : D) (h1 : leD a b = true) (h2 : leD b c = true) : leD a c = true := by
  unfold leD at *
  simp only [PySem.W.dataLe_eq] at *
  show (!PySem.W.dataLt (srtK c) (srtK a)) = true
  have g1 : PySem.W.dataLt (srtK b) (srtK a) = false := by simpa using h1
  have g2 : PySem.W.dataLt (srtK c) (srtK b) = false := by simpa using h2
  unfold PySem.W.dataLt at *
  cases h3 : PyProof.Rows.lexLt PyProof.Rows.itemOrd (PySem.W.keyToks (srtK c)) (PySem.W.keyToks (srtK a)) with
  | false => rfl
  | true =>
    rcases PyProof.Rows.lex_negTrans _ (PySem.W.keyToks (srtK b)) _ h3 with h | h
    · rw [g2] at h; cases h
    · rw [g1] at h; cases h
theorem toks_inj {x y : PyData} (h : PySem.W.alike x y = true) (e : PySem.W.keyToks x = PySem.W.keyToks y) : PyData.eqv x y = true := by
  cases h1 : PyData.eqv x y with
  | true => rfl
  | false =>
    have := (PySem.W.toks_eqv x y h).2 h1 [] [.inl 0]
    rw [e, PySem.W.lex_pre, PyProof.Rows.lex_irrefl] at this
    exact absurd this (by decide)
theorem le_anti {d e : D} (hd : deepOk d = true) (he : deepOk e = true) (hal : PySem.W.alike (srtK d) (srtK e) = true) (h1 : leD d e = true) (h2 : leD e d = true) : d = e := by
  unfold leD at h1 h2
  simp only [PySem.W.dataLe_eq] at h1 h2
  have g1 : PySem.W.dataLt (srtK e) (srtK d) = false := by simpa using h1
  have g2 : PySem.W.dataLt (srtK d) (srtK e) = false := by simpa using h2
  have := toks_inj hal (PyProof.Rows.lex_total _ _ g2 g1)
  obtain ⟨_, p, e1, _⟩ := deepOk_py hd
  obtain ⟨_, q, e2, _⟩ := deepOk_py he
  have nd : nkD d = true := by unfold deepOk at hd; simp only [Bool.and_eq_true] at hd; exact hd.1.2
  have ne : nkD e = true := by unfold deepOk at he; simp only [Bool.and_eq_true] at he; exact he.1.2
  simp only [srtK, e1, e2, Option.getD_some] at this
  rw [eqv_nk d e nd ne e1 e2] at this
  exact of_decide_eq_true this

theorem srtOk_all {ds : List D} (h : srtOk ds = true) : ds.length < 64 ∧ (∀ d ∈ ds, deepOk d = true) ∧ (∀ d ∈ ds, (srtK d).depth ≤ 8) ∧ (∀ d ∈ ds, ∀ e ∈ ds, PySem.W.alike (srtK d) (srtK e) = true) ∧ (ds.all isCons = true ∨ ds.all isFlat = true) := by
  unfold srtOk at h
  simp only [Bool.and_eq_true, decide_eq_true_eq, List.all_eq_true, Bool.or_eq_true] at h
  obtain ⟨⟨⟨⟨h1, h2⟩, h3⟩, h4⟩, h5⟩ := h
  exact ⟨h1, h2, h3, h4, by simpa only [List.all_eq_true] using h5⟩
/-- lists of one content, in order -/
theorem srt_eq {ds es : List D} (hk : ∀ d ∈ es, deepOk d = true) (hal : ∀ d ∈ es, ∀ e ∈ es, PySem.W.alike (srtK d) (srtK e) = true) (pm : ds.Perm es) (ho : ds.Pairwise fun a b => leD a b = true) : ds = srtD es := by
  refine List.Perm.eq_of_pairwise (le := fun a b => leD a b = true) (fun a b ha hb h1 h2 => ?_) ho (List.pairwise_mergeSort le_trans' le_total es) (pm.trans (List.mergeSort_perm ..).symm)
  have a1 := pm.mem_iff.mp ha
  have b1 : b ∈ es := (List.mergeSort_perm es leD).mem_iff.mp hb
  exact le_anti (hk a a1) (hk b b1) (hal a a1 b b1) h1 h2
theorem mem_ddp {d : D} : ∀ {ds : List D}, d ∈ ddp ds ↔ d ∈ ds
  | [] => Iff.rfl
  | e :: r => by
    unfold ddp
    split
    · rename_i h
      rw [mem_ddp, List.mem_cons]
      exact ⟨.inr, fun q => q.elim (fun z => z ▸ h) id⟩
    · rw [List.mem_cons, List.mem_cons, mem_ddp]
theorem nodup_ddp : ∀ ds : List D, (ddp ds).Nodup
  | [] => List.nodup_nil
  | e :: r => by
    unfold ddp
    split
    · exact nodup_ddp r
    · rename_i h
      exact List.nodup_cons.mpr ⟨fun z => h (mem_ddp.mp z), nodup_ddp r⟩

/-! ### values of the walk -/
section
variable {X : Cx} {pins : List (Addr × Obj)} {σ : L2.St} {H : Hp} {s : Shared} {m : List Addr}
mutual
theorem nv_of (I : Inv X pins σ H s) : ∀ (d : D) (v : V) (u : Value), Rp X.K m H d v → nkD d = true → RelV v u → Nv s.heap d u
  | .int i, v, u, r, _, rv => by
    obtain rfl : v = .int i := r
    exact rv
  | .str x, v, u, r, _, rv => by
    obtain rfl : v = .str x := r
    exact rv
  | .tup ds, v, u, r, hn, rv => by
    obtain ⟨a, vs, rfl, q, rs⟩ := r
    obtain ⟨its, rv', ⟨o, ho, hc, n, hd⟩, _⟩ := I.tuple q
    obtain rfl : u = .ref a := rv
    exact ⟨a, o, its.toArray, n, rfl, ho, hc, hd, nvs_of I ds vs its rs hn rv'⟩
  | .non, _, _, _, h, _ => nomatch h
  | .bl _, _, _, _, h, _ => nomatch h
  | .ref _, _, _, _, h, _ => nomatch h
  | .fn _, _, _, _, h, _ => nomatch h
  | .scr _, _, _, _, h, _ => nomatch h
  | .ty _, _, _, _, h, _ => nomatch h
theorem nvs_of (I : Inv X pins σ H s) : ∀ (ds : List D) (vs : List V) (us : List Value), Rps X.K m H ds vs → nkDs ds = true → Vals vs us → Nvs s.heap ds us
  | [], vs, us, r, _, rv => by
    cases r
    cases rv
    rfl
  | d :: ds, vs, us, r, hn, rv => by
    obtain ⟨v, w, rfl, r1, r2⟩ := r
    cases rv with
    | cons h1 h2 =>
      unfold nkDs at hn
      rw [Bool.and_eq_true] at hn
      exact ⟨_, _, rfl, nv_of I d v _ r1 hn.1 h1, nvs_of I ds w _ r2 hn.2 h2⟩
end
theorem reads_of {d : D} {h : Heap} {u : Value} (hv : Nv h d u) : ∃ as, Reads h u (srtK d) as := by
  obtain ⟨p, as, e, r⟩ := nv_reads d hv
  exact ⟨as, by unfold srtK; rw [e]; exact r⟩
theorem deep_nk {d : D} (h : deepOk d = true) : nkD d = true := by unfold deepOk at h; simp only [Bool.and_eq_true] at h; exact h.1.2
/-- what an item of the list is known to be -/
def Itm (K : PySem.W.Frag) (m : List Addr) (H : Hp) (u : Value) (d : D) : Prop := ∃ v, RelV v u ∧ Rp K m H d v
theorem itms : ∀ {ds : List D} {vs : List V} {us : List Value}, Rps X.K m H ds vs → Vals vs us → PySem.W.EachIs (Itm X.K m H) us ds
  | [], _, _, r, rv => by cases r; cases rv; exact .nil
  | d :: ds, _, _, r, rv => by
    obtain ⟨v, w, rfl, r1, r2⟩ := r
    cases rv with
    | cons h1 h2 => exact .cons ⟨v, h1, r1⟩ (itms r2 h2)
theorem itms_back : ∀ {ds : List D} {us : List Value}, PySem.W.EachIs (Itm X.K m H) us ds → ∃ vs, Rps X.K m H ds vs ∧ Vals vs us
  | [], _, h => by cases h; exact ⟨[], Rps.nil, .nil⟩
  | d :: ds, _, h => by
    cases h with
    | cons h1 h2 =>
      obtain ⟨v, r, q⟩ := h1
      obtain ⟨vs, a, b⟩ := itms_back h2
      exact ⟨v :: vs, Rps.cons q a, .cons r b⟩
theorem itms_reads : ∀ {ds : List D} {vs : List V} {us : List Value}, Inv X pins σ H s → Rps X.K m H ds vs → Vals vs us → (∀ d ∈ ds, nkD d = true) → PySem.W.EachIs (fun u d => ∃ as, Reads s.heap u (srtK d) as) us ds
  | [], _, _, _, r, rv, _ => by cases r; cases rv; exact .nil
  | d :: ds, _, _, I, r, rv, hn => by
    obtain ⟨v, w, rfl, r1, r2⟩ := r
    cases rv with
    | cons h1 h2 => exact .cons (reads_of (nv_of I d v _ r1 (hn d List.mem_cons_self) h1)) (itms_reads I r2 h2 fun e he => hn e (List.mem_cons_of_mem _ he))
theorem sortable_of {ds : List D} (hk : ∀ d ∈ ds, deepOk d = true) (h : ds.all isCons = true ∨ ds.all isFlat = true) : PySem.W.Sortable (ds.map srtK) := by
  rcases h with h | h
  · refine .inl fun p hp => ?_
    obtain ⟨d, hd, rfl⟩ := List.mem_map.mp hp
    have := List.all_eq_true.mp h d hd
    obtain ⟨_, q, e, _⟩ := deepOk_py (hk d hd)
    unfold isCons at this
    split at this
    · rename_i x r
      simp only [pyD, pyDs] at e
      unfold srtK
      split at e
      · rename_i a b e1 e2
        simp only [Option.map_some, Option.some.injEq] at e
        simp only [pyD, pyDs, e1, e2]
        exact ⟨_, _, rfl⟩
      · cases e
    · cases this
  · refine .inr fun p hp => ?_
    obtain ⟨d, hd, rfl⟩ := List.mem_map.mp hp
    have := List.all_eq_true.mp h d hd
    unfold isFlat at this
    split at this
    · exact ⟨fun z => (nomatch z), fun xs z => (nomatch z)⟩
    · exact ⟨fun z => (nomatch z), fun xs z => (nomatch z)⟩
    · cases this
theorem alike_of {ds : List D} (h : ∀ d ∈ ds, ∀ e ∈ ds, PySem.W.alike (srtK d) (srtK e) = true) : PySem.W.AllAlike (ds.map srtK) := by
  intro p hp q hq
  obtain ⟨d, hd, rfl⟩ := List.mem_map.mp hp
  obtain ⟨e, he, rfl⟩ := List.mem_map.mp hq
  exact h d hd e he
end
section
variable {X : Cx}
theorem c_sorted (hu : X.A.units + 70 < cLine) : CallR X (.builtin "sorted") (rC X.K (b1 dSorted)) := b1_call fun pins s σ H v u Q m G x I rv at' rx P => by
  cases x with
  | ref n =>
    obtain ⟨p, hp, rfl⟩ := rx
    simp only [dSorted] at P
    split at P
    · rename_i ds e0
      split at P
      · rename_i hok
        obtain ⟨h64, hdk, hdp, hal, hcf⟩ := srtOk_all hok
        obtain ⟨vs, q, r⟩ := at'.of e0 hp
        obtain rfl : u = .ref p := rv
        obtain ⟨its, rvs, hl, hz⟩ := I.list (a := p) (xs := vs) (.inl (.inl q))
        have hlen := Rps.len r
        have hL : ds.length ≤ sizeLine := by rw [sizeLine_eq]; omega
        refine PySem.W.sorted_data (R := Itm X.K m H) (enc := srtK) (bs := ds) hl.isList (itms r rvs) (itms_reads I r rvs fun d hd => deep_nk (hdk d hd)) (alike_of hal) (sortable_of hdk hcf) hL (fun d hd => by have := hdp d hd; omega) fun out ho eo => ?_
        obtain ⟨ws, r2, rv2⟩ := itms_back eo
        obtain ⟨ep, he'⟩ := PyProof.Rows.sortedAll_at s.heap its out.toArray
        have hlw : ws.length ≤ sizeLine := by
          rw [rv2.length, ho]; exact hL
        refine ⟨.ref _, upd H (s.heap.objs.size + 1) (.lst ws), I.laid (t' := s.toks) (fun _ _ => PyProof.Rows.sortedAll_old) (Nat.le_succ _) ⟨hlw, out, ep, rv2, he'⟩, rfl, P.lst at' r2 (I.hok.fresh (Nat.le_succ _))⟩
      · exact P.elim
    · exact P.elim
  | _ => exact P.elim
end

/-! ### sorted(set(xs)) -/
mutual
theorem nv_reads0 : ∀ (d : D) {h : Heap} {v : Value}, Nv h d v → ∃ p, pyD d = some p ∧ Reads h v p []
  | .int i, h, v, ⟨t, e⟩ => by subst e; exact ⟨_, rfl, .int i t⟩
  | .str x, h, v, ⟨t, e⟩ => by subst e; exact ⟨_, rfl, .str x t⟩
  | .tup ds, h, v, ⟨a, o, vs, n, e, h1, h2, h3, h4⟩ => by
    subst e
    obtain ⟨ps, e2, r⟩ := nvs_reads0 ds h4
    exact ⟨.tuple ps, by simp [pyD, e2], .tuple h1 h2 h3 r⟩
  | .non, _, _, h => h.elim
  | .bl _, _, _, h => h.elim
  | .ref _, _, _, h => h.elim
  | .fn _, _, _, h => h.elim
  | .scr _, _, _, h => h.elim
  | .ty _, _, _, h => h.elim
theorem nvs_reads0 : ∀ (ds : List D) {h : Heap} {vs : List Value}, Nvs h ds vs → ∃ ps, pyDs ds = some ps ∧ ReadsAll h vs ps []
  | [], h, vs, e => by cases e; exact ⟨[], rfl, .nil⟩
  | d :: ds, h, vs, ⟨v, r, e, h1, h2⟩ => by
    subst e
    obtain ⟨p, e1, r1⟩ := nv_reads0 d h1
    obtain ⟨ps, e2, r2⟩ := nvs_reads0 ds h2
    exact ⟨p :: ps, by simp [pyDs, e1, e2], ReadsAll.cons (as := []) (bs := []) r1 r2⟩
end
theorem perm_back {α β : Type} {f : α → β} {vs us : List β} (h : vs.Perm us) : ∀ L : List α, us = L.map f → ∃ L1 : List α, vs = L1.map f ∧ L1.Perm L := by
  induction h with
  | nil => intro L e; cases L with
    | nil => exact ⟨[], rfl, .refl _⟩
    | cons _ _ => cases e
  | cons x _ ih =>
    intro L e
    cases L with
    | nil => cases e
    | cons y L =>
      simp only [List.map_cons, List.cons.injEq] at e
      obtain ⟨L1, e1, p1⟩ := ih L e.2
      exact ⟨y :: L1, by rw [List.map_cons, ← e1, e.1], p1.cons y⟩
  | swap x y l =>
    intro L e
    match L, e with
    | a :: b :: L, e =>
      simp only [List.map_cons, List.cons.injEq] at e
      exact ⟨b :: a :: L, by rw [List.map_cons, List.map_cons, e.1, e.2.1, e.2.2], .swap a b L⟩
  | trans _ _ ih1 ih2 =>
    intro L e
    obtain ⟨L1, e1, p1⟩ := ih2 L e
    obtain ⟨L2, e2, p2⟩ := ih1 L1 e1
    exact ⟨L2, e2, p2.trans p1⟩
section
variable {P : Program} {w : World} {A : Around} {E : Value → Shared → Prop} {s : Shared}
theorem each_ref : ∀ (L : List Ent), PySem.W.EachIs (fun u (e : Ent) => u = Value.ref e.1) (L.map fun e => Value.ref e.1) L
  | [] => .nil
  | e :: L => .cons rfl (each_ref L)
theorem each_refs : ∀ {L : List Ent} {us : List Value}, PySem.W.EachIs (fun u (e : Ent) => u = Value.ref e.1) us L → us = L.map fun e => Value.ref e.1
  | [], _, h => by cases h; rfl
  | e :: L, _, h => by
    cases h with
    | cons h1 h2 => rw [h1, each_refs h2]; rfl
theorem each_read {h : Heap} : ∀ (L : List Ent), (∀ e ∈ L, ∃ p, pyD e.2 = some p ∧ Reads h (.ref e.1) p []) → PySem.W.EachIs (fun u (e : Ent) => ∃ as, Reads h u (srtK e.2) as ∧ (0 : Nat) = 0 ∧ as = []) (L.map fun e => Value.ref e.1) L
  | [], _ => .nil
  | e :: L, hh => by
    obtain ⟨p, e1, r⟩ := hh e List.mem_cons_self
    exact .cons ⟨[], by unfold srtK; rw [e1]; exact r, rfl, rfl⟩ (each_read L fun f hf => hh f (List.mem_cons_of_mem _ hf))
theorem sorted_bag {a : Addr} {L : List Ent} {rows : Array (Int × Value)} {ver : Nat} {t : SetTable} {Q : Value → Shared → Prop} (B : Bag w s.heap a L rows ver t) (ks : ∀ e ∈ L, KeyAt s.heap e) (hh : A.handled = none) (hu : A.units + 70 < cLine)
    (hk : ∀ e ∈ L, deepOk e.2 = true) (hdp : ∀ e ∈ L, (srtK e.2).depth ≤ 8) (hal : ∀ d ∈ L, ∀ e ∈ L, PySem.W.alike (srtK d.2) (srtK e.2) = true) (hc : ∀ e ∈ L, isCons e.2 = true)
    (hQ : ∀ s' p (out : Array Value) (c : Nat) (L' : List Ent), (∀ b o, s.heap.get? b = some o → s'.heap.get? b = some o) → s'.gens = s.gens → s'.os = s.os → s.heap.objs.size ≤ p →
      s'.heap.get? p = some (seqObj "list" out c) → out.toList = L'.map (fun q => Value.ref q.1) → L'.Perm L → (L'.map (·.2)).Pairwise (fun x y => leD x y = true) → Q (.ref p) s') :
    wpAny (model P w) A (call (.builtin "sorted") [.ref a]) Q E s := by
  obtain ⟨o, ho, hex, hd⟩ := B.cell
  have hsz := B.size
  have hfew := B.few
  refine Calls.call_function_entry kind_sorted plain_sorted entry_sorted (args_sorted1 _) ?_
  unfold Builtin.«sorted»
  refine wpAny_bind (m := checkCount "sorted" 1 1 _) (wpAny_pure ?_)
  refine wpAny_bind (collect_set (A := A.in1) hh ⟨o, ho, hex.1, hd⟩ B.fits (by unfold scanBound; omega) B.tab.ris B.led fun s1 vs k1 hz g1 o1 pm => ?_)
  have hes : rows.toList.map (·.2) = L.map fun q => Value.ref q.1 := by
    rw [B.rows]
    unfold rws
    rw [List.map_map]
    rfl
  rw [hes] at pm
  obtain ⟨L1, rfl, p1⟩ := perm_back pm L rfl
  have hl1 : L1.length < 64 := by rw [p1.length_eq]; exact hfew
  have hlm : (L1.map fun q => Value.ref q.1).length ≤ sizeLine := by rw [List.length_map, sizeLine_eq]; omega
  refine wpAny_bind (wpAny_newList ?_ hlm)
  have hoL : (s1.heap.push (seqObj "list" (L1.map fun q => Value.ref q.1).toArray 0)).get? s1.heap.objs.size = some (seqObj "list" (L1.map fun q => Value.ref q.1).toArray 0) := Heap.get?_push_size _ rfl
  have rd : ∀ e ∈ L1, ∃ p, pyD e.2 = some p ∧ Reads (s1.heap.push (seqObj "list" (L1.map fun q => Value.ref q.1).toArray 0)) (.ref e.1) p [] := fun e he =>
    nv_reads0 e.2 (Nv.keeps e.2 (fun b u _ _ q _ => Heap.get?_push_of_some _ (k1 b u q)) (ks e (p1.mem_iff.mp he)).1)
  refine wpAny_bind (wpAny_holding (PySem.W.list_sort_data (s := { s1 with heap := s1.heap.push (seqObj "list" (L1.map fun q => Value.ref q.1).toArray 0) }) (R := fun u (e : Ent) => u = Value.ref e.1) (enc := fun e : Ent => srtK e.2) (bs := L1) hoL (each_ref L1)
    ((each_read L1 rd).mono fun u e ⟨as, r, _, ea⟩ => ⟨as, r, by rw [ea]; exact List.not_mem_nil⟩) ?_ ?_ (by rw [sizeLine_eq]; omega) (fun e he => ?_) fun out h1 h2 => ?_))
  · intro x hx y hy
    obtain ⟨d, hd, rfl⟩ := List.mem_map.mp hx
    obtain ⟨e, he, rfl⟩ := List.mem_map.mp hy
    exact hal d (p1.mem_iff.mp hd) e (p1.mem_iff.mp he)
  · have := sortable_of (ds := L1.map (·.2)) (fun d hd => by
      obtain ⟨e, he, rfl⟩ := List.mem_map.mp hd
      exact hk e (p1.mem_iff.mp he)) (.inl (List.all_eq_true.mpr fun d hd => by
      obtain ⟨e, he, rfl⟩ := List.mem_map.mp hd
      exact hc e (p1.mem_iff.mp he)))
    rw [List.map_map] at this
    exact this
  · have := hdp e (p1.mem_iff.mp he)
    show A.units + 1 + 1 + _ < cLine
    omega
  · have e2 := each_refs h2
    obtain ⟨c, hc'⟩ := sortedHeap_at (vs := L1.map fun q => Value.ref q.1) (out := out.toArray) hoL
    refine wpAny_pure ⟨_, rfl, hQ _ s1.heap.objs.size out.toArray c (L1.mergeSort (PySem.W.dataLe false fun e : Ent => srtK e.2)) (fun b u e => ?_) g1 o1 hz hc' (by rw [← e2]) ((List.mergeSort_perm ..).trans p1) ?_⟩
    · have q := k1 b u e
      have hlt := Heap.lt_size q
      show (sortedHeap (s1.heap.push (seqObj "list" _ 0)) s1.heap.objs.size _ out.toArray).get? b = some u
      rw [sortedHeap_old (Nat.ne_of_lt hlt) (by rw [size_push']; exact Nat.lt_succ_of_lt hlt)]
      exact Heap.get?_push_of_some _ q
    · rw [List.pairwise_map]
      exact List.pairwise_mergeSort (fun a b c h1 h2 => le_trans' a.2 b.2 c.2 h1 h2) (fun a b => le_total a.2 b.2) L1
end

section
variable {X : Cx} {W : WX} {c : Cal}
theorem ents_of {pins : List (Addr × Obj)} {σ : L2.St} {H : Hp} {s : Shared} {m : List Addr} (I : Inv X pins σ H s) : ∀ {ds : List D} {vs : List V} {us : List Value}, Rps X.K m H ds vs → Vals vs us → (∀ d ∈ ds, deepOk d = true ∧ isCons d = true) →
    ∃ all : List Ent, us = all.map (fun e => Value.ref e.1) ∧ all.map (·.2) = ds ∧ ∀ e ∈ all, KeyAt s.heap e ∧ Rp X.K m H e.2 (.ref e.1)
  | [], _, _, r, rv, _ => by cases r; cases rv; exact ⟨[], rfl, rfl, fun e he => nomatch he⟩
  | d :: ds, _, _, r, rv, h => by
    obtain ⟨v, w, rfl, r1, r2⟩ := r
    cases rv with
    | cons h1 h2 =>
      obtain ⟨all, e1, e2, e3⟩ := ents_of I r2 h2 fun e he => h e (List.mem_cons_of_mem _ he)
      obtain ⟨hd, hc⟩ := h d List.mem_cons_self
      cases d with
      | tup xs =>
        obtain ⟨a, ys, rfl, q, rs⟩ := id r1
        have n1 := nv_of I _ _ _ r1 (deep_nk hd) h1
        have eu : _ = Value.ref a := h1
        rw [eu] at n1
        refine ⟨(a, .tup xs) :: all, by rw [List.map_cons, ← e1, eu], by rw [List.map_cons, e2], fun e he => ?_⟩
        rcases List.mem_cons.mp he with z | z
        · rw [z]; exact ⟨⟨n1, hd⟩, r1⟩
        · exact e3 e z
      | _ => cases hc
theorem rps_ents {K : PySem.W.Frag} {m : List Addr} {H : Hp} : ∀ {L : List Ent}, (∀ e ∈ L, Rp K m H e.2 (.ref e.1)) → Rps K m H (L.map (·.2)) (L.map fun e => V.ref e.1)
  | [], _ => Rps.nil
  | e :: L, h => Rps.cons (h e List.mem_cons_self) (rps_ents fun f hf => h f (List.mem_cons_of_mem _ hf))
theorem vals_ents : ∀ (L : List Ent), Vals (L.map fun e => V.ref e.1) (L.map fun e => Value.ref e.1)
  | [] => .nil
  | e :: L => .cons rfl (vals_ents L)
theorem pe_srtSet {a : Expr} {ta : TE} {p p2 q pos : Pos} (hc : X.calm = true) (hu : X.A.units + 70 < cLine) (hg : Gl X "sorted") (hm : X.mg "sorted" = none) (hg2 : Gl X "set") (hm2 : X.mg "set" = none) (ha : PE X a ta)
    (na : starEach [a] X.env = (false, eval a X.env) :: starEach [] X.env) :
    PE X (.Call (.Name "sorted" p) [.Call (.Name "set" p2) [a] [] q] [] pos) (fun σ H Q => ta σ H fun v H1 => ∃ m G d, At X.K m H1 G ∧ Rp X.K m H1 d v ∧ PostO X.K m H1 Q (dSrtSet d G)) := by
  refine ⟨fun pins s σ H Q I h => ?_⟩
  refine Call_ (ld_blt I hg hm PyProof.Rows.boot_sorted ?_)
  refine PyProof.Rows.callWith_builtin1 (PyProof.Rows.args_cons ?_ rfl) rfl rfl
  refine Call_ (ld_blt I hg2 hm2 PyProof.Rows.boot_set ?_)
  refine PyProof.Rows.callWith_type1 (PyProof.Rows.args_cons (thn (ha.run pins s σ H _ I h) fun v s1 ⟨x, H1, I1, r1, q1⟩ => PyProof.Rows.args_nil ?_) na) na rfl
  obtain ⟨m, G, d, at', rx, P⟩ := q1
  cases d with
  | ref n =>
    obtain ⟨l, hl, rfl⟩ := rx
    simp only [dSrtSet] at P
    split at P
    · rename_i ds e0
      split at P
      · rename_i hok
        rw [Bool.and_eq_true] at hok
        obtain ⟨h64, hdk, hdp, hal, _⟩ := srtOk_all hok.1
        have hcn := fun d hd => List.all_eq_true.mp hok.2 d hd
        obtain ⟨vs, qv, r⟩ := at'.of e0 hl
        obtain rfl : v = .ref l := r1
        obtain ⟨its, rvs, pl, hz⟩ := I1.list (a := l) (xs := vs) (.inl (.inl qv))
        obtain ⟨all, e1, e2, e3⟩ := ents_of I1 r rvs fun d hd => ⟨hdk d hd, hcn d hd⟩
        have hlen : all.length = ds.length := by rw [← e2, List.length_map]
        have inDs : ∀ e ∈ all, e.2 ∈ ds := fun e he => by rw [← e2]; exact List.mem_map.mpr ⟨e, he, rfl⟩
        refine call_bag all (I1.ok.hd hc) pl.isList (by simpa using e1) (fun e he => (e3 e he).1) (by omega) (by omega) fun h' tk L rows ver t B T k => ?_
        refine PyProof.Rows.args_nil ?_
        have I2 : Inv X pins σ H1 { s1 with heap := h', toks := tk } := I1.kept k
        have inL : ∀ e ∈ L, e ∈ all := T.sub
        refine sorted_bag (s := { s1 with heap := h', toks := tk }) B (fun e he => ((e3 e (inL e he)).1).keeps fun b o _ _ ho _ => k b o ho) (I1.ok.hd hc) (by omega) (fun e he => hdk _ (inDs e (inL e he))) (fun e he => hdp _ (inDs e (inL e he)))
          (fun e he f hf => hal _ (inDs e (inL e he)) _ (inDs f (inL f hf))) (fun e he => hcn _ (inDs e (inL e he))) fun s' p' out cc L' k2 g o hp hgt hout pm pw => ?_
        have inL' : ∀ e ∈ L', e ∈ all := fun e he => inL e (pm.mem_iff.mp he)
        have hfew : L'.length < 64 := by rw [pm.length_eq]; exact B.few
        have hlw : (L'.map fun e => V.ref e.1).length ≤ sizeLine := by rw [List.length_map, sizeLine_eq]; omega
        have hn : H1 p' = none := I2.hok.fresh hp
        have hv : Vals (L'.map fun e => V.ref e.1) out.toList := by rw [hout]; exact vals_ents L'
        have J : Inv X pins σ (upd H1 p' (.lst (L'.map fun e => V.ref e.1))) { ({ s1 with heap := h', toks := tk } : Shared) with heap := s'.heap, gens := s'.gens, drawn := s'.drawn, toks := s'.toks } :=
          I2.call (ch := []) (Un.laid k2 hp hn) (I2.hok.laid k2 hp ⟨hlw, out.toList, cc, hv, hgt⟩) (by rw [g]; exact I2.bare) (fun _ z => nomatch z)
        have e : s' = { ({ s1 with heap := h', toks := tk } : Shared) with heap := s'.heap, gens := s'.gens, drawn := s'.drawn, toks := s'.toks } := by
          cases s'
          cases s1
          cases o
          rfl
        rw [e]
        have same : L'.map (·.2) = srtD (ddp ds) := by
          refine srt_eq (fun d hd => hdk d (mem_ddp.mp hd)) (fun d hd e he => hal d (mem_ddp.mp hd) e (mem_ddp.mp he)) ?_ pw
          refine (List.perm_ext_iff_of_nodup ((pm.map (·.2)).nodup_iff.mpr B.nd) (nodup_ddp ds)).mpr fun d => ?_
          rw [mem_ddp, (pm.map (·.2)).mem_iff]
          refine ⟨fun hd => ?_, fun hd => ?_⟩
          · obtain ⟨e, he, rfl⟩ := List.mem_map.mp hd
            exact inDs e (inL e he)
          · rw [← e2] at hd
            obtain ⟨e, he, rfl⟩ := List.mem_map.mp hd
            exact T.has e (by rw [List.take_length]; exact he)
        have rr := rps_ents (K := X.K) (m := m) (H := H1) (L := L') fun e he => (e3 e (inL' e he)).2
        rw [same] at rr
        exact ⟨.ref p', _, J, rfl, P.lst at' rr hn⟩
      · exact P.elim
    · exact P.elim
  | _ => exact P.elim
theorem se_srtSet {a : Expr} {ra : Exp} {p p2 q pos : Pos} (hc : X.calm = true) (hu : X.A.units + 70 < cLine) (hg : Gl X "sorted") (hm : X.mg "sorted" = none) (hg2 : Gl X "set") (hm2 : X.mg "set" = none) (ha : SE X W c a ra)
    (na : starEach [a] X.env = (false, eval a X.env) :: starEach [] X.env) : SE X W c (.Call (.Name "sorted" p) [.Call (.Name "set" p2) [a] [] q] [] pos) (eUn dSrtSet ra) := by
  refine pe_imp (pe_srtSet hc hu hg hm hg2 hm2 ha na) fun σ H Q h => ?_
  obtain ⟨ρ, G, m, s, at', P⟩ := h
  exact ⟨ρ, G, m, s, at', PostR.step P fun x g m1 H1 v f1 a1 r1 P1 => ⟨m1, g, x, a1, r1, PostR.of.mp P1⟩⟩
end
end Ev

namespace Ev
open PySem PySem.Spec PyProof.Rows L2

/-! ## 22. dict(zip(xs, ys)) over lists, tuples, texts in any mix -/
section
variable {prog : Program} {w : World} {A : Around} {E : Value → Shared → Prop} {s : Shared} {z TI TO i1 i2 T : Addr} {fp1 fp2 : List Addr} {n1 n2 i : Nat} {P1 P2 : Nat → Value → Prop} {St1 St2 : Nat → Heap → Prop} {f : Bool} {oT : Obj}
theorem heldD_item {Q : Value → Shared → Prop} (S : ZipSep2 z TI TO i1 i2 fp1 fp2) (D1 : Draws prog w A i1 fp1 n1 P1 St1) (D2 : Draws prog w A i2 fp2 n2 P2 St2)
    (hz : IsZipHeld s.heap z TI TO T f) (hT : s.heap.get? T = some oT) (hTI : IsTupOf2 s.heap TI (.ref i1) (.ref i2)) (st1 : St1 i s.heap) (st2 : St2 i s.heap) (hlt1 : i < n1) (hlt2 : i < n2)
    (hQ : ∀ x1 x2 h' tk, P1 i x1 → P2 i x2 → IsZipHeld h' z TI TO T true → St1 (i + 1) h' → St2 (i + 1) h' → IsTupOf2 h' s.heap.objs.size x1 x2 →
      (∀ c o, c ≠ z → c ≠ i1 → c ≠ i2 → s.heap.get? c = some o → h'.get? c = some o) → Q (.ref s.heap.objs.size) { s with heap := h', toks := tk }) :
    wpAny (model prog w) A (Builtin.«zip.__next__» ⟨[.ref z], []⟩) (fun fin s' => ∃ v, fin = .done (.ret v) ∧ Q v s') E s := by
  obtain ⟨hp, g, d, tk0, os⟩ := s
  show wpAny _ _ (field (.ref z) 2 >>= _) _ _ _
  refine wpAny_bind (wpAny_field hz rfl (x := .bool false) rfl ?_)
  show wpAny _ _ (field (.ref z) 3 >>= _) _ _ _
  refine wpAny_bind (wpAny_field hz rfl (x := .ref TI) rfl ?_)
  refine wpAny_bind (wpAny_seqItems hTI rfl ?_)
  show wpAny _ _ (Builtin.SmallTypes.ownedTupleIsFree (.ref z) >>= _) _ _ _
  refine wpAny_bind (wpAny_tupleHeld_zip hz hT fun g0 hz0 hs0 => ?_)
  replace hs0 : Heap.SameBut z hp g0 := hs0
  simp only [Bool.false_eq_true, if_false]
  refine wpAny_bind ?_
  rw [← Array.forIn_toList]
  simp only [List.forIn_cons, List.forIn_nil]
  refine wpAny_bind (wpAny_bind (wpAny_holding ?_))
  show wpAny _ _ (Builtin.SmallTypes.nextOf (.ref i1) >>= _) _ _ ⟨g0, g, d, tk0, os⟩
  refine wpAny_bind (D1.item i _ _ _ hlt1 (D1.over st1 hs0 S.zf1) fun x1 p1 tk1 hx1 sn1 hp1 => wpAny_pure ?_)
  replace hp1 : Heap.SameBut i1 g0 p1 := hp1
  refine wpAny_pure ?_
  refine wpAny_bind (wpAny_bind (wpAny_holding ?_))
  show wpAny _ _ (Builtin.SmallTypes.nextOf (.ref i2) >>= _) _ _ ⟨p1, g, d, tk1, os⟩
  refine wpAny_bind (D2.item i _ _ _ hlt2 (D2.over (D2.over st2 hs0 S.zf2) hp1 S.sep1_2) fun x2 p2 tk2 hx2 sn2 hp2 => wpAny_pure ?_)
  replace hp2 : Heap.SameBut i2 p1 p2 := hp2
  refine wpAny_pure (wpAny_pure ?_)
  show wpAny _ _ (newTuple [x1, x2] >>= _) _ _ _
  refine wpAny_bind (wpAny_newTuple ?_)
  have hsz : p2.objs.size = hp.objs.size := by rw [hp2.1, hp1.1, hs0.1]
  have hz3 : IsZipHeld p2 z TI TO T true := hp2.extBut _ _ S.zi2 (hp1.extBut _ _ S.zi1 hz0)
  have hk : ∀ c o, c ≠ z → c ≠ i1 → c ≠ i2 → hp.get? c = some o → p2.get? c = some o := fun c o c1 c2 c3 e => hp2.extBut _ _ c3 (hp1.extBut _ _ c2 (hs0.extBut _ _ c1 e))
  have hj1 : St1 (i + 1) p2 := D1.over sn1 hp2 S.sep2_1
  refine wpAny_pure ⟨_, rfl, ?_⟩
  show Q (.ref p2.objs.size) ⟨p2.push { cls := .type "tuple", data := .seq #[x1, x2] }, g, d, tk2, os⟩
  have hp' : IsTupOf2 (p2.push { cls := .type "tuple", data := .seq #[x1, x2] }) p2.objs.size x1 x2 := Heap.get?_push_size _ rfl
  rw [hsz] at hp' ⊢
  exact hQ x1 x2 _ tk2 hx1 hx2 (Heap.get?_push_of_some _ hz3) (D1.frame _ _ _ hj1 fun b _ o e => Heap.get?_push_of_some _ e) (D2.frame _ _ _ sn2 fun b _ o e => Heap.get?_push_of_some _ e) hp' fun c o c1 c2 c3 e => Heap.get?_push_of_some _ (hk c o c1 c2 c3 e)
theorem heldD_end {Q : Fin → Shared → Prop} (S : ZipSep2 z TI TO i1 i2 fp1 fp2) (D1 : Draws prog w A i1 fp1 n1 P1 St1) (D2 : Draws prog w A i2 fp2 n2 P2 St2)
    (hz : IsZipHeld s.heap z TI TO T f) (hT : s.heap.get? T = some oT) (hTI : IsTupOf2 s.heap TI (.ref i1) (.ref i2)) (st1 : St1 i s.heap) (st2 : St2 i s.heap) (hle1 : i ≤ n1) (hle2 : i ≤ n2) (hend : i = n1 ∨ i = n2)
    (hE : ∀ h' tk e, (∀ c o, c ≠ z → c ≠ i1 → c ≠ i2 → s.heap.get? c = some o → h'.get? c = some o) → (∃ o, h'.get? e = some o ∧ o.cls = .type "StopIteration") → E (.ref e) { s with heap := h', toks := tk }) :
    wpAny (model prog w) A (Builtin.«zip.__next__» ⟨[.ref z], []⟩) Q E s := by
  obtain ⟨hp, g, d, tk0, os⟩ := s
  show wpAny _ _ (field (.ref z) 2 >>= _) _ _ _
  refine wpAny_bind (wpAny_field hz rfl (x := .bool false) rfl ?_)
  show wpAny _ _ (field (.ref z) 3 >>= _) _ _ _
  refine wpAny_bind (wpAny_field hz rfl (x := .ref TI) rfl ?_)
  refine wpAny_bind (wpAny_seqItems hTI rfl ?_)
  show wpAny _ _ (Builtin.SmallTypes.ownedTupleIsFree (.ref z) >>= _) _ _ _
  refine wpAny_bind (wpAny_tupleHeld_zip hz hT fun g0 hz0 hs0 => ?_)
  replace hs0 : Heap.SameBut z hp g0 := hs0
  simp only [Bool.false_eq_true, if_false]
  refine wpAny_bind ?_
  rw [← Array.forIn_toList]
  simp only [List.forIn_cons, List.forIn_nil]
  refine wpAny_bind (wpAny_bind (wpAny_holding ?_))
  show wpAny _ _ (Builtin.SmallTypes.nextOf (.ref i1) >>= _) _ _ ⟨g0, g, d, tk0, os⟩
  by_cases h1 : i < n1
  · have h2 : i = n2 := by omega
    refine wpAny_bind (D1.item i _ _ _ h1 (D1.over st1 hs0 S.zf1) fun x1 p1 tk1 hx1 sn1 hp1 => wpAny_pure ?_)
    replace hp1 : Heap.SameBut i1 g0 p1 := hp1
    refine wpAny_pure ?_
    refine wpAny_bind (wpAny_bind (wpAny_holding ?_))
    show wpAny _ _ (Builtin.SmallTypes.nextOf (.ref i2) >>= _) _ _ ⟨p1, g, d, tk1, os⟩
    refine wpAny_bind (D2.done ⟨p1, g, d, tk1, os⟩ _ _ (by rw [← h2]; exact D2.over (D2.over st2 hs0 S.zf2) hp1 S.sep1_2) fun q e hq he => ?_)
    replace hq : Heap.ExtBut i2 p1 q := hq
    exact hE q tk1 e (fun c o c1 c2 c3 x => hq _ _ c3 (hp1.extBut _ _ c2 (hs0.extBut _ _ c1 x))) he
  · have h1 : i = n1 := by omega
    refine wpAny_bind (D1.done ⟨g0, g, d, tk0, os⟩ _ _ (by rw [← h1]; exact D1.over st1 hs0 S.zf1) fun q e hq he => ?_)
    replace hq : Heap.ExtBut i1 g0 q := hq
    exact hE q tk0 e (fun c o c1 c2 c3 x => hq _ _ c2 (hs0.extBut _ _ c1 x)) he
theorem next_heldD_item {Q : Option Value → Shared → Prop} (S : ZipSep2 z TI TO i1 i2 fp1 fp2) (D1 : Draws prog w A.in1 i1 fp1 n1 P1 St1) (D2 : Draws prog w A.in1 i2 fp2 n2 P2 St2)
    (hz : IsZipHeld s.heap z TI TO T f) (hT : s.heap.get? T = some oT) (hTI : IsTupOf2 s.heap TI (.ref i1) (.ref i2)) (st1 : St1 i s.heap) (st2 : St2 i s.heap) (hlt1 : i < n1) (hlt2 : i < n2)
    (hQ : ∀ x1 x2 h' tk, P1 i x1 → P2 i x2 → IsZipHeld h' z TI TO T true → St1 (i + 1) h' → St2 (i + 1) h' → IsTupOf2 h' s.heap.objs.size x1 x2 →
      (∀ c o, c ≠ z → c ≠ i1 → c ≠ i2 → s.heap.get? c = some o → h'.get? c = some o) → Q (some (.ref s.heap.objs.size)) { s with heap := h', toks := tk }) :
    wpAny (model prog w) A (pyNext (.ref z)) Q E s := by
  have hTy : s.TypeIs (.ref z) "zip" := ⟨_, hz, rfl⟩
  unfold pyNext
  exact wpAny_bind (wpAny_attempt (wpAny_callSpecial?_slot (name := Str.ofString "__next__") hTy F.slot_zip_next
    (wpAny_call_entry F.slot_zip_next hTy F.entry_zip_next
      (heldD_item S D1 D2 hz hT hTI st1 st2 hlt1 hlt2 fun x1 x2 h' tk y1 y2 a1 a2 a3 a4 a5 => wpAny_pure (hQ x1 x2 h' tk y1 y2 a1 a2 a3 a4 a5)) (F.args_zip_next_1 _))))
theorem next_heldD_end {Q : Option Value → Shared → Prop} (S : ZipSep2 z TI TO i1 i2 fp1 fp2) (D1 : Draws prog w A.in1 i1 fp1 n1 P1 St1) (D2 : Draws prog w A.in1 i2 fp2 n2 P2 St2)
    (hz : IsZipHeld s.heap z TI TO T f) (hT : s.heap.get? T = some oT) (hTI : IsTupOf2 s.heap TI (.ref i1) (.ref i2)) (st1 : St1 i s.heap) (st2 : St2 i s.heap) (hle1 : i ≤ n1) (hle2 : i ≤ n2) (hend : i = n1 ∨ i = n2)
    (hQ : ∀ h' tk, (∀ c o, c ≠ z → c ≠ i1 → c ≠ i2 → s.heap.get? c = some o → h'.get? c = some o) → Q none { s with heap := h', toks := tk }) : wpAny (model prog w) A (pyNext (.ref z)) Q E s := by
  have hTy : s.TypeIs (.ref z) "zip" := ⟨_, hz, rfl⟩
  unfold pyNext
  refine wpAny_bind (wpAny_attempt (wpAny_callSpecial?_slot (name := Str.ofString "__next__") hTy F.slot_zip_next
    (wpAny_call_entry F.slot_zip_next hTy F.entry_zip_next (heldD_end S D1 D2 hz hT hTI st1 st2 hle1 hle2 hend fun h' tk e hk he => ?_) (F.args_zip_next_1 _))))
  obtain ⟨o, ho, hc⟩ := he
  refine wpAny_bind (wpAny_isInstance (T := "StopIteration") (b := true) ⟨o, ho, hc⟩ isSubtype_stop ?_)
  exact wpAny_pure (hQ _ _ hk)
end
/-- zip of two iterators of any sort as what dict() takes -/
theorem pairArg_zip {prog : Program} {w : World} (z TI TO i1 i2 : Addr) (fp1 fp2 : List Addr) (S : ZipSep2 z TI TO i1 i2 fp1 fp2) {n1 n2 : Nat} {P1 P2 : Nat → Value → Prop} {St1 St2 : Nat → Heap → Prop}
    (D1 : ∀ A : Around, A.handled = none → Draws prog w A i1 fp1 n1 P1 St1) (D2 : ∀ A : Around, A.handled = none → Draws prog w A i2 fp2 n2 P2 St2) (lv1 : ∀ i h, St1 i h → ∀ b ∈ fp1, ∃ o, h.get? b = some o) (lv2 : ∀ i h, St2 i h → ∀ b ∈ fp2, ∃ o, h.get? b = some o) :
    PairArg prog w "zip" z ([z, TI, TO] ++ fp1 ++ fp2) [z, TO, i1, i2] (min n1 n2) (fun i k v => P1 i k ∧ P2 i v)
      (fun h => IsZip h z TI TO .none ∧ IsTupOf2 h TI (.ref i1) (.ref i2) ∧ (∃ a b, IsTupOf2 h TO a b) ∧ St1 0 h ∧ St2 0 h) where
  type := fun s ok => ⟨_, ok.1, rfl⟩
  notDict := by decide
  keep := fun h h' ok hk => by
    obtain ⟨hz, hTI, ⟨a, b, hTO⟩, h1, h2⟩ := ok
    exact ⟨hk _ _ hz, hk _ _ hTI, ⟨a, b, hk _ _ hTO⟩, (D1 {} rfl).frame _ _ _ h1 fun b _ o e => hk _ o e, (D2 {} rfl).frame _ _ _ h2 fun b _ o e => hk _ o e⟩
  there := fun h ok b hb => by
    obtain ⟨hz, hTI, ⟨a, c, hTO⟩, h1, h2⟩ := ok
    simp only [List.mem_append, List.mem_cons, List.not_mem_nil, or_false] at hb
    rcases hb with ((rfl | rfl | rfl) | hb) | hb
    · exact ⟨_, hz⟩
    · exact ⟨_, hTI⟩
    · exact ⟨_, hTO⟩
    · exact lv1 _ _ h1 b hb
    · exact lv2 _ _ h2 b hb
  sub := fun b hb => by
    simp only [List.mem_cons, List.not_mem_nil, or_false] at hb
    rcases hb with rfl | rfl | rfl | rfl
    · simp
    · simp
    · simp [S.mem1]
    · simp [S.mem2]
  noKeys := fun A s Q E hA ok h => getAttrOr_miss_zip ok.1 rfl rfl rfl zip_no_keys (by decide +kernel) hA h
  iter := fun A s d Q E hA ok hd hdf h => by
    obtain ⟨hz, hTI, ⟨a, b, hTO⟩, h1, h2⟩ := ok
    simp only [List.mem_append, List.mem_cons, List.not_mem_nil, or_false, not_or] at hdf
    obtain ⟨⟨⟨dz, dTI, dTO⟩, df1⟩, df2⟩ := hdf
    have di1 : d ≠ i1 := fun e => df1 (e ▸ S.mem1)
    have di2 : d ≠ i2 := fun e => df2 (e ▸ S.mem2)
    have E1 := D1 A.in1 hA
    have E2 := D2 A.in1 hA
    refine wpAny_pyIter_zip hz (h z [z, TO, i1, i2] (fun i h => IsTupOf2 h TI (.ref i1) (.ref i2) ∧ St1 i h ∧ St2 i h ∧
      ((IsZip h z TI TO .none ∧ ∃ a b, IsTupOf2 h TO a b) ∨ ∃ T f oT, IsZipHeld h z TI TO T f ∧ h.get? T = some oT ∧ T ≠ z ∧ T ≠ i1 ∧ T ≠ i2 ∧ T ≠ d)) s.heap s.toks ?_
      ⟨hTI, h1, h2, .inl ⟨hz, a, b, hTO⟩⟩ (fun _ _ e => e) fun b hb => .inl hb)
    exact {
      off := fun hm => by
        simp only [List.mem_cons, List.not_mem_nil, or_false] at hm
        rcases hm with e | e | e | e
        · exact dz e
        · exact dTO e
        · exact di1 e
        · exact di2 e
      frame := fun i h₁ h₂ st hk => by
        obtain ⟨hTI, h1, h2, hz⟩ := st
        refine ⟨hk _ _ (Ne.symm dTI) hTI, E1.frame _ _ _ h1 fun b hb o e => hk b o (fun q => df1 (q ▸ hb)) e, E2.frame _ _ _ h2 fun b hb o e => hk b o (fun q => df2 (q ▸ hb)) e, ?_⟩
        rcases hz with ⟨hz, a, b, hTO⟩ | ⟨T, f, oT, hz, hT, r1, r2, r3, r4⟩
        · exact .inl ⟨hk _ _ (Ne.symm dz) hz, a, b, hk _ _ (Ne.symm dTO) hTO⟩
        · exact .inr ⟨T, f, oT, hk _ _ (Ne.symm dz) hz, hk _ _ r4 hT, r1, r2, r3, r4⟩
      item := fun i s₁ Q₁ E₁ hi st hds hQ => by
        obtain ⟨hTI, h1, h2, hz⟩ := st
        have l1 : i < n1 := Nat.lt_of_lt_of_le hi (Nat.min_le_left ..)
        have l2 : i < n2 := Nat.lt_of_lt_of_le hi (Nat.min_le_right ..)
        have lt : ∀ {c o}, s₁.heap.get? c = some o → s₁.heap.objs.size ≠ c := fun e => Nat.ne_of_gt (Heap.lt_size e)
        have m1 : s₁.heap.objs.size ≠ i1 := let ⟨_, e⟩ := E1.live _ _ h1; lt e
        have m2 : s₁.heap.objs.size ≠ i2 := let ⟨_, e⟩ := E2.live _ _ h2; lt e
        rcases hz with ⟨hz, a, b, hTO⟩ | ⟨T, f, oT, hz, hT, r1, r2, r3, r4⟩
        · refine wpAny_pyNext_zipD2_item S E1 E2 hz hTI hTO h1 h2 l1 l2 fun x1 x2 h' tk y1 y2 a1 a2 a3 a4 a5 a6 hk => ?_
          exact hQ s₁.heap.objs.size _ _ h' tk ⟨y1, y2⟩ (.inl ⟨_, a5, rfl, _, rfl⟩)
            ⟨hk _ _ S.TIz S.TITO S.TIi1 S.TIi2 hTI, a3, a4,
              .inr ⟨s₁.heap.objs.size, false, _, a1, a5, lt hz, m1, m2, Nat.ne_of_gt hds⟩⟩
            fun c o hc e => hk c o (fun x => hc (by simp [x])) (fun x => hc (by simp [x])) (fun x => hc (by simp [x])) (fun x => hc (by simp [x])) e
        · refine next_heldD_item S E1 E2 hz hT hTI h1 h2 l1 l2 fun x1 x2 h' tk y1 y2 a1 a3 a4 a5 hk => ?_
          exact hQ s₁.heap.objs.size _ _ h' tk ⟨y1, y2⟩ (.inl ⟨_, a5, rfl, _, rfl⟩)
            ⟨hk _ _ S.TIz S.TIi1 S.TIi2 hTI, a3, a4,
              .inr ⟨T, true, oT, a1, hk _ _ r1 r2 r3 hT, r1, r2, r3, r4⟩⟩
            fun c o hc e => hk c o (fun x => hc (by simp [x])) (fun x => hc (by simp [x])) (fun x => hc (by simp [x])) e
      done := fun s₁ Q₁ E₁ st hQ => by
        obtain ⟨hTI, h1, h2, hz⟩ := st
        have hend : min n1 n2 = n1 ∨ min n1 n2 = n2 := by omega
        rcases hz with ⟨hz, a, b, hTO⟩ | ⟨T, f, oT, hz, hT, r1, r2, r3, r4⟩
        · exact wpAny_pyNext_zipD2_end S E1 E2 hz hTI hTO h1 h2 (Nat.min_le_left ..) (Nat.min_le_right ..) hend fun h' tk hk => hQ h' tk fun c o hc e => hk c o (fun x => hc (by simp [x])) (fun x => hc (by simp [x])) (fun x => hc (by simp [x])) (fun x => hc (by simp [x])) e
        · exact next_heldD_end S E1 E2 hz hT hTI h1 h2 (Nat.min_le_left ..) (Nat.min_le_right ..) hend fun h' tk hk => hQ h' tk fun c o hc e => hk c o (fun x => hc (by simp [x])) (fun x => hc (by simp [x])) (fun x => hc (by simp [x])) e }

def dDictZip (x y : D) (g : Hh) : Option (D × Hh) := match seqD g x, seqD g y with
  | some xs, some ys => if (xs.all isKey && decide (xs.length ≤ sizeLine)) = true then some (.ref g.length, g ++ [.dct (mergeD (xs.zip ys))]) else none
  | _, _ => none
theorem seq_kd {X : Cx} {m : List Addr} {H : Hp} {g : Hh} {d : D} {v : V} {u : Value} {xs : List D} (A : At X.K m H g) (r : Rp X.K m H d v) (rv : RelV v u) (h : seqD g d = some xs) :
    ∃ (k : Kd) (vs : List V), u = k.val ∧ k.Sq X.K H vs ∧ Rps X.K m H xs vs ∧ ∃ a, k = .lst a ∨ k = .tup a := by
  cases d with
  | tup ds =>
    cases h
    obtain ⟨a, vs, rfl, q, r⟩ := r
    cases rv
    exact ⟨.tup a, vs, rfl, q, r, a, .inr rfl⟩
  | scr ds =>
    cases h
    obtain ⟨a, vs, rfl, q, r⟩ := r
    cases rv
    exact ⟨.lst a, vs, rfl, q.sql, r, a, .inl rfl⟩
  | ref n =>
    obtain ⟨a, ha, rfl⟩ := r
    cases rv
    simp only [seqD] at h
    split at h
    · rename_i ys e
      cases h
      obtain ⟨vs, q, r⟩ := A.of e ha
      exact ⟨.lst a, vs, rfl, .of q, r, a, .inl rfl⟩
    · cases h
  | _ => cases h
section
variable {X : Cx} {pins : List (Addr × Obj)} {σ : L2.St} {H : Hp} {s : Shared}
theorem Kd.drawsV {k : Kd} (I : Inv X pins σ H s) {xs : List V} (q : k.Sq X.K H xs) (hk : ∃ a, k = .lst a ∨ k = .tup a) :
    ∃ its : List Value, Vals xs its ∧ k.Ok s.heap its ∧ ∀ it, (∀ a, k = .lst a ∨ k = .tup a → a ≠ it) → (∀ A : Around, A.handled = none → Draws X.prog X.w A it (k.fp it) its.length (fun i v => its[i]? = some v) (fun i h => k.St it i h ∧ k.Ok h its)) ∧
      ∀ i h, (k.St it i h ∧ k.Ok h its) → ∀ b ∈ k.fp it, ∃ o, h.get? b = some o := by
  obtain ⟨a, rfl | rfl⟩ := hk
  · obtain ⟨its, rv, p, _⟩ := I.list q
    refine ⟨its, rv, p.isList, fun it hne => ⟨fun A hh => ?_, fun i h st b hb => ?_⟩⟩
    · have D := Draws.list (prog := X.prog) (w := X.w) hh it a (hne a (.inl rfl)) its.toArray
      have D' : Draws X.prog X.w A it (Kd.fp it (.lst a)) its.length (fun i v => its[i]? = some v) fun i h => Kd.St it i h (.lst a) ∧ Kd.Ok h its (.lst a) := by
        simp only [List.size_toArray, List.getElem?_toArray] at D
        exact D
      exact D'
    · simp only [Kd.fp, List.mem_cons, List.not_mem_nil, or_false] at hb
      rcases hb with rfl | rfl
      · obtain ⟨o, e, _⟩ := Kd.St.obj st.1; exact ⟨o, e⟩
      · obtain ⟨o, e, _⟩ := st.2; exact ⟨o, e⟩
  · obtain ⟨its, rv, p, _⟩ := I.tuple q
    refine ⟨its, rv, p, fun it hne => ⟨fun A hh => ?_, fun i h st b hb => ?_⟩⟩
    · have D := Draws.tuple (prog := X.prog) (w := X.w) hh it a (hne a (.inr rfl)) its.toArray
      have D' : Draws X.prog X.w A it (Kd.fp it (.tup a)) its.length (fun i v => its[i]? = some v) fun i h => Kd.St it i h (.tup a) ∧ Kd.Ok h its (.tup a) := by
        simp only [List.size_toArray, List.getElem?_toArray] at D
        exact D
      exact D'
    · simp only [Kd.fp, List.mem_cons, List.not_mem_nil, or_false] at hb
      rcases hb with rfl | rfl
      · obtain ⟨o, e, _⟩ := Kd.St.obj st.1; exact ⟨o, e⟩
      · obtain ⟨o, e, _⟩ := st.2; exact ⟨o, e⟩
end
theorem keys_of {K : PySem.W.Frag} {m : List Addr} {H : Hp} : ∀ {ds : List D} {vs : List V}, ds.all isKey = true → Rps K m H ds vs → ∃ kk : List Key, ds = kk.map keyD ∧ vs = kk.map kV
  | [], _, _, r => by cases r; exact ⟨[], rfl, rfl⟩
  | d :: ds, _, h, r => by
    rw [List.all_cons, Bool.and_eq_true] at h
    obtain ⟨v, w, rfl, r1, r2⟩ := r
    obtain ⟨kk, e1, e2⟩ := keys_of h.2 r2
    obtain ⟨k, rfl⟩ := isKey_of h.1
    refine ⟨k :: kk, by rw [e1]; rfl, ?_⟩
    rw [e2]
    cases k <;> (cases r1; rfl)
theorem zip_rks {K : PySem.W.Frag} {m : List Addr} {H : Hp} : ∀ {kk : List Key} {ds : List D} {vs : List V}, Rps K m H ds vs → Rks K m H ((kk.map keyD).zip ds) (kk.zip vs)
  | [], _, _, _ => ⟨rfl, Rps.nil⟩
  | _ :: _, [], _, r => by cases r; exact ⟨rfl, Rps.nil⟩
  | k :: kk, d :: ds, _, r => by
    obtain ⟨v, w, rfl, r1, r2⟩ := r
    obtain ⟨h1, h2⟩ := zip_rks (kk := kk) r2
    refine ⟨?_, Rps.cons r1 h2⟩
    simp only [List.map_cons, List.zip_cons_cons]
    rw [h1]
theorem zip_kv : ∀ {kk : List Key} {vs : List V} {us : List Value}, Vals vs us → KV (kk.zip vs) (kk.zip us)
  | [], _, _, _ => .nil
  | _ :: _, _, _, .nil => .nil
  | k :: kk, _, _, .cons h t => .cons ⟨rfl, h⟩ (zip_kv t)
theorem keys_at {P : Program} {w : World} : ∀ {kk : List Key} {us : List Value} {i : Nat} {u : Value}, Vals (kk.map kV) us → us[i]? = some u → ∃ k, kk[i]? = some k ∧ (mixKind P w).is k u = true
  | [], _, i, u, .nil, e => by simp at e
  | k :: kk, _, 0, u, .cons h t, e => by
    simp only [List.getElem?_cons_zero, Option.some.injEq] at e
    subst e
    exact ⟨k, rfl, kV_is h⟩
  | k :: kk, _, i + 1, u, .cons h t, e => by
    simp only [List.getElem?_cons_succ] at e ⊢
    exact keys_at t e
section
variable {X : Cx} {W : WX} {c : Cal} {e e2 : Expr} {ra rb : Exp} {pos p p2 q : Pos}
theorem pe_dictZip {ta : TA} (hc : X.calm = true) (hg : Gl X "dict") (hm : X.mg "dict" = none) (hg2 : Gl X "zip") (hm2 : X.mg "zip" = none) (ha : PA X [e, e2] ta)
    (hs : starEach [e, e2] X.env = (false, eval e X.env) :: starEach [e2] X.env) (hs2 : starEach [e2] X.env = [(false, eval e2 X.env)]) :
    PE X (.Call (.Name "dict" p) [.Call (.Name "zip" p2) [e, e2] [] q] [] pos) (fun σ H Q => ta σ H fun us H1 => ∃ u w m g x y, us = [u, w] ∧ At X.K m H1 g ∧ Rp X.K m H1 x u ∧ Rp X.K m H1 y w ∧ PostO X.K m H1 Q (dDictZip x y g)) := by
  have hpl : (backTo q (starEach [e2] X.env)).any (·.1) = false := by rw [hs2]; rfl
  refine ⟨fun pins s σ H Q I h => ?_⟩
  refine Call_ (ld_blt I hg hm PyProof.Rows.boot_dict ?_)
  refine PyProof.Rows.callWith_type1 (PyProof.Rows.args_cons ?_ rfl) rfl rfl
  refine Call_ (ld_blt I hg2 hm2 PyProof.Rows.boot_zip (PyProof.Rows.callWith_type1 (thn (ha.run q pins s σ H _ I h) fun us s1 ⟨vs, H1, I1, r1, q1⟩ => ?_) hs hpl))
  obtain ⟨u, w, m, g, x, y, rfl, a1, rx, ry, P⟩ := q1
  cases r1 with
  | cons v1 rr =>
    cases rr with
    | cons v2 rr =>
      cases rr
      unfold dDictZip at P
      split at P
      · rename_i xs ys ex ey
        split at P
        · rename_i hok
          rw [Bool.and_eq_true, decide_eq_true_eq] at hok
          obtain ⟨k1, vs1, rfl, sq1, rp1, kd1⟩ := seq_kd a1 rx v1 ex
          obtain ⟨k2, vs2, rfl, sq2, rp2, kd2⟩ := seq_kd a1 ry v2 ey
          obtain ⟨kk, rfl, rfl⟩ := keys_of hok.1 rp1
          have l1 := Kd.lt I1 sq1
          have l2 := Kd.lt I1 sq2
          have hne : ∀ {k : Kd} {n : Nat}, (∀ a, k = .lst a ∨ k = .tup a → a < s1.heap.objs.size) → ∀ a, k = .lst a ∨ k = .tup a → a ≠ s1.heap.objs.size + n := fun h a ha => Nat.ne_of_lt (Nat.lt_of_lt_of_le (h a ha) (Nat.le_add_right _ _))
          obtain ⟨its1, rv1, ok1, dr1⟩ := Kd.drawsV I1 sq1 kd1
          obtain ⟨its2, rv2, ok2, dr2⟩ := Kd.drawsV I1 sq2 kd2
          obtain ⟨D1, lv1⟩ := dr1 s1.heap.objs.size (hne (n := 0) l1)
          obtain ⟨D2, lv2⟩ := dr2 (s1.heap.objs.size + 1) (hne (n := 1) l2)
          refine zip_begins2 (k1.begins its1) (k2.begins its2) ok1 ok2 fun h' hz hTI hTO h1 h2 hsz hk => PyProof.Rows.args_nil ?_
          have I2 : Inv X pins σ H1 { s1 with heap := h' } := I1.kept (t' := s1.toks) hk
          obtain ⟨t1, et1, ht1⟩ := k1.fp_eq s1.heap.objs.size
          obtain ⟨t2, et2, ht2⟩ := k2.fp_eq (s1.heap.objs.size + 1)
          have S : ZipSep2 (s1.heap.objs.size + 4) (s1.heap.objs.size + 2) (s1.heap.objs.size + 3) s1.heap.objs.size (s1.heap.objs.size + 1) (k1.fp s1.heap.objs.size) (k2.fp (s1.heap.objs.size + 1)) := by
            rw [et1, et2]
            exact zip_sep2 (fun b hb => l1 b (ht1 b hb)) (fun b hb => l2 b (ht2 b hb))
          have fr : ∀ n, FpOk X pins H1 (s1.heap.objs.size + n) := fun n => I1.fpOk (Nat.le_add_right _ _) (I1.hok.fresh (Nat.le_add_right _ _))
          have o1 : k1.Ok h' its1 := by
            obtain ⟨a, rfl | rfl⟩ := kd1
            · exact Heap.IsList.at ok1 fun o e => hk _ o e
            · exact Heap.IsTuple.at ok1 fun o e => hk _ o e
          have o2 : k2.Ok h' its2 := by
            obtain ⟨a, rfl | rfl⟩ := kd2
            · exact Heap.IsList.at ok2 fun o e => hk _ o e
            · exact Heap.IsTuple.at ok2 fun o e => hk _ o e
          have len1 : its1.length = kk.length := by rw [← rv1.length, List.length_map]
          have zl : (kk.zip its2).length = min its1.length its2.length := by rw [List.length_zip, len1]
          refine PySem.call_dict_pairs (s := { s1 with heap := h' }) (knd := mixKind X.prog X.w) (kvs := kk.zip its2) (pairArg_zip _ _ _ _ _ _ _ S D1 D2 lv1 lv2) (I1.ok.hd hc) ⟨hz, hTI, ⟨_, _, hTO⟩, ⟨k1.start h1, o1⟩, ⟨k2.start h2, o2⟩⟩ ⟨zl, fun i key v hp => ?_⟩ ?_ fun h'' tk hd hk2 => ?_
          · obtain ⟨k, e1, e2⟩ := keys_at (P := X.prog) (w := X.w) rv1 hp.1
            refine ⟨k, ?_, e2⟩
            rw [List.getElem?_zip_eq_some]
            exact ⟨e1, hp.2⟩
          · have := hok.2
            rw [List.length_map] at this
            omega
          · have rk := zip_rks (kk := kk) rp2
            have kv : KV (kk.zip vs2) (kk.zip its2) := zip_kv rv2
            have hm := merge_rep (acc := []) (kacc := []) rk ⟨rfl, Rps.nil⟩ List.nodup_nil
            have hn : H1 h'.objs.size = none := I2.hok.fresh (Nat.le_refl _)
            have hsm : (h'.objs.size == sysModules) = false := beq_eq_false_iff_ne.mpr (Nat.ne_of_gt I2.big)
            have hlen : (mergeK [] (kk.zip vs2)).length ≤ sizeLine := by
              refine Nat.le_trans (length_mergeK _ []) ?_
              have := hok.2
              rw [List.length_map] at this
              rw [List.length_nil, Nat.zero_add, List.length_zip]
              omega
            refine ⟨.ref h'.objs.size, upd H1 h'.objs.size (.dK (mergeK [] (kk.zip vs2))), I2.turnedNew (t' := tk) (ch := [s1.heap.objs.size + 4, s1.heap.objs.size + 3, s1.heap.objs.size, s1.heap.objs.size + 1]) (fun b o hb e => hk2 b o hb e) (fun b hb => ?_) (Nat.le_refl _) ⟨hlen, hsm, merged [] (kk.zip its2), KV.merge kv .nil, hd⟩, rfl, P.dct a1 hm.1 hm.2 hn⟩
            simp only [List.mem_cons, List.not_mem_nil, or_false] at hb
            rcases hb with rfl | rfl | rfl | rfl
            · exact fr 4
            · exact fr 3
            · exact fr 0
            · exact fr 1
        · exact P.elim
      · exact P.elim
theorem se_dictZip (hc : X.calm = true) (hg : Gl X "dict") (hm : X.mg "dict" = none) (hg2 : Gl X "zip") (hm2 : X.mg "zip" = none) (ha : SE X W c e ra) (hb : SE X W c e2 rb)
    (hs : starEach [e, e2] X.env = (false, eval e X.env) :: starEach [e2] X.env) (hs2 : starEach [e2] X.env = [(false, eval e2 X.env)]) :
    SE X W c (.Call (.Name "dict" p) [.Call (.Name "zip" p2) [e, e2] [] q] [] pos) (eOp dDictZip ra rb) := by
  refine pe_imp (pe_dictZip hc hg hm hg2 hm2 (sa_cons ha (sa_cons hb sa_nil hs2) hs) hs hs2) fun σ H Q h => ?_
  obtain ⟨ρ, G, m, s, at', P⟩ := h
  refine ⟨ρ, G, m, s, at', ?_⟩
  unfold eOp at P
  unfold aCons aNil
  revert P
  cases ra c ρ G with
  | exc _ _ _ => exact fun P => P
  | err => exact fun P => P
  | ok x g =>
    dsimp only [Res.bind]
    cases rb c ρ g with
    | exc _ _ _ => exact fun P => P
    | err => exact fun P => P
    | ok y g2 =>
      dsimp only [Res.bind]
      intro P m1 H1 us f a1 r
      obtain ⟨u, _, rfl, r1, w, _, rfl, r2, r3⟩ := r
      cases r3
      exact ⟨u, w, m1, g2, x, y, rfl, a1, r1, r2, PostR.of.mp (PostR.fut f P)⟩
end
end Ev

namespace Ev
open PySem PySem.Spec PyProof.Rows L2

/-! ## 14. From the syntax to combinators -/
structure Tab where
  defs : List (Str × Nat)
  kws : List (Str × List Str × List Nat)
  cls : List (Str × Str × Nat)
  flds : List (Str × List Str)
  con : List (Str × D)
  blt : List Str
structure Wld (X : Cx) (W : WX) (c : Cal) (T : Tab) (N : List Str) (sc : Scope) : Prop where
  nn : X.N = N
  nd : N.Nodup
  sc : X.env.scope = sc
  calm : X.calm = true
  hu : X.A.units + 70 < cLine
  defs : ∀ f n, T.defs.lookup f = some n → ∃ a, X.mg f = some (.ref a) ∧ PySem.W.keepIn X.K (.ref a) = true ∧ OwnF X W a n (c f)
  kws : ∀ f ks ix, (f, ks, ix) ∈ T.kws → ∃ a, X.mg f = some (.ref a) ∧ PySem.W.keepIn X.K (.ref a) = true ∧ OwnK X W a ix.length ks ix (c f)
  cls : ∀ C k n, T.cls.lookup C = some (k, n) → ∃ f, Mk X.K (He.ga X.K C) f ∧ OwnF X W f (n + 1) (c k) ∧ X.mg C = some (.ref (He.ga X.K C))
  flds : ∀ C fs, (C, fs) ∈ T.flds → ∀ f ∈ fs, ClsOk X.K C f
  con : ∀ x d, T.con.lookup x = some d → ∃ v u, X.mg x = some u ∧ RelV v u ∧ ∀ m H, Rp X.K m H d v
  blt : ∀ x ∈ T.blt, X.mg x = none
theorem OwnF.w0 {X : Cx} {W : WX} {f : Addr} {n : Nat} {r : List D → Hh → Res D} (h : OwnF X W f n r) : OwnF X W0 f n r := by
  obtain ⟨CX, k, fd, ps, h1, h2, h3, h4, h5⟩ := h
  exact ⟨CX, k, fd, ps, h1, h2, h3, fun σ => h5 X σ, h5⟩
theorem OwnK.w0 {X : Cx} {W : WX} {f : Addr} {n : Nat} {ks : List Str} {ix : List Nat} {r : List D → Hh → Res D} (h : OwnK X W f n ks ix r) : OwnK X W0 f n ks ix r := by
  obtain ⟨CX, k, fd, ps, h1, h2, h3, h3', h4, h5⟩ := h
  exact ⟨CX, k, fd, ps, h1, h2, h3, h3', fun σ => h5 X σ, h5⟩
section
variable {X : Cx} {W : WX} {c : Cal} {T : Tab} {N : List Str} {sc : Scope}
theorem Wld.w0 (h : Wld X W c T N sc) : Wld X W0 c T N sc :=
  { h with
    defs := fun f n e => let ⟨a, h1, h2, h3⟩ := h.defs f n e; ⟨a, h1, h2, h3.w0⟩
    kws := fun f ks ix e => let ⟨a, h1, h2, h3⟩ := h.kws f ks ix e; ⟨a, h1, h2, h3.w0⟩
    cls := fun C k n e => let ⟨a, h1, h2, h3⟩ := h.cls C k n e; ⟨a, h1, h2.w0, h3⟩ }
theorem Wld.blk (h : Wld X W c T N sc) (s : Shared) (H : Hp) (C : Addr) (cl : List (Str × Addr)) (fp : List Addr) (scope : Scope) : Wld (X.blk s H scope (compEnvC scope cl C X.env) fp) W0 c T N (relS scope sc) where
  nn := h.nn
  nd := h.nd
  sc := by rw [← h.sc]; rfl
  calm := h.calm
  hu := h.hu
  defs := fun f n e => by
    obtain ⟨a, h1, h2, CX, k, fd, ps, q1, q2, q3, q4, q5⟩ := h.defs f n e
    exact ⟨a, h1, h2, CX, k, fd, ps, q1, q2, q3, fun σ => q5 _ σ, q5⟩
  kws := fun f ks ix e => by
    obtain ⟨a, h1, h2, CX, k, fd, ps, q1, q2, q3, q3', q4, q5⟩ := h.kws f ks ix e
    exact ⟨a, h1, h2, CX, k, fd, ps, q1, q2, q3, q3', fun σ => q5 _ σ, q5⟩
  cls := fun C k n e => by
    obtain ⟨a, h1, ⟨CX, k, fd, ps, q1, q2, q3, q4, q5⟩, h3⟩ := h.cls C k n e
    exact ⟨a, h1, ⟨CX, k, fd, ps, q1, q2, q3, fun σ => q5 _ σ, q5⟩, h3⟩
  flds := h.flds
  con := h.con
  blt := h.blt
end

/-! what is seen of the text -/
def notStar : Expr → Bool
  | .Starred .. => false
  | _ => true
def notSet : Expr → Bool
  | .Set .. => false
  | _ => true
def plainBase : Expr → Bool
  | .Call (.Name _ _) [] [] _ => false
  | _ => true
def notComp : Expr → Bool
  | .ListComp .. => false
  | .SetComp .. => false
  | .DictComp .. => false
  | _ => true
section
variable {X : Cx}
theorem star_ok {e : Expr} {es : List Expr} (h : notStar e = true) (env : Env) : starEach (e :: es) env = (false, eval e env) :: starEach es env := by
  cases e <;> first | rfl | cases h
theorem stars_plain {es : List Expr} (h : es.all notStar = true) (env : Env) (pos : Pos) : (backTo pos (starEach es env)).any (·.1) = false := by
  induction es with
  | nil => rfl
  | cons e es ih =>
    rw [List.all_cons, Bool.and_eq_true] at h
    rw [star_ok h.1]
    show (false || (backTo pos (starEach es env)).any (·.1)) = false
    rw [ih h.2]
    rfl
theorem set_ok {e : Expr} (h : notSet e = true) (env : Env) (x : Value) : foldedSetIterable e env x = pure x := by
  cases e <;> first | rfl | cases h
theorem base_ok {e : Expr} (h : plainBase e = true) (f : Str) (env : Env) : attributeBase e f env (eval e env) = eval e env := by
  cases e with
  | Call fn args kws pos =>
    cases fn with
    | Name id p =>
      cases args with
      | nil => cases kws with
        | nil => cases h
        | cons _ _ => rfl
      | cons _ _ => rfl
    | _ => rfl
  | _ => rfl
theorem swaps_ok {e : Expr} (h : notComp e = true) (tg : Option Expr) (line : Nat) (env : Env) : swapsWith e tg line env = pure false := by
  cases e <;> first | rfl | cases h
theorem plainIx_ok {e : Expr} (h : notSlice e = true) : PlainIx e := by
  intro o i
  cases e <;> first | rfl | cases h
end

/-! tables -/
def eErr : Exp := fun _ _ _ => .err
def tErr : Tst := fun _ _ _ => .err
def aErr : Arg := fun _ _ _ => .err
def iErr : Itx := fun _ _ _ => .err
def gErr : Tg := fun _ _ _ _ => .err
def dopB : Operator → Option (D → D → Hh → Option (D × Hh))
  | .Add => some dAdd
  | .Sub => some dSub
  | .Mult => some dMul
  | .FloorDiv => some dDiv
  | .Mod => some dMod
  | .Pow => some dPow
  | _ => none
def dopC : CmpOp → Option (D → D → Hh → Option (D × Hh))
  | .Eq => some dEq
  | .NotEq => some dNe
  | .Lt => some dLt
  | .LtE => some dLe
  | .Gt => some dGt
  | .GtE => some dGe
  | .Is => some dIs
  | .IsNot => some dIsNot
  | .In => some dIn
  | .NotIn => some dNotIn
def dIAdd (x y : D) (g : Hh) : Option (D × Hh) := match x, y with
  | .int i, .int j => some (.int (i + j), g)
  | .str a, .str b => if a.length + b.length ≤ sizeLine then some (.str (a ++ b), g) else none
  | _, _ => none
def dopI : Operator → Option (D → D → Hh → Option (D × Hh))
  | .Add => some dIAdd
  | .Sub => some dSub
  | _ => none
def tyNm (x : Str) : Option String := if x = "tuple" then some "tuple" else if x = "list" then some "list" else if x = "str" then some "str" else if x = "int" then some "int" else if x = "bool" then some "bool" else if x = "dict" then some "dict" else none
def bfT (x : Str) : Option Bop := if x = "len" then some (b1 dLen) else if x = "int" then some (b1 dInt) else if x = "abs" then some (b1 dAbs) else if x = "tuple" then some (b1 dTuple) else if x = "list" then some (b1 dList)
  else if x = "dict" then some (b1 dDict) else if x = "str" then some (b1 dStr) else if x = "isinstance" then some (b2 dIsi) else if x = "max" then some (b2 dMax2) else if x = "min" then some (b2 dMin2) else if x = "sorted" then some (b1 dSorted) else none
section
variable {X : Cx}
theorem pe_err {e : Expr} {W : WX} {c : Cal} : SE X W c e eErr := ⟨fun _ _ _ _ _ _ ⟨_, _, _, _, _, P⟩ => P.elim⟩
theorem pt_err {e : Expr} {W : WX} {c : Cal} : ST X W c e tErr := ⟨fun _ _ _ _ _ _ ⟨_, _, _, _, _, P⟩ => P.elim⟩
theorem pw_err {e : Expr} {W : WX} {c : Cal} : SW X W c e tErr := ⟨fun _ _ _ _ _ _ _ ⟨_, _, _, _, _, P⟩ => P.elim⟩
theorem pa_err {e : List Expr} {W : WX} {c : Cal} : SA X W c e aErr := ⟨fun _ _ _ _ _ _ _ ⟨_, _, _, _, _, P⟩ => P.elim⟩
theorem pk_err {e : List Keyword} {W : WX} {c : Cal} : SK X W c e aErr := ⟨fun _ _ _ _ _ _ _ ⟨_, _, _, _, _, P⟩ => P.elim⟩
theorem pi_err {tg e : Expr} {W : WX} {c : Cal} : SI X W c tg e iErr := ⟨fun _ _ _ _ _ _ ⟨_, _, _, _, _, P⟩ => P.elim⟩
theorem pg_err {tg : Expr} {c : Cal} : SG X c tg gErr := ⟨fun _ _ _ _ _ _ _ _ _ ⟨_, _, _, _, _, _, _, P⟩ => P.elim⟩
theorem pgw_err {tg : Expr} {c : Cal} {vs : List Nat} : SGw X c vs tg gErr := ⟨fun _ _ _ _ _ _ _ _ _ ⟨_, _, _, _, _, _, _, P⟩ => P.elim⟩
theorem dopB_ok {op : Operator} {f : D → D → Hh → Option (D × Hh)} (h : dopB op = some f) : OpR X (binaryOp op) (rO X.K f) := by
  cases op <;> cases h
  · exact o_add
  · exact o_sub
  · exact o_mul
  · exact o_mod
  · exact o_pow
  · exact o_div
theorem dopC_ok (hu : X.A.units + 70 < cLine) {op : CmpOp} {f : D → D → Hh → Option (D × Hh)} (h : dopC op = some f) : OpR X (compareOp op) (rO X.K f) := by
  cases op <;> cases h
  · exact o_eq (by omega)
  · exact o_ne (by omega)
  · exact o_lt
  · exact o_le
  · exact o_gt
  · exact o_ge
  · exact o_is
  · exact o_isnot
  · exact o_in (by omega)
  · exact o_notin (by omega)
theorem o_iadd : OpR X (inplaceOp .Add) (rO X.K dIAdd) := by
  intro pins s σ H v u vv uu Q I rv ru ⟨m, G, x, y, at', rx, ry, P⟩
  cases x with
  | int i =>
    cases y with
    | int j =>
      obtain rfl : v = .int i := rx
      obtain rfl : u = .int j := ry
      exact iop_add pins s σ H _ _ vv uu Q I rv ru ⟨i, j, rfl, rfl, P.same at' rfl⟩
    | _ => exact P.elim
  | str a =>
    cases y with
    | str b =>
      obtain rfl : v = .str a := rx
      obtain rfl : u = .str b := ry
      simp only [dIAdd] at P
      split at P
      · rename_i hl
        exact iop_add_str pins s σ H _ _ vv uu Q I rv ru ⟨a, b, rfl, rfl, hl, P.same at' rfl⟩
      · exact P.elim
    | _ => exact P.elim
  | _ => exact P.elim
theorem o_isub : OpR X (inplaceOp .Sub) (rO X.K dSub) := by
  intro pins s σ H v u vv uu Q I rv ru ⟨m, G, x, y, at', rx, ry, P⟩
  cases x with
  | int i =>
    cases y with
    | int j =>
      obtain rfl : v = .int i := rx
      obtain rfl : u = .int j := ry
      exact iop_sub pins s σ H _ _ vv uu Q I rv ru ⟨i, j, rfl, rfl, P.same at' rfl⟩
    | _ => exact P.elim
  | _ => exact P.elim
theorem dopI_ok {op : Operator} {f : D → D → Hh → Option (D × Hh)} (h : dopI op = some f) : OpR X (inplaceOp op) (rO X.K f) := by
  cases op <;> cases h
  · exact o_iadd
  · exact o_isub
theorem tyNm_ok {x : Str} {n : String} (h : tyNm x = some n) : bootBuiltins x = some (.type n) ∧ x ≠ "__name__" ∧ (x == ("__debug__" : Str)) = false := by
  unfold tyNm at h
  repeat' split at h
  all_goals first | (cases h; done) | (rename_i hx; subst hx; cases h; exact ⟨by kernel_rfl, by decide, by decide⟩)
def CbOk (X : Cx) (x : Str) (op : Bop) : Prop := ((∃ id, bootBuiltins x = some (.builtin id) ∧ CallR X (.builtin id) (rC X.K op)) ∨ ∃ T, bootBuiltins x = some (.type T) ∧ CallR X (.type T) (rC X.K op)) ∧ x ≠ "__name__" ∧ (x == ("__debug__" : Str)) = false
theorem bfT_ok (hc : X.calm = true) (hu : X.A.units + 70 < cLine) {x : Str} {op : Bop} (h : bfT x = some op) : CbOk X x op := by
  unfold bfT at h
  repeat' split at h
  all_goals first | (cases h; done) | skip
  · rename_i hx; subst hx; cases h; exact ⟨.inl ⟨_, by kernel_rfl, c_len⟩, by decide, by decide⟩
  · rename_i hx; subst hx; cases h; exact ⟨.inr ⟨_, by kernel_rfl, c_int⟩, by decide, by decide⟩
  · rename_i hx; subst hx; cases h; exact ⟨.inl ⟨_, by kernel_rfl, c_abs⟩, by decide, by decide⟩
  · rename_i hx; subst hx; cases h; exact ⟨.inr ⟨_, by kernel_rfl, c_tuple⟩, by decide, by decide⟩
  · rename_i hx; subst hx; cases h; exact ⟨.inr ⟨_, by kernel_rfl, c_list hc⟩, by decide, by decide⟩
  · rename_i hx; subst hx; cases h; exact ⟨.inr ⟨_, by kernel_rfl, c_dict hc⟩, by decide, by decide⟩
  · rename_i hx; subst hx; cases h; exact ⟨.inr ⟨_, by kernel_rfl, c_str⟩, by decide, by decide⟩
  · rename_i hx; subst hx; cases h; exact ⟨.inl ⟨_, by kernel_rfl, c_isi⟩, by decide, by decide⟩
  · rename_i hx; subst hx; cases h; exact ⟨.inl ⟨_, by kernel_rfl, c_max2 hc⟩, by decide, by decide⟩
  · rename_i hx; subst hx; cases h; exact ⟨.inl ⟨_, by kernel_rfl, c_min2 hc⟩, by decide, by decide⟩
  · rename_i hx; subst hx; cases h; exact ⟨.inl ⟨_, by kernel_rfl, c_sorted hu⟩, by decide, by decide⟩
end
end Ev

namespace Ev
open PySem PySem.Spec PyProof.Rows L2

/-! ## 15. The compiler of expressions -/
structure Cm where
  e : Expr → Exp
  t : Expr → Tst
  a : List Expr → Arg
  k : List Keyword → Arg
  i : Expr → Expr → Itx
def isGl (sc : Scope) (x : Str) : Bool := decide (sc.names.lookup x = some .globalImplicit) && decide (x ≠ "__name__") && !(x == ("__debug__" : Str))
def isVis (sc : Scope) (x : Str) : Bool := (match sc.names.lookup x with
  | some .local => true
  | some .cell => true
  | some .free => true
  | _ => false) && !(x == ("__debug__" : Str)) && !(x == ("__classdict__" : Str))
def cName (T : Tab) (N : List Str) (sc : Scope) (x : Str) : Exp :=
  if isVis sc x = true then (if N[N.idxOf x]? = some x then eVar (N.idxOf x) else eErr)
  else if isGl sc x = true then (match T.con.lookup x with
    | some d => eC d
    | none => if x ∈ T.blt then (match tyNm x with
      | some n => eC (.ty n)
      | none => eErr) else eErr)
  else eErr
def cConst : Const → Exp
  | .none => eC .non
  | .bool b => eC (.bl b)
  | .int i => eC (.int i)
  | .str x => eC (.str x)
  | _ => eErr
/-- values joined by and, or -/
def foldE (f : Exp → Exp → Exp) : List Exp → Exp
  | [] => eErr
  | [a] => a
  | a :: b :: r => f a (foldE f (b :: r))
def foldT (f : Tst → Tst → Tst) : List Tst → Tst
  | [] => tErr
  | [a] => a
  | a :: b :: r => f a (foldT f (b :: r))
def isM1 : Expr → Bool
  | .UnaryOp .USub (.Constant (.int 1) _ _) _ => true
  | _ => false
def cPart (r : Cm) : Option Expr → Prt
  | none => pNo
  | some e => pSome (r.e e)
def cSub (r : Cm) (a b : Expr) : Exp := match b with
  | .Slice lo hi none _ => eSl (r.e a) (cPart r lo) (cPart r hi)
  | .Slice none none (some s) _ => if isM1 s = true then eUn dRev (r.e a) else eErr
  | .Slice .. => eErr
  | b => eOp dIx (r.e a) (r.e b)
def ownOf (N : List Str) (scope : Scope) : List (Str × Nat) := N.zipIdx.filter fun p => decide (scope.names.lookup p.1 = some .local) || decide (scope.names.lookup p.1 = some .cell)
/-- a target of a comprehension -/
def stC (sc scope : Scope) (x : Str) : Bool := decide (sc.names.lookup x = some .local) || (decide (sc.names.lookup x = some .cell) && (scope.names.lookup x == some .cell))
mutual
def cGw (N : List Str) (sc scope : Scope) (vs : List Nat) : Expr → Tg
  | .Name x _ => if (stC sc scope x && decide (N[N.idxOf x]? = some x) && decide (N.idxOf x ∈ vs)) = true then gNm (N.idxOf x) else gErr
  | .Tuple es _ _ => if es.all notStar = true then gTp es.length (cGws N sc scope vs es) else gErr
  | _ => gErr
def cGws (N : List Str) (sc scope : Scope) (vs : List Nat) : List Expr → Cal → List D → Env' → Hh → Res Env'
  | [] => gsNil
  | e :: es => gsCons (cGw N sc scope vs e) (cGws N sc scope vs es)
end
def rA (r : Cm) : List Expr → Arg
  | [] => aNil
  | l => r.a l
/-- a call of one name in a call of another -/
def inner (f k : Str) (n : Nat) : List Expr → Option (List Expr)
  | [.Call (.Name x _) es [] _] => if x = k ∧ es.length = n ∧ es.all notStar = true then some es else none
  | _ => none
def knows (T : Tab) (sc : Scope) (x : Str) : Bool := isGl sc x && decide (x ∈ T.blt)
def cBlt (T : Tab) (sc : Scope) (r : Cm) (f : Str) (args : List Expr) : Exp :=
  if f = "sorted" ∧ knows T sc "set" = true ∧ (inner f "set" 1 args).isSome = true then (match args with
    | [.Call _ [e] _ _] => eUn dSrtSet (r.e e)
    | _ => eErr)
  else if f = "dict" ∧ knows T sc "zip" = true ∧ (inner f "zip" 2 args).isSome = true then (match args with
    | [.Call _ [a, b] _ _] => eOp dDictZip (r.e a) (r.e b)
    | _ => eErr)
  else match bfT f with
  | some op => eCall op (r.a args)
  | none => eErr
def kwNames (kws : List Keyword) : List Str := kws.filterMap (·.arg)
def cCall (T : Tab) (sc : Scope) (r : Cm) (f : Str) (args : List Expr) (kws : List Keyword) : Exp :=
  if isGl sc f = true then (match kws with
    | [] => if args.all notStar = true then (match T.defs.lookup f with
      | some n => eOwn f n (rA r args)
      | none => if args.isEmpty = true then eErr else (match T.cls.lookup f with
        | some (k, n) => eNew f k n (r.a args)
        | none => if f ∈ T.blt then cBlt T sc r f args else eErr)) else eErr
    | kws => if args.isEmpty = true ∧ kws.all (fun k => k.arg.isSome) = true then (match T.kws.find? (fun p => decide (p.1 = f) && decide (p.2.1 = kwNames kws)) with
      | some p => eOwnK f p.2.2.length p.2.2 (r.k kws)
      | none => eErr) else eErr)
  else eErr
def cMth (r : Cm) (o : Expr) (m : Str) (apos : Pos) (args : List Expr) (cpos : Pos) : Exp :=
  if (plainBase o && args.all notStar && decide (args.length < 30) && (apos.endLine == cpos.line)) = true then eMth m (r.e o) (rA r args) else eErr
def cCmp (r : Cm) (l : Expr) (ops : List CmpOp) (rs : List Expr) : Exp := match ops, rs with
  | [op], [b] => if behindInMarks op b = false then (match dopC op with
    | some f => eOp f (r.e l) (r.e b)
    | none => eErr) else eErr
  | [op, op'], [b, d] => if lastMarks [op, op'] [b, d] = false then (match dopC op, dopC op' with
    | some f, some f' => eChain f f' (r.e l) (r.e b) (r.e d)
    | _, _ => eErr) else eErr
  | _, _ => eErr
def cLc (N : List Str) (sc : Scope) (r : Cm) (rb : Scope → Cm) (elt : Expr) (gens : List Comprehension) (scope : Scope) : Exp := match gens with
  | [⟨tg, iter, ifs, 0⟩] => if (blkC N sc scope (ownOf N scope) && notSet iter) = true then (match ifs with
    | [] => eLc ((ownOf N scope).map (·.2)) (r.i tg iter) (cGw N (relS scope sc) scope ((ownOf N scope).map (·.2)) tg) tYesE ((rb (relS scope sc)).e elt)
    | [t] => eLc ((ownOf N scope).map (·.2)) (r.i tg iter) (cGw N (relS scope sc) scope ((ownOf N scope).map (·.2)) tg) ((rb (relS scope sc)).t t) ((rb (relS scope sc)).e elt)
    | _ => eErr) else eErr
  | _ => eErr
def stepE (T : Tab) (N : List Str) (sc : Scope) (r : Cm) (rb : Scope → Cm) : Expr → Exp
  | .Name x _ => cName T N sc x
  | .Constant v _ _ => cConst v
  | .BinOp a op b _ => (match dopB op with
    | some f => eOp f (r.e a) (r.e b)
    | none => eErr)
  | .UnaryOp .USub a _ => eUn dNeg (r.e a)
  | .UnaryOp .Not a _ => eNot (r.e a)
  | .BoolOp .And vs _ => foldE eAnd (vs.map r.e)
  | .BoolOp .Or vs _ => foldE eOr (vs.map r.e)
  | .Compare l ops rs _ => cCmp r l ops rs
  | .IfExp t a b _ => eIf (r.t t) (r.e a) (r.e b)
  | .Tuple es _ _ => eTup (r.a es)
  | .List es _ => eLst (r.a es)
  | .Subscript a b _ => cSub r a b
  | .Attribute o f _ => if plainBase o = true then eFld ((T.flds.filter fun p => decide (f ∈ p.2)).map (·.1)) f (r.e o) else eErr
  | .Call (.Name f _) args kws _ => cCall T sc r f args kws
  | .Call (.Attribute o m apos) args [] cpos => cMth r o m apos args cpos
  | .ListComp elt gens scope _ => cLc N sc r rb elt gens scope
  | _ => eErr
def stepT (r : Cm) : Expr → Tst
  | .UnaryOp .Not a _ => tNotE (r.t a)
  | .BoolOp .And vs _ => foldT tAndE (vs.map r.t)
  | .BoolOp .Or vs _ => foldT tOrE (vs.map r.t)
  | .Compare l [op] [b] _ => if behindInMarks op b = false then (match dopC op with
    | some f => tVal (eOp f (r.e l) (r.e b))
    | none => tErr) else tErr
  | .Compare .. => tErr
  | .IfExp .. => tErr
  | e => tTru (r.e e)
def stepA (r : Cm) : List Expr → Arg
  | [] => aNil
  | e :: es => if notStar e = true then aCons (r.e e) (r.a es) else aErr
def stepK (r : Cm) : List Keyword → Arg
  | [] => aNil
  | ⟨_, e, _⟩ :: ks => aCons (r.e e) (r.k ks)
def callOf : Expr → Option (Str × List Expr)
  | .Call (.Name f _) args [] _ => some (f, args)
  | _ => none
def isTup : Expr → Bool
  | .Tuple .. => true
  | _ => false
def stepI (T : Tab) (sc : Scope) (r : Cm) (tg it : Expr) : Itx := match callOf it with
  | some (f, args) => if (isGl sc f && decide (f ∈ T.blt) && args.all notStar && decide (f = "range")) = true then (match args with
      | [_] => iRg1 (r.a args)
      | [_, _] => iRg2 (r.a args)
      | [_, _, _] => iRg3 (r.a args)
      | _ => iErr)
    else if (isGl sc f && decide (f ∈ T.blt) && args.all notStar && decide (f = "zip") && isTup tg) = true then (match args with
      | [a, b] => iZp (r.e a) (r.e b)
      | _ => iErr)
    else iPl (r.e it)
  | none => iPl (r.e it)
def cm (T : Tab) (N : List Str) : Nat → Scope → Cm
  | 0, _ => ⟨fun _ => eErr, fun _ => tErr, fun _ => aErr, fun _ => aErr, fun _ _ => iErr⟩
  | n + 1, sc => ⟨stepE T N sc (cm T N n sc) (cm T N n), stepT (cm T N n sc), stepA (cm T N n sc), stepK (cm T N n sc), stepI T sc (cm T N n sc)⟩

structure CmOk (X : Cx) (W : WX) (c : Cal) (r : Cm) : Prop where
  e : ∀ e, SE X W c e (r.e e)
  t : ∀ e, ST X W c e (r.t e)
  a : ∀ es, SA X W c es (r.a es)
  k : ∀ ks, SK X W c ks (r.k ks)
  i : ∀ tg it, SI X W c tg it (r.i tg it)
section
variable {X : Cx} {W : WX} {c : Cal} {T : Tab} {N : List Str} {sc : Scope} {r : Cm}
theorem isGl_ok (w : Wld X W c T N sc) {x : Str} (h : isGl sc x = true) : Gl X x ∧ x ≠ "__name__" ∧ (x == ("__debug__" : Str)) = false := by
  unfold isGl at h
  simp only [Bool.and_eq_true, decide_eq_true_eq, Bool.not_eq_true'] at h
  refine ⟨?_, h.1.2, h.2⟩
  show X.env.scope.names.lookup x = _
  rw [w.sc]
  exact h.1.1
theorem cName_ok (w : Wld X W c T N sc) (x : Str) (pos : Pos) : SE X W c (.Name x pos) (cName T N sc x) := by
  unfold cName
  split
  · rename_i hv
    split
    · rename_i hN
      unfold isVis at hv
      simp only [Bool.and_eq_true, Bool.not_eq_true'] at hv
      refine se_var (by rw [w.nn]; exact hN) ?_ hv.1.2 hv.2
      unfold Vis
      rw [w.sc]
      have h := hv.1.1
      revert h
      cases e : sc.names.lookup x with
      | none => intro h; cases h
      | some k => cases k <;> intro h <;> first | (cases h; done) | simp
    · exact pe_err
  · split
    · rename_i hg
      obtain ⟨g, n1, n2⟩ := isGl_ok w hg
      split
      · rename_i d ed
        obtain ⟨v, u, h1, h2, h3⟩ := w.con x d ed
        exact se_const (pe_glob g h1 h2 n2) h3
      · split
        · rename_i hb
          split
          · rename_i n en
            obtain ⟨h1, h2, h3⟩ := tyNm_ok en
            exact se_const (pe_bltn (v := .ty n) g (w.blt x hb) h1 rfl h2 h3) fun _ _ => rfl
          · exact pe_err
        · exact pe_err
    · exact pe_err
theorem cConst_ok (v : Const) (j : Nat) (pos : Pos) : SE X W c (.Constant v j pos) (cConst v) := by
  cases v with
  | none => exact se_const pe_non fun _ _ => rfl
  | bool b => exact se_const pe_bl fun _ _ => rfl
  | int i => exact se_const pe_int fun _ _ => rfl
  | str x => exact se_const pe_str fun _ _ => rfl
  | _ => exact pe_err
theorem foldE_and (h : CmOk X W c r) (pos : Pos) : ∀ vs : List Expr, SE X W c (.BoolOp .And vs pos) (foldE eAnd (vs.map r.e))
  | [] => pe_err
  | [a] => se_and1 (h.e a)
  | a :: b :: l => se_and (h.e a) (foldE_and h pos (b :: l))
theorem foldE_or (h : CmOk X W c r) (pos : Pos) : ∀ vs : List Expr, SE X W c (.BoolOp .Or vs pos) (foldE eOr (vs.map r.e))
  | [] => pe_err
  | [a] => se_and1 (h.e a)
  | a :: b :: l => se_or (h.e a) (foldE_or h pos (b :: l))
theorem foldT_and (h : CmOk X W c r) (pos : Pos) : ∀ vs : List Expr, SW X W c (.BoolOp .And vs pos) (foldT tAndE (vs.map r.t))
  | [] => pw_err
  | [a] => sw_and1 (h.t a)
  | a :: b :: l => sw_and (h.t a) (foldT_and h pos (b :: l))
theorem foldT_or (h : CmOk X W c r) (pos : Pos) : ∀ vs : List Expr, SW X W c (.BoolOp .Or vs pos) (foldT tOrE (vs.map r.t))
  | [] => pw_err
  | [a] => sw_or1 (h.t a)
  | a :: b :: l => sw_or (h.t a) (foldT_or h pos (b :: l))
theorem cPart_ok (h : CmOk X W c r) : ∀ e : Option Expr, SP' X W c e (cPart r e)
  | none => sp_no
  | some e => sp_some (h.e e)
theorem isM1_of {e : Expr} (h : isM1 e = true) : ∃ k p1 p2, e = .UnaryOp .USub (.Constant (.int 1) k p1) p2 := by
  unfold isM1 at h
  split at h
  · exact ⟨_, _, _, rfl⟩
  · cases h
theorem cSub_ok (w : Wld X W c T N sc) (h : CmOk X W c r) (a b : Expr) (pos : Pos) : SE X W c (.Subscript a b pos) (cSub r a b) := by
  unfold cSub
  split
  · exact se_sl (h.e a) (cPart_ok h _) (cPart_ok h _)
  · split
    · rename_i hm
      obtain ⟨k, p1, p2, rfl⟩ := isM1_of hm
      exact se_rev (h.e a)
    · exact pe_err
  · exact pe_err
  · rename_i hs1 hs2 hs3
    refine se_ix (by have := w.hu; omega) (h.e a) (h.e b) (plainIx_ok ?_)
    cases b <;> first | rfl | exact absurd rfl (hs3 _ _ _ _)
theorem knows_ok (w : Wld X W c T N sc) {x : Str} (h : knows T sc x = true) : Gl X x ∧ X.mg x = none := by
  unfold knows at h
  rw [Bool.and_eq_true, decide_eq_true_eq] at h
  exact ⟨(isGl_ok w h.1).1, w.blt x h.2⟩
theorem inner_ok {f k : Str} {n : Nat} {args es : List Expr} {fn : Expr} {kws : List Keyword} {q : Pos} (h : (inner f k n args).isSome = true) (e : args = [.Call fn es kws q]) : ∃ x p, x = k ∧ fn = .Name k p ∧ kws = [] ∧ es.all notStar = true := by
  subst e
  unfold inner at h
  split at h
  · rename_i x p es' q' heq
    simp only [List.cons.injEq, Expr.Call.injEq, and_true] at heq
    obtain ⟨rfl, rfl, rfl, rfl⟩ := heq
    split at h
    · rename_i hh
      obtain ⟨rfl, _, h3⟩ := hh
      exact ⟨x, p, rfl, rfl, rfl, h3⟩
    · cases h
  · cases h
theorem cBlt_ok (w : Wld X W c T N sc) (h : CmOk X W c r) {f : Str} {e : Expr} {es : List Expr} {p pos : Pos} (hg : Gl X f) (hm : X.mg f = none) (hs : (e :: es).all notStar = true) : SE X W c (.Call (.Name f p) (e :: es) [] pos) (cBlt T sc r f (e :: es)) := by
  unfold cBlt
  split
  · rename_i hh
    obtain ⟨rfl, h1, h2⟩ := hh
    obtain ⟨g2, m2⟩ := knows_ok w h1
    split
    · rename_i fn a kws q eq
      obtain ⟨x, p2, hx, e1, e2, e3⟩ := inner_ok h2 eq
      cases e1
      cases e2
      rw [List.all_cons, Bool.and_eq_true] at e3
      rw [eq]
      exact se_srtSet w.calm w.hu hg hm g2 m2 (h.e a) (star_ok e3.1 _)
    · exact pe_err
  split
  · rename_i hh
    obtain ⟨rfl, h1, h2⟩ := hh
    obtain ⟨g2, m2⟩ := knows_ok w h1
    split
    · rename_i fn a b kws q eq
      obtain ⟨x, p2, hx, e1, e2, e3⟩ := inner_ok h2 eq
      cases e1
      cases e2
      rw [List.all_cons, Bool.and_eq_true, List.all_cons, Bool.and_eq_true] at e3
      rw [eq]
      exact se_dictZip w.calm hg hm g2 m2 (h.e a) (h.e b) (star_ok e3.1 _) (by rw [star_ok e3.2.1]; rfl)
    · exact pe_err
  rw [List.all_cons, Bool.and_eq_true] at hs
  split
  · rename_i op eo
    obtain ⟨h1, h2, h3⟩ := bfT_ok w.calm w.hu eo
    rcases h1 with ⟨id, b1, b2⟩ | ⟨T', b1, b2⟩
    · exact se_callB b2 hg hm b1 (h.a _) h2 h3 (star_ok hs.1 _) (stars_plain hs.2 _ _)
    · exact se_callT b2 hg hm b1 (h.a _) h2 h3 (star_ok hs.1 _) (stars_plain hs.2 _ _)
  · exact pe_err
theorem kw_all {kws : List Keyword} (h : kws.all (fun k => k.arg.isSome) = true) (env : Env) (pos : Pos) : (backToKw pos (keywordEach kws env)).all (·.1.isSome) = true ∧ (backToKw pos (keywordEach kws env)).filterMap (·.1) = kwNames kws ∧ (backToKw pos (keywordEach kws env)).any (·.1.isNone) = false := by
  induction kws with
  | nil => exact ⟨rfl, rfl, rfl⟩
  | cons k ks ih =>
    rw [List.all_cons, Bool.and_eq_true] at h
    obtain ⟨h1, h2, h3⟩ := ih h.2
    obtain ⟨nm, e, p⟩ := k
    cases nm with
    | none => exact absurd h.1 Bool.false_ne_true
    | some x => exact ⟨h1, congrArg (x :: ·) h2, h3⟩
theorem cCall_ok (w : Wld X W c T N sc) (h : CmOk X W c r) (f : Str) (p pos : Pos) (args : List Expr) (kws : List Keyword) : SE X W c (.Call (.Name f p) args kws pos) (cCall T sc r f args kws) := by
  unfold cCall
  split
  · rename_i hg
    obtain ⟨g, n1, n2⟩ := isGl_ok w hg
    split
    · split
      · rename_i hs
        split
        · rename_i n en
          obtain ⟨a, h1, h2, h3⟩ := w.defs f n en
          cases args with
          | nil => exact se_own0 h3 g h1 h2 n2
          | cons e es =>
            have hs' := hs
            rw [List.all_cons, Bool.and_eq_true] at hs'
            exact se_own h3 g h1 h2 (h.a _) n2 (star_ok hs'.1 _) (stars_plain hs'.2 _ _)
        · cases args with
          | nil => exact pe_err
          | cons e es =>
            have hs' := hs
            rw [List.all_cons, Bool.and_eq_true] at hs'
            rw [if_neg (by simp)]
            split
            · rename_i k n en
              obtain ⟨a, h1, h2, h3⟩ := w.cls f k n en
              exact se_new h1 rfl h2 g h3 (h.a _) n2 (star_ok hs'.1 _) (stars_plain hs'.2 _ _)
            · split
              · rename_i hb
                exact cBlt_ok w h g (w.blt f hb) hs
              · exact pe_err
      · exact pe_err
    · split
      · rename_i hk
        cases args with
        | cons _ _ => exact absurd hk.1 (by simp)
        | nil =>
          split
          · rename_i q eq
            have hq := List.find?_some eq
            simp only [Bool.and_eq_true, decide_eq_true_eq] at hq
            obtain ⟨a, h1, h2, h3⟩ := w.kws q.1 q.2.1 q.2.2 (List.mem_of_find?_eq_some eq)
            rw [hq.1] at h1 h3
            obtain ⟨k1, k2, k3⟩ := kw_all hk.2 X.env pos
            exact se_ownK h3 g h1 h2 (h.k _) n2 k1 (k2.trans hq.2.symm) (by rw [k3]; rfl)
          · exact pe_err
      · exact pe_err
  · exact pe_err
theorem stars_none {es : List Expr} (h : es.all notStar = true) (env : Env) (pos : Pos) : (backTo pos (starEach es env)).all (fun x => !x.1) = true := by
  induction es with
  | nil => rfl
  | cons e es ih =>
    rw [List.all_cons, Bool.and_eq_true] at h
    rw [star_ok h.1]
    show (true && (backTo pos (starEach es env)).all (fun x => !x.1)) = true
    rw [ih h.2]
    rfl
theorem cMth_ok (w : Wld X W c T N sc) (h : CmOk X W c r) (o : Expr) (m : Str) (apos cpos : Pos) (args : List Expr) : SE X W c (.Call (.Attribute o m apos) args [] cpos) (cMth r o m apos args cpos) := by
  unfold cMth
  split
  · rename_i hh
    simp only [Bool.and_eq_true, decide_eq_true_eq] at hh
    obtain ⟨⟨⟨h1, h2⟩, h3⟩, h4⟩ := hh
    cases args with
    | nil => exact se_mth0 w.hu (h.e o) (base_ok h1 _ _) h4
    | cons e es =>
      have hs' := h2
      rw [List.all_cons, Bool.and_eq_true] at hs'
      refine se_mth w.hu (h.e o) (h.a _) (base_ok h1 _ _) ?_ h4 (star_ok hs'.1 _) (stars_plain hs'.2 _ _)
      rw [stars_none h2]
      simp only [Bool.true_and]
      show (true && decide _) = true
      rw [Bool.true_and, decide_eq_true_eq]
      exact h3
  · exact pe_err
theorem cCmp_ok (w : Wld X W c T N sc) (h : CmOk X W c r) (l : Expr) (ops : List CmpOp) (rs : List Expr) (pos : Pos) : SE X W c (.Compare l ops rs pos) (cCmp r l ops rs) := by
  unfold cCmp
  split
  · split
    · rename_i hm
      split
      · rename_i f ef
        exact se_cmp (dopC_ok w.hu ef) (h.e _) (h.e _) hm
      · exact pe_err
    · exact pe_err
  · split
    · rename_i hm
      split
      · rename_i f f' e1 e2
        exact se_chain (dopC_ok w.hu e1) (dopC_ok w.hu e2) (h.e _) (h.e _) (h.e _) hm
      · exact pe_err
    · exact pe_err
  · exact pe_err
theorem assigns_ok {es : List Expr} (h : es.all notStar = true) (env : Env) : (assignEach es env).length = es.length ∧ (assignEach es env).findIdx? (·.1) = none ∧ (assignEach es env).map (·.2) = es.map fun e => assign e env := by
  induction es with
  | nil => exact ⟨rfl, rfl, rfl⟩
  | cons e es ih =>
    rw [List.all_cons, Bool.and_eq_true] at h
    have he : assignEach (e :: es) env = (false, assign e env) :: assignEach es env := by
      have h1 := h.1
      cases e <;> first | rfl | cases h1
    obtain ⟨i1, i2, i3⟩ := ih h.2
    rw [he]
    refine ⟨by simp [i1], ?_, by simp [i3]⟩
    rw [List.findIdx?_cons]
    simp [i2]
mutual
theorem cGw_ok {Y : Cx} {scope : Scope} {vs : List Nat} (w : Wld Y W c T N sc) (hfn : ∀ x, Y.fn x = (scope.names.lookup x == some .cell)) : ∀ e : Expr, SGw Y c vs e (cGw N sc scope vs e)
  | .Name x pos => by
    unfold cGw
    split
    · rename_i h
      simp only [Bool.and_eq_true, decide_eq_true_eq] at h
      obtain ⟨⟨h1, h2⟩, h3⟩ := h
      unfold stC at h1
      simp only [Bool.or_eq_true, Bool.and_eq_true, decide_eq_true_eq] at h1
      refine sgw_name (by rw [w.nn]; exact w.nd) (by rw [w.nn]; exact h2) ?_ ?_ h3
      · unfold L2.Loc
        rw [w.sc]
        rcases h1 with h1 | h1
        · exact .inl h1
        · exact .inr h1.1
      · rw [w.sc, hfn]
        rcases h1 with h1 | h1
        · exact .inr h1
        · exact .inl h1.2
    · exact pgw_err
  | .Tuple es k pos => by
    unfold cGw
    split
    · rename_i h
      obtain ⟨h1, h2, _⟩ := assigns_ok h Y.env
      exact sgw_tup w.calm (cGws_ok w hfn es h) h1 h2
    · exact pgw_err
  | .BoolOp .. => by unfold cGw; exact pgw_err
  | .NamedExpr .. => by unfold cGw; exact pgw_err
  | .BinOp .. => by unfold cGw; exact pgw_err
  | .UnaryOp .. => by unfold cGw; exact pgw_err
  | .Lambda .. => by unfold cGw; exact pgw_err
  | .IfExp .. => by unfold cGw; exact pgw_err
  | .Dict .. => by unfold cGw; exact pgw_err
  | .Set .. => by unfold cGw; exact pgw_err
  | .ListComp .. => by unfold cGw; exact pgw_err
  | .SetComp .. => by unfold cGw; exact pgw_err
  | .DictComp .. => by unfold cGw; exact pgw_err
  | .GeneratorExp .. => by unfold cGw; exact pgw_err
  | .Await .. => by unfold cGw; exact pgw_err
  | .Yield .. => by unfold cGw; exact pgw_err
  | .YieldFrom .. => by unfold cGw; exact pgw_err
  | .Compare .. => by unfold cGw; exact pgw_err
  | .Call .. => by unfold cGw; exact pgw_err
  | .FormattedValue .. => by unfold cGw; exact pgw_err
  | .JoinedStr .. => by unfold cGw; exact pgw_err
  | .Constant .. => by unfold cGw; exact pgw_err
  | .Attribute .. => by unfold cGw; exact pgw_err
  | .Subscript .. => by unfold cGw; exact pgw_err
  | .Starred .. => by unfold cGw; exact pgw_err
  | .List .. => by unfold cGw; exact pgw_err
  | .Slice .. => by unfold cGw; exact pgw_err
theorem cGws_ok {Y : Cx} {scope : Scope} {vs : List Nat} (w : Wld Y W c T N sc) (hfn : ∀ x, Y.fn x = (scope.names.lookup x == some .cell)) : ∀ es : List Expr, es.all notStar = true → SGws Y c vs es (cGws N sc scope vs es)
  | [], _ => by unfold cGws; exact sgws_nil
  | e :: es, h => by
    unfold cGws
    have h' := h
    rw [List.all_cons, Bool.and_eq_true] at h'
    refine sgws_cons (cGw_ok w hfn e) (cGws_ok w hfn es h'.2) ?_
    rw [(assigns_ok h Y.env).2.2, (assigns_ok h'.2 Y.env).2.2]
    rfl
end
theorem cLc_ok {rb : Scope → Cm} (w : Wld X W c T N sc) (h : CmOk X W c r) (hb : ∀ {Y : Cx} {sc' : Scope}, Wld Y W0 c T N sc' → CmOk Y W0 c (rb sc')) (elt : Expr) (gens : List Comprehension) (scope : Scope) (pos : Pos) : SE X W c (.ListComp elt gens scope pos) (cLc N sc r rb elt gens scope) := by
  unfold cLc
  split
  · rename_i tg iter ifs
    split
    · rename_i hh
      rw [Bool.and_eq_true] at hh
      have bo : BlkOk X.N X.env.scope scope (ownOf N scope) := by
        rw [w.nn, w.sc]
        exact blkOk_by hh.1
      have wb := fun (s : Shared) (H : Hp) (C : Addr) (cl : List (Str × Addr)) (fp : List Addr) => w.blk s H C cl fp scope
      split
      · exact se_lc w.calm (by rw [w.nn]; exact w.nd) (h.i tg iter) bo (fun s H C cl fp => cGw_ok (wb s H C cl fp) (fun _ => rfl) tg) (fun _ _ _ _ _ => sts_nil) (fun s H C cl fp => (hb (wb s H C cl fp)).e elt) (set_ok hh.2 _)
      · exact se_lc w.calm (by rw [w.nn]; exact w.nd) (h.i tg iter) bo (fun s H C cl fp => cGw_ok (wb s H C cl fp) (fun _ => rfl) tg) (fun s H C cl fp => sts_one ((hb (wb s H C cl fp)).t _)) (fun s H C cl fp => (hb (wb s H C cl fp)).e elt) (set_ok hh.2 _)
      · exact pe_err
    · exact pe_err
  · exact pe_err
theorem stepE_ok {rb : Scope → Cm} (w : Wld X W c T N sc) (h : CmOk X W c r) (hb : ∀ {Y : Cx} {sc' : Scope}, Wld Y W0 c T N sc' → CmOk Y W0 c (rb sc')) (e : Expr) : SE X W c e (stepE T N sc r rb e) := by
  unfold stepE
  split
  · exact cName_ok w _ _
  · exact cConst_ok _ _ _
  · split
    · rename_i f ef
      exact se_op (dopB_ok ef) (h.e _) (h.e _)
    · exact pe_err
  · exact se_un u_neg (h.e _)
  · exact se_not (h.e _)
  · exact foldE_and h _ _
  · exact foldE_or h _ _
  · exact cCmp_ok w h _ _ _ _
  · exact se_if (h.t _) (h.e _) (h.e _)
  · exact se_tup (h.a _)
  · exact se_lst (h.a _)
  · exact cSub_ok w h _ _ _
  · split
    · rename_i hp
      refine se_fld (h.e _) (fun cl hcl => ?_) (base_ok hp _ _)
      obtain ⟨p, hp, rfl⟩ := List.mem_map.mp hcl
      obtain ⟨hp1, hp2⟩ := List.mem_filter.mp hp
      exact w.flds p.1 p.2 hp1 _ (of_decide_eq_true hp2)
    · exact pe_err
  · exact cCall_ok w h _ _ _ _ _
  · exact cMth_ok w h _ _ _ _ _
  · exact cLc_ok w h hb _ _ _ _
  · exact pe_err
theorem stepT_ok (w : Wld X W c T N sc) (h : CmOk X W c r) (e : Expr) : ST X W c e (stepT r e) := by
  unfold stepT
  split
  · exact st_not (h.t _)
  · exact st_w (foldT_and h _ _)
  · exact st_w (foldT_or h _ _)
  · split
    · rename_i hm
      split
      · rename_i f ef
        exact st_cmp (dopC_ok w.hu ef) (h.e _) (h.e _) hm
      · exact pt_err
    · exact pt_err
  · exact pt_err
  · exact pt_err
  · rename_i n1 n2 n3 n4 n5 n6
    refine st_tru (h.e _) fun whole => ?_
    cases e with
    | UnaryOp op a pos => cases op <;> first | rfl | exact absurd rfl (n1 _ _)
    | BoolOp op a pos => cases op <;> first | exact absurd rfl (n2 _ _) | exact absurd rfl (n3 _ _)
    | Compare => exact absurd rfl (n5 _ _ _ _)
    | IfExp => exact absurd rfl (n6 _ _ _ _)
    | _ => rfl
theorem stepA_ok (h : CmOk X W c r) (es : List Expr) : SA X W c es (stepA r es) := by
  unfold stepA
  split
  · exact sa_nil
  · split
    · rename_i hs
      exact sa_cons (h.e _) (h.a _) (star_ok hs _)
    · exact pa_err
theorem stepK_ok (h : CmOk X W c r) (ks : List Keyword) : SK X W c ks (stepK r ks) := by
  unfold stepK
  split
  · exact sk_nil
  · exact sk_cons (h.e _) (h.k _)
theorem callOf_of {it : Expr} {f : Str} {args : List Expr} (h : callOf it = some (f, args)) : ∃ p pos, it = .Call (.Name f p) args [] pos := by
  unfold callOf at h
  split at h
  · cases h; exact ⟨_, _, rfl⟩
  · cases h
theorem isTup_of {e : Expr} (h : isTup e = true) : ∃ es k p, e = .Tuple es k p := by
  unfold isTup at h
  split at h
  · exact ⟨_, _, _, rfl⟩
  · cases h
theorem stepI_ok (w : Wld X W c T N sc) (h : CmOk X W c r) (tg it : Expr) : SI X W c tg it (stepI T sc r tg it) := by
  unfold stepI
  split
  · rename_i f args hc
    obtain ⟨p, pos, rfl⟩ := callOf_of hc
    split
    · rename_i hh
      simp only [Bool.and_eq_true, decide_eq_true_eq] at hh
      obtain ⟨⟨⟨h1, h2⟩, h3⟩, rfl⟩ := hh
      obtain ⟨g, n1, n2⟩ := isGl_ok w h1
      have hm := w.blt _ h2
      split
      · rw [List.all_cons, Bool.and_eq_true] at h3
        exact si_range1 g hm (h.a _) (by rw [star_ok h3.1]; rfl)
      · rw [List.all_cons, Bool.and_eq_true, List.all_cons, Bool.and_eq_true] at h3
        exact si_range2 g hm (h.a _) (by rw [star_ok h3.1, star_ok h3.2.1]; rfl) (by rw [star_ok h3.2.1]; rfl)
      · have h3' := h3
        rw [List.all_cons, Bool.and_eq_true] at h3'
        exact si_range3 g hm (h.a _) (star_ok h3'.1 _) (stars_plain h3'.2 _ _)
      · exact pi_err
    · split
      · rename_i hh
        simp only [Bool.and_eq_true, decide_eq_true_eq] at hh
        obtain ⟨⟨⟨⟨h1, h2⟩, h3⟩, rfl⟩, h5⟩ := hh
        obtain ⟨g, n1, n2⟩ := isGl_ok w h1
        obtain ⟨es, k, tp, rfl⟩ := isTup_of h5
        split
        · rw [List.all_cons, Bool.and_eq_true, List.all_cons, Bool.and_eq_true] at h3
          exact si_zip g (w.blt _ h2) (h.e _) (h.e _) (star_ok h3.1 _) (by rw [star_ok h3.2.1]; rfl)
        · exact pi_err
      · exact si_plain (h.e _)
  · exact si_plain (h.e _)
end
theorem cm_ok {c : Cal} {T : Tab} {N : List Str} : ∀ (n : Nat) {X : Cx} {W : WX} {sc : Scope}, Wld X W c T N sc → CmOk X W c (cm T N n sc)
  | 0, _, _, _, _ => ⟨fun _ => pe_err, fun _ => pt_err, fun _ => pa_err, fun _ => pk_err, fun _ _ => pi_err⟩
  | n + 1, _, _, _, w =>
    have h := cm_ok n w
    ⟨stepE_ok w h (cm_ok n), stepT_ok w h, stepA_ok h, stepK_ok h, stepI_ok w h⟩
end Ev

namespace Ev
open PySem PySem.Spec PyProof.Rows L2

/-! ## 16. The compiler of statements -/
def isLoc (N : List Str) (sc : Scope) (x : Str) : Bool := (decide (sc.names.lookup x = some .local) || decide (sc.names.lookup x = some .cell)) && decide (N[N.idxOf x]? = some x)
mutual
def cG (N : List Str) (sc : Scope) (r : Cm) : Expr → Tg
  | .Name x _ => if isLoc N sc x = true then gNm (N.idxOf x) else gErr
  | .Tuple es _ _ => if es.all notStar = true then gTp es.length (cGs N sc r es) else gErr
  | .Subscript o i _ => if notSlice i = true then gSb (r.e o) (r.e i) else gErr
  | _ => gErr
def cGs (N : List Str) (sc : Scope) (r : Cm) : List Expr → Cal → List D → Env' → Hh → Res Env'
  | [] => gsNil
  | e :: es => gsCons (cG N sc r e) (cGs N sc r es)
end
def blkKind (sc : Scope) : ScopeKind := if sc.kind.isAnnotationScope then .function else sc.kind
def swapN (ts vs : List Expr) (sc : Scope) : Option (Option (List Str)) :=
  if (!(ts.length == 2 || ts.length == 3) || vs.length != ts.length || blkKind sc != .function) = true then some none
  else if (vs.any fun | .Starred .. => true | _ => false) = true then some none
  else
    let line := (ts.head?.map (·.pos.line)).getD 0
    let names := ts.filterMap fun
      | .Name id pos => if sc.names.lookup id == some .local && pos.line == line then some id else none
      | _ => none
    if (names.length != ts.length || names.eraseDups.length != names.length) = true then some none
    else if vs.all (foldedForSure 8) = true then some none
    else if vs.all (constantsAlone 8) = true then none
    else some (some names)
theorem swapN_ok {ts vs : List Expr} {env : Env} {k k2 : Nat} {p p2 : Pos} {o : Option (List Str)} (h : swapN ts vs env.scope = some o) : swappedStores [.Tuple ts k p] (.Tuple vs k2 p2) env = pure o := by
  show (if (!(ts.length == 2 || ts.length == 3) || vs.length != ts.length || env.blockKind != .function) = true then (pure none : Sem (Option (List Str))) else _) = _
  unfold swapN at h
  split at h
  · rename_i h1
    cases h
    exact if_pos h1
  · rename_i h1
    refine (if_neg h1).trans ?_
    split at h
    · rename_i h2
      cases h
      exact if_pos h2
    · rename_i h2
      refine (if_neg h2).trans ?_
      dsimp only at h
      split at h
      · rename_i h3
        cases h
        exact if_pos h3
      · rename_i h3
        refine (if_neg h3).trans ?_
        split at h
        · rename_i h4
          cases h
          exact if_pos h4
        · rename_i h4
          refine (if_neg h4).trans ?_
          split at h
          · cases h
          · rename_i h5
            cases h
            exact if_neg h5

/-- the target of a comprehension that may be put in the name's own place -/
def sComp (T : Tab) (N : List Str) (sc : Scope) (r : Cm) (rb : Scope → Cm) (x : Str) (v : Expr) : Stm := match v with
  | .ListComp elt gens scope _ => if isLoc N sc x = true then sAsg (gNm (N.idxOf x)) (cLc N sc r rb elt gens scope) else sErr
  | _ => sErr
def nm2 : List Expr → Option (Str × Str)
  | [.Name x _, .Name y _] => some (x, y)
  | _ => none
def nm3 : List Expr → Option (Str × Str × Str)
  | [.Name x _, .Name y _, .Name z _] => some (x, y, z)
  | _ => none
def isTo2 (N : List Str) (sc : Scope) (x y : Str) : Bool := decide (sc.names.lookup x = some .local) && decide (sc.names.lookup y = some .local) && decide (N[N.idxOf x]? = some x) && decide (N[N.idxOf y]? = some y) && decide (N.idxOf x ≠ N.idxOf y)
def sTup (N : List Str) (sc : Scope) (r : Cm) (tg : Expr) (ts : List Expr) (v : Expr) : Stm := match v with
  | .Tuple vs _ _ => (match swapN ts vs sc with
    | some none => sAsg (cG N sc r tg) (r.e v)
    | some (some names) => (match nm2 ts, vs with
      | some (x, y), [_, _] => if (isTo2 N sc x y && decide (names = [x, y])) = true then sPar [N.idxOf x, N.idxOf y] (r.a vs) else sErr
      | _, _ => (match nm3 ts, vs with
        | some (x, y, z), [_, _, _] => if (isTo2 N sc x y && isTo2 N sc x z && isTo2 N sc y z && decide (names = [x, y, z])) = true then sPar [N.idxOf x, N.idxOf y, N.idxOf z] (r.a vs) else sErr
        | _, _ => sErr))
    | none => sErr)
  | v => if notComp v = true then sAsg (cG N sc r tg) (r.e v) else sErr
def sAssign (T : Tab) (N : List Str) (sc : Scope) (r : Cm) (rb : Scope → Cm) (tg v : Expr) : Stm := match tg with
  | .Name x _ => if notComp v = true then sAsg (cG N sc r tg) (r.e v) else sComp T N sc r rb x v
  | .Tuple ts _ _ => sTup N sc r tg ts v
  | .Attribute o f _ => if notComp v = true then sFld ((T.flds.filter fun p => decide (f ∈ p.2)).map (·.1)) f (r.e o) (r.e v) else sErr
  | .Subscript .. => if notComp v = true then sAsg (cG N sc r tg) (r.e v) else sErr
  | _ => sErr
def cSs (f : Stmt → Stm) : List Stmt → Stm
  | [] => sPass
  | [s] => f s
  | s :: t => sSeq (f s) (cSs f t)
def stepS (T : Tab) (N : List Str) (sc : Scope) (r : Cm) (rb : Scope → Cm) (f : Stmt → Stm) : Stmt → Stm
  | .Pass _ => sPass
  | .Break _ => sBreak
  | .Continue _ => sCont
  | .Return none _ => sRetN
  | .Return (some e) _ => sRet (r.e e)
  | .Expr (.Constant (.str _) _ _) _ => sPass
  | .Expr e _ => if notComp e = true then sExpr (r.e e) else sErr
  | .Assign [tg] v _ => sAssign T N sc r rb tg v
  | .AugAssign (.Name x _) op v _ => if isLoc N sc x = true then (match dopI op with
    | some g => sAug (N.idxOf x) g (r.e v)
    | none => sErr) else sErr
  | .AugAssign (.Attribute o fl _) op v _ => (match dopI op with
    | some g => sFldAug ((T.flds.filter fun p => decide (fl ∈ p.2)).map (·.1)) fl g (r.e o) (r.e v)
    | none => sErr)
  | .If t a b _ => sIf (r.t t) (cSs f a) (cSs f b)
  | .For tg it body [] _ => if notSet it = true then sFor (r.i tg it) (cG N sc r tg) (cSs f body) else sErr
  | .While t body [] _ => sWhile (r.t t) (cSs f body)
  | _ => sErr
def cS (T : Tab) (N : List Str) (sc : Scope) : Nat → Stmt → Stm
  | 0, _ => sErr
  | n + 1, s => stepS T N sc (cm T N n sc) (cm T N n) (cS T N sc n) s

section
variable {X : Cx} {W : WX} {c : Cal} {T : Tab} {N : List Str} {sc : Scope} {r : Cm}
theorem isLoc_ok (w : Wld X W c T N sc) {x : Str} (h : isLoc N sc x = true) : L2.Loc X.env.scope x ∧ X.N[N.idxOf x]? = some x := by
  unfold isLoc at h
  simp only [Bool.and_eq_true, Bool.or_eq_true, decide_eq_true_eq] at h
  unfold L2.Loc
  rw [w.sc, w.nn]
  exact h
mutual
theorem cG_ok (w : Wld X W c T N sc) (h : CmOk X W0 c r) (hfn : ∀ x, X.fn x = true) : ∀ e : Expr, SG X c e (cG N sc r e)
  | .Name x pos => by
    unfold cG
    split
    · rename_i hl
      obtain ⟨h1, h2⟩ := isLoc_ok w hl
      exact sg_name (by rw [w.nn]; exact w.nd) h2 h1 (.inl (hfn x))
    · exact pg_err
  | .Tuple es k pos => by
    unfold cG
    split
    · rename_i hs
      obtain ⟨h1, h2, _⟩ := assigns_ok hs X.env
      exact sg_tup w.calm (cGs_ok w h hfn es hs) h1 h2
    · exact pg_err
  | .Subscript o i pos => by
    unfold cG
    split
    · rename_i hs
      exact sg_sub w.hu hs (h.e o) (h.e i)
    · exact pg_err
  | .BoolOp .. => by unfold cG; exact pg_err
  | .NamedExpr .. => by unfold cG; exact pg_err
  | .BinOp .. => by unfold cG; exact pg_err
  | .UnaryOp .. => by unfold cG; exact pg_err
  | .Lambda .. => by unfold cG; exact pg_err
  | .IfExp .. => by unfold cG; exact pg_err
  | .Dict .. => by unfold cG; exact pg_err
  | .Set .. => by unfold cG; exact pg_err
  | .ListComp .. => by unfold cG; exact pg_err
  | .SetComp .. => by unfold cG; exact pg_err
  | .DictComp .. => by unfold cG; exact pg_err
  | .GeneratorExp .. => by unfold cG; exact pg_err
  | .Await .. => by unfold cG; exact pg_err
  | .Yield .. => by unfold cG; exact pg_err
  | .YieldFrom .. => by unfold cG; exact pg_err
  | .Compare .. => by unfold cG; exact pg_err
  | .Call .. => by unfold cG; exact pg_err
  | .FormattedValue .. => by unfold cG; exact pg_err
  | .JoinedStr .. => by unfold cG; exact pg_err
  | .Constant .. => by unfold cG; exact pg_err
  | .Attribute .. => by unfold cG; exact pg_err
  | .Starred .. => by unfold cG; exact pg_err
  | .List .. => by unfold cG; exact pg_err
  | .Slice .. => by unfold cG; exact pg_err
theorem cGs_ok (w : Wld X W c T N sc) (h : CmOk X W0 c r) (hfn : ∀ x, X.fn x = true) : ∀ es : List Expr, es.all notStar = true → SGs X c es (cGs N sc r es)
  | [], _ => by unfold cGs; exact sgs_nil
  | e :: es, hs => by
    unfold cGs
    have hs' := hs
    rw [List.all_cons, Bool.and_eq_true] at hs'
    refine sgs_cons (cG_ok w h hfn e) (cGs_ok w h hfn es hs'.2) ?_
    rw [(assigns_ok hs X.env).2.2, (assigns_ok hs'.2 X.env).2.2]
    rfl
end
theorem cSs_ok {f : Stmt → Stm} (h : ∀ s, SS X W c s (f s)) : ∀ l : List Stmt, SSs X W c l (cSs f l)
  | [] => sss_nil
  | [s] => sss_one (h s)
  | s :: t :: l => sss_cons (h s) (cSs_ok h (t :: l))
theorem swStore_ok {tg v : Expr} (h : notComp v = true) (ht : ∀ vs k p, v ≠ .Tuple vs k p) (env : Env) : swappedStores [tg] v env = pure none := by
  cases v <;> first | exact absurd rfl (ht _ _ _) | (cases tg <;> rfl)
theorem asg_ok (w : Wld X W c T N sc) (h : CmOk X W c r) (h0 : CmOk X W0 c r) (hfn : ∀ x, X.fn x = true) {tg v : Expr} {pos : Pos} (hv : notComp v = true) (hs : notStar tg = true) (hw : swappedStores [tg] v X.env = pure none) : SS X W c (.Assign [tg] v pos) (sAsg (cG N sc r tg) (r.e v)) := by
  have h1 : [tg].all notStar = true := by rw [List.all_cons, hs]; rfl
  exact ss_asg (h.e v) (cG_ok w h0 hfn tg) (swaps_ok hv _ _ _) hw (by rw [(assigns_ok h1 X.env).2.2]; rfl)
theorem isTo2_ok (w : Wld X W c T N sc) {x y : Str} (h : isTo2 N sc x y = true) : X.env.scope.names.lookup x = some .local ∧ X.env.scope.names.lookup y = some .local ∧ X.N[N.idxOf x]? = some x ∧ X.N[N.idxOf y]? = some y ∧ N.idxOf x ≠ N.idxOf y := by
  unfold isTo2 at h
  simp only [Bool.and_eq_true, decide_eq_true_eq] at h
  rw [w.sc, w.nn]
  exact ⟨h.1.1.1.1, h.1.1.1.2, h.1.1.2, h.1.2, h.2⟩
theorem nm2_of {ts : List Expr} {p : Str × Str} (h : nm2 ts = some p) : ∃ a b, ts = [.Name p.1 a, .Name p.2 b] := by
  unfold nm2 at h
  split at h
  · cases h; exact ⟨_, _, rfl⟩
  · cases h
theorem nm3_of {ts : List Expr} {p : Str × Str × Str} (h : nm3 ts = some p) : ∃ a b d, ts = [.Name p.1 a, .Name p.2.1 b, .Name p.2.2 d] := by
  unfold nm3 at h
  split at h
  · cases h; exact ⟨_, _, _, rfl⟩
  · cases h
theorem sTup_ok (w : Wld X W c T N sc) (h : CmOk X W c r) (h0 : CmOk X W0 c r) (hfn : ∀ x, X.fn x = true) (ts : List Expr) (k : Nat) (tp : Pos) (v : Expr) (pos : Pos) : SS X W c (.Assign [.Tuple ts k tp] v pos) (sTup N sc r (.Tuple ts k tp) ts v) := by
  unfold sTup
  split
  · rename_i vs k2 p2
    split
    · rename_i e
      exact asg_ok w h h0 hfn rfl rfl (swapN_ok (by rw [w.sc]; exact e))
    · rename_i names e
      have sw : swappedStores [.Tuple ts k tp] (.Tuple vs k2 p2) X.env = pure (some names) := swapN_ok (by rw [w.sc]; exact e)
      have nd : X.N.Nodup := by rw [w.nn]; exact w.nd
      split
      · rename_i x y _ _ e2
        obtain ⟨pa, pb, rfl⟩ := nm2_of e2
        split
        · rename_i hh
          rw [Bool.and_eq_true, decide_eq_true_eq] at hh
          obtain ⟨hh, rfl⟩ := hh
          obtain ⟨i1, i2, i3, i4, i5⟩ := isTo2_ok w hh
          exact ss_par w.calm nd i3 i4 i5 i1 i2 (h.a _) sw
        · exact ss_err
      · split
        · rename_i x y z _ _ _ e2 _
          obtain ⟨pa, pb, pc, rfl⟩ := nm3_of e2
          split
          · rename_i hh
            simp only [Bool.and_eq_true, decide_eq_true_eq] at hh
            obtain ⟨⟨⟨q1, q2⟩, q3⟩, rfl⟩ := hh
            obtain ⟨i1, i2, i3, i4, i5⟩ := isTo2_ok w q1
            obtain ⟨_, j2, _, j4, j5⟩ := isTo2_ok w q2
            obtain ⟨_, _, _, _, l5⟩ := isTo2_ok w q3
            exact ss_par3 w.calm nd i3 i4 j4 i5 j5 l5 i1 i2 j2 (h.a _) sw
          · exact ss_err
        · exact ss_err
    · exact ss_err
  · rename_i nt
    split
    · rename_i hv
      exact asg_ok w h h0 hfn hv rfl (swStore_ok hv (fun vs k p e => nt vs k p e) _)
    · exact ss_err
theorem sComp_ok {rb : Scope → Cm} (w : Wld X W c T N sc) (h : CmOk X W c r) (hb : ∀ {Y : Cx} {sc' : Scope}, Wld Y W0 c T N sc' → CmOk Y W0 c (rb sc')) (hfn : ∀ x, X.fn x = true) (x : Str) (v : Expr) (px pos : Pos) : SS X W c (.Assign [.Name x px] v pos) (sComp T N sc r rb x v) := by
  unfold sComp
  split
  · rename_i elt gens scope lp
    split
    · rename_i hh
      obtain ⟨hloc, hN⟩ := isLoc_ok w hh
      have nd : X.N.Nodup := by rw [w.nn]; exact w.nd
      -- the compiler's word: this Bool
      have sw : swapsWith (.ListComp elt gens scope lp) (some (.Name x px)) pos.line X.env = pure (X.env.blockKind == .function && X.env.kindOf x == some .local && px.line == lp.line && !(scope.names.any fun (n, k) => n == x && (k == .local || k == .cell))) := rfl
      generalize hb' : (X.env.blockKind == ScopeKind.function && X.env.kindOf x == some .local && px.line == lp.line && !(scope.names.any fun (n, k) => n == x && (k == .local || k == .cell))) = b at sw
      have hx : b = true → X.env.scope.names.lookup x = some .local := fun e => by
        subst e
        simp only [Bool.and_eq_true] at hb'
        exact of_decide_eq_true (by simpa [Env.kindOf] using hb'.1.1.2)
      cases b with
      | false => exact ss_set nd hN hloc (cLc_ok w h hb elt gens scope lp) sw (.inl (hfn x))
      | true =>
        unfold cLc
        split
        · rename_i tg iter ifs
          split
          · rename_i h2
            rw [Bool.and_eq_true] at h2
            have bo : BlkOk X.N X.env.scope scope (ownOf N scope) := by
              rw [w.nn, w.sc]
              exact blkOk_by h2.1
            have wb := fun (s : Shared) (H : Hp) (C : Addr) (cl : List (Str × Addr)) (fp : List Addr) => w.blk s H C cl fp scope
            split
            · exact ss_setLc w.calm nd hN (hx rfl) sw (h.i tg iter) bo (fun s H C cl fp => cGw_ok (wb s H C cl fp) (fun _ => rfl) tg) (fun _ _ _ _ _ => sts_nil) (fun s H C cl fp => (hb (wb s H C cl fp)).e elt) (set_ok h2.2 _)
            · exact ss_setLc w.calm nd hN (hx rfl) sw (h.i tg iter) bo (fun s H C cl fp => cGw_ok (wb s H C cl fp) (fun _ => rfl) tg) (fun s H C cl fp => sts_one ((hb (wb s H C cl fp)).t _)) (fun s H C cl fp => (hb (wb s H C cl fp)).e elt) (set_ok h2.2 _)
            · exact ps_imp ps_never fun E σ H ⟨ρ, G, m, s, a, P⟩ => P
          · exact ps_imp ps_never fun E σ H ⟨ρ, G, m, s, a, P⟩ => P
        · exact ps_imp ps_never fun E σ H ⟨ρ, G, m, s, a, P⟩ => P
    · exact ss_err
  · exact ss_err
theorem flds_ok (w : Wld X W c T N sc) (f : Str) : ∀ cl ∈ (T.flds.filter fun p => decide (f ∈ p.2)).map (·.1), ClsOk X.K cl f := fun cl hcl => by
  obtain ⟨p, hp, rfl⟩ := List.mem_map.mp hcl
  obtain ⟨hp1, hp2⟩ := List.mem_filter.mp hp
  exact w.flds p.1 p.2 hp1 _ (of_decide_eq_true hp2)
theorem sAssign_ok {rb : Scope → Cm} (w : Wld X W c T N sc) (h : CmOk X W c r) (h0 : CmOk X W0 c r) (hb : ∀ {Y : Cx} {sc' : Scope}, Wld Y W0 c T N sc' → CmOk Y W0 c (rb sc')) (hfn : ∀ x, X.fn x = true) (tg v : Expr) (pos : Pos) : SS X W c (.Assign [tg] v pos) (sAssign T N sc r rb tg v) := by
  unfold sAssign
  split
  · split
    · rename_i x px hv
      refine asg_ok w h h0 hfn hv rfl ?_
      cases v <;> rfl
    · exact sComp_ok w h hb hfn _ _ _ _
  · exact sTup_ok w h h0 hfn _ _ _ _ _
  · split
    · rename_i hv
      exact ss_fld (h.e _) (h.e _) (flds_ok w _) (swaps_ok hv _ _ _)
    · exact ss_err
  · split
    · rename_i o i px hv
      refine asg_ok w h h0 hfn hv rfl ?_
      cases v <;> rfl
    · exact ss_err
  · exact ss_err
theorem stepS_ok {rb : Scope → Cm} {f : Stmt → Stm} (w : Wld X W c T N sc) (h : CmOk X W c r) (h0 : CmOk X W0 c r) (hb : ∀ {Y : Cx} {sc' : Scope}, Wld Y W0 c T N sc' → CmOk Y W0 c (rb sc')) (hfn : ∀ x, X.fn x = true) (hp : PassesOwn (model X.prog X.w) X.A X.env X.xe)
    (hf : ∀ s, SS X W c s (f s)) (s : Stmt) : SS X W c s (stepS T N sc r rb f s) := by
  unfold stepS
  split
  · exact ss_pass
  · exact ss_break
  · exact ss_cont
  · exact ss_retN
  · exact ss_ret (h.e _)
  · exact ss_doc
  · split
    · rename_i hv
      exact ss_expr (h.e _) (swaps_ok hv _ _ _)
    · exact ss_err
  · exact sAssign_ok w h h0 hb hfn _ _ _
  · split
    · rename_i hl
      obtain ⟨h1, h2⟩ := isLoc_ok w hl
      split
      · rename_i g eg
        exact ss_aug (by rw [w.nn]; exact w.nd) h2 h1 (h.e _) (dopI_ok eg) (.inl (hfn _))
      · exact ss_err
    · exact ss_err
  · split
    · rename_i g eg
      exact ss_fldaug (h.e _) (h.e _) (dopI_ok eg) (flds_ok w _)
    · exact ss_err
  · exact ss_if (h.t _) (cSs_ok hf _) (cSs_ok hf _)
  · split
    · rename_i hs
      exact ss_for hp w.calm (h.i _ _) (cG_ok w h0 hfn _) (cSs_ok hf _) (set_ok hs _)
    · exact ss_err
  · exact ss_while hp (h.t _) (cSs_ok hf _)
  · exact ss_err
theorem cS_ok (w : Wld X W c T N sc) (hfn : ∀ x, X.fn x = true) (hp : PassesOwn (model X.prog X.w) X.A X.env X.xe) : ∀ (n : Nat) (s : Stmt), SS X W c s (cS T N sc n s)
  | 0, _ => ss_err
  | n + 1, s => stepS_ok w (cm_ok n w) (cm_ok n w.w0) (cm_ok n) hfn hp (cS_ok w hfn hp n) s
end
end Ev

namespace Ev
open PySem PySem.Spec PyProof.Rows L2

/-! ## 17. The table of defs, and how it runs -/
structure Dn where
  d : He.DefD
  key : Str
  ps : List Str
  N : List Str
  code : Stm
def outR : Out → Res D
  | .ret d g => .ok d g
  | .nx _ g => .ok .non g
  | .exc c fs _ g => .exc c fs g
  | _ => .err
def start0 (N : List Str) (ds : List D) : Env' := ds.map some ++ List.replicate (N.length - ds.length) none
def findD (Ds : List Dn) (key : Str) : Option Dn := Ds.find? fun d => decide (d.key = key)
def run (Ds : List Dn) : Nat → Cal
  | 0 => fun _ _ _ => .err
  | k + 1 => fun key ds g => match findD Ds key with
    | some d => if ds.length = d.ps.length then outR (d.code (run Ds k) (start0 d.N ds) g) else .err
    | none => .err
@[irreducible] def fuelC : Nat := 60
/-- what is seen of a def's text -/
structure DnOk (T : Tab) (d : Dn) : Prop where
  dfl : d.d.dfl = []
  kwd : d.d.kwd = []
  sc : FnScope d.N d.ps d.d.scope
  code : d.code = cSs (cS T d.N d.d.scope 60) d.d.body
  bind : ∀ (kV doc pm : Value) (an : Option Addr) (cdv ct : Value) (us : List Value), us.length = d.ps.length → bindArgs (PySem.W.fnOf d.d.name d.d.qual d.d.params d.d.body d.d.scope .none kV doc pm an cdv ct) ⟨us, []⟩ = pure (d.ps.zip us)
abbrev FnD' (K : PySem.W.Frag) (d : Dn) (fd : FuncData) : Prop := FunD K d.d.name d.d.qual d.d.params d.d.body d.d.scope [] [] (He.fAd K d.d.at_) fd
/-- what is known of the module -/
structure Facts (K : PySem.W.Frag) (mg : Str → Option Value) (T : Tab) (Ds : List Dn) : Prop where
  ok : ∀ key d, findD Ds key = some d → DnOk T d
  fn : ∀ key d, findD Ds key = some d → ∃ fd, FnD' K d fd
  defs : ∀ f n, T.defs.lookup f = some n → mg f = some (.ref (He.ga K f)) ∧ ∃ d, findD Ds f = some d ∧ d.d.at_ = (f, none) ∧ d.ps.length = n
  cls : ∀ C k n, T.cls.lookup C = some (k, n) → mg C = some (.ref (He.ga K C)) ∧ Mk K (He.ga K C) (He.ma K (He.ga K C) "__init__") ∧ ∃ d, findD Ds k = some d ∧ d.d.at_ = (C, some ("__init__" : Str)) ∧ d.ps.length = n + 1
  kws : ∀ f ks ix, (f, ks, ix) ∈ T.kws → mg f = some (.ref (He.ga K f)) ∧ ∃ d, findD Ds f = some d ∧ d.d.at_ = (f, none) ∧ d.ps.length = ix.length ∧ ks.length = ix.length ∧
    ∀ (kV doc pm : Value) (an : Option Addr) (cdv ct : Value) (ws : List Value), ws.length = ks.length → bindArgs (PySem.W.fnOf d.d.name d.d.qual d.d.params d.d.body d.d.scope .none kV doc pm an cdv ct) ⟨[], ks.zip ws⟩ = pure (d.ps.zip (ordK ix ws))
  flds : ∀ C fs, (C, fs) ∈ T.flds → ∀ f ∈ fs, ClsOk K C f
  con : ∀ x d, T.con.lookup x = some d → ∃ v u, mg x = some u ∧ RelV v u ∧ ∀ m H, Rp K m H d v
  blt : ∀ x ∈ T.blt, mg x = none
section
variable {P : Program} {w : World} {K : PySem.W.Frag} {mg : Str → Option Value} {base : Heap} {T : Tab} {Ds : List Dn}
theorem sl_start {m : List Addr} {H : Hp} {N : List Str} {ds : List D} {vs : List V} (r : Rps K m H ds vs) : Sl K m H (start0 N ds) (L2.start N vs) := by
  have hl := Rps.len r
  refine ⟨by simp [start0, L2.start, hl], fun i d e => ?_⟩
  unfold start0 at e
  by_cases hi : i < ds.length
  · rw [List.getElem?_append_left (by simpa using hi), List.getElem?_map] at e
    obtain ⟨x, ex, e2⟩ := Option.map_eq_some_iff.mp e
    cases e2
    obtain ⟨v, ev, rv⟩ := Rps.get r ex
    refine ⟨v, ?_, rv⟩
    unfold L2.start
    rw [List.getElem?_append_left (by simp; omega), List.getElem?_map, ev]
    rfl
  · rw [List.getElem?_append_right (by simpa using Nat.le_of_not_lt hi), List.getElem?_replicate] at e
    split at e <;> cases e
theorem binds_of {d : Dn} {fd : FuncData} (F : FnD' K d fd) (ok : DnOk T d) : Binds K fd d.ps [] := FunD.bindsN (ps := d.ps) F ok.bind
theorem run_ok (X : Facts K mg T Ds) : ∀ (k : Nat) {key : Str} {d : Dn}, findD Ds key = some d → ∀ {fd : FuncData}, FnD' K d fd → FnOk P w K mg base L2.CX0 (2 * k) (He.fAd K d.d.at_) fd d.ps (spOf K d.ps.length (run Ds k key))
  | 0, key, d, hd, fd, F => ⟨fun vs H Q E ⟨m, G, ds, hl, a, r, p⟩ => p.elim, fun A outer s H args us vs Q E hr he hb hv ⟨m, G, ds, hl, a, r, p⟩ => p.elim⟩
  | k + 1, key, d, hd, fd, F => by
    have ok := X.ok key d hd
    have IH := fun {key' : Str} {d' : Dn} (h : findD Ds key' = some d') {fd' : FuncData} (F' : FnD' K d' fd') => run_ok X k h F'
    have len : ∀ vs H Q E, spOf K d.ps.length (run Ds (k + 1) key) vs H Q E → vs.length = d.ps.length := fun vs H Q E ⟨m, G, ds, hl, a, r, p⟩ => by rw [← Rps.len r, hl]
    refine FunD.ok (k := 2 * k + 1) F ok.sc len fun cdv A outer s H vs Q E hr ⟨m, G, ds, hl, a, r, p⟩ => ?_
    have pass : ∀ (X' : Cx) (σ : L2.St) (E' : XK), PassesAt L2.CX0 X' σ E' := fun X' σ E' pins H s e s' I h => h.elim
    let Y : Cx := (cxOf L2.CX0 P w K mg base d.N d.d.qual d.d.scope (He.fAd K d.d.at_) cdv A outer s H E).nox
    have own : ∀ {key' : Str} {d' : Dn}, findD Ds key' = some d' → OwnF Y (fun u o σ H => E u o H) (He.fAd K d'.d.at_) d'.ps.length (run Ds k key') := fun {key' d'} h => by
      obtain ⟨fd', F'⟩ := X.fn key' d' h
      exact ⟨L2.CX0, 2 * k, fd', d'.ps, IH h F', hr, binds_of F' (X.ok key' d' h), fun σ => pass _ _ _, fun X' σ => pass _ _ _⟩
    have W : Wld Y (fun u o σ H => E u o H) (run Ds k) T d.N d.d.scope := {
      nn := rfl
      nd := ok.sc.nd
      sc := rfl
      calm := rfl
      hu := by have := hr.un; show (A.deeper _).units + 70 < cLine; omega
      defs := fun f n e => by
        obtain ⟨h1, d', h2, h3, h4⟩ := X.defs f n e
        obtain ⟨fd', F'⟩ := X.fn f d' h2
        have o := own h2
        rw [h4] at o
        refine ⟨He.fAd K d'.d.at_, ?_, F'.kp, o⟩
        rw [h3]
        exact h1
      kws := fun f ks ix e => by
        obtain ⟨h1, d', h2, h3, h4, h5, h6⟩ := X.kws f ks ix e
        obtain ⟨fd', F'⟩ := X.fn f d' h2
        refine ⟨He.fAd K d'.d.at_, by rw [h3]; exact h1, F'.kp, L2.CX0, 2 * k, fd', d'.ps, ?_, hr, ?_, h5, fun σ => pass _ _ _, fun X' σ => pass _ _ _⟩
        · rw [← h4]
          exact IH h2 F'
        · intro s ws hK hws
          obtain ⟨oc, od, dV, kV, doc, pm, an, cdv, ct, osl, rfl, lk, hcd, hD, hKw⟩ := F'.ex
          rcases hD with ⟨_, rfl⟩ | ⟨e, _⟩
          · exact .of_eq (h6 kV doc pm an cdv ct ws hws)
          · exact absurd rfl e
      cls := fun C k' n e => by
        obtain ⟨h1, h2, d', h3, h4, h5⟩ := X.cls C k' n e
        have o := own h3
        rw [h5, h4] at o
        exact ⟨_, h2, o, h1⟩
      flds := X.flds
      con := X.con
      blt := X.blt }
    refine ⟨LS K (fun u o σ H => E u o H) (d.code (run Ds k)), PSs.nox ?_, start0 d.N ds, G, m, sl_start r, a, ?_⟩
    · rw [ok.code]
      exact cSs_ok (cS_ok W (fun _ => rfl) PassesOwn.never 60) d.d.body
    · have p : PostR (Rp K) K (fun u o _ H => E u o H) m H [] Q (run Ds (k + 1) key ds G) := p
      unfold run at p
      rw [hd] at p
      dsimp only at p
      rw [if_pos hl] at p
      revert p
      cases d.code (run Ds k) (start0 d.N ds) G with
      | nx ρ g => exact fun p m' H' σ' f a s => p m' H' .non f a rfl
      | ret v g => exact fun p => p
      | bk ρ g => exact fun p => p.elim
      | ct ρ g => exact fun p => p.elim
      | exc c fs ρ g => exact fun p m' H' σ' o vs f a s e => p m' H' o vs f a e
      | err => exact fun p => p.elim
/-- the law's def: it answers True, so told by the plain functions -/
theorem law_ok (X : Facts K mg T Ds) {k n : Nat} {d : Dn} (hd : findD Ds "law" = some d) (hp : d.ps = ([("script" : Str)])) (hlaw : mg "law" = some (.ref (He.fAd K d.d.at_)))
    (hrun : ∀ ns : List Int, ns.length ≤ n → ∃ g, run Ds k "law" [.scr (ns.map .int)] [] = .ok (.bl true) g) :
    ∃ fd : FuncData, (∀ (s : Shared) (u : Value), BindsTo s fd ⟨[u], []⟩ [(("script" : Str), u)]) ∧
      (∀ (H : Hp) (a : Addr) (ns : List Int), ns.length ≤ n → Only H → SqL K H a (ns.map V.int) → spOf K 1 (run Ds k "law") [.ref a] H (fun v _ => v = .bl true) fun _ _ _ => False) ∧
      ∀ base : Heap, K.In base → base.Ns mainGlobals mg → FnOk P w K mg base L2.CX0 (2 * k) (He.fAd K d.d.at_) fd ([("script" : Str)]) (spOf K 1 (run Ds k "law")) := by
  obtain ⟨fd, F⟩ := X.fn _ d hd
  have ok := X.ok _ d hd
  refine ⟨fd, fun s u => ?_, fun H a ns hn ho hs => ?_, fun base _ _ => ?_⟩
  · have := FunD.bindsA (ps := d.ps) F ok.bind s [u] (by rw [hp]; rfl)
    rw [hp] at this
    exact this
  · obtain ⟨g, e⟩ := hrun ns hn
    refine ⟨[], [], [.scr (ns.map .int)], rfl, ⟨rfl, List.nodup_nil, fun i o h => by simp at h⟩, ?_, ?_⟩
    · refine Rps.cons ⟨a, ns.map V.int, rfl, ?_, ?_⟩ Rps.nil
      · rcases hs with (h | ⟨o, h⟩) | h
        · rcases ho a with e | ⟨o, xs, e⟩
          · rw [e] at h; cases h
          · rw [e] at h; cases h
        · exact .inl ⟨o, h⟩
        · exact .inr (.inr h)
      · induction ns with
        | nil => exact Rps.nil
        | cons i ns ih =>
          clear hn hs e
          rw [List.map_cons, List.map_cons]
          refine Rps.cons rfl ?_
          clear ih
          induction ns with
          | nil => exact Rps.nil
          | cons j ns ih => exact Rps.cons rfl ih
    · rw [e]
      exact fun m' H' v f a r => r
  · have h := run_ok (P := P) (w := w) (base := base) X k hd F
    rw [hp] at h
    exact h
end
end Ev

namespace Ev
open PySem PySem.Spec PyProof.Rows L2

/-! ## 18. What the head's facts give -/
def isGlo (x : Str) : He.Fa → Bool
  | .glo y => decide (y = x)
  | _ => false
def isMkr (x : Str) : He.Fa → Bool
  | .mkr y => decide (y = x)
  | _ => false
def isCls (x : Str) : He.Fa → Bool
  | .cls y => decide (y = x)
  | _ => false
def isNoat (x f : Str) : He.Fa → Bool
  | .noat y g => decide (y = x) && decide (g = f)
  | _ => false
def isInt (x : Str) (i : Int) : He.Fa → Bool
  | .int y j => decide (y = x) && decide (j = i)
  | _ => false
def isStr (x z : Str) : He.Fa → Bool
  | .str y w => decide (y = x) && decide (w = z)
  | _ => false
def isFree (x : Str) : He.Fa → Bool
  | .free y => decide (y = x)
  | _ => false
def atIs (Ds : List Dn) (key : Str) (at_ : Str × Option Str) (n : Nat) : Bool := match findD Ds key with
  | some d => decide (d.d.at_ = at_) && decide (d.ps.length = n)
  | none => false
def chk (fa : List He.Fa) (T : Tab) (Ds : List Dn) : Bool :=
  T.defs.all (fun p => fa.any (isGlo p.1) && atIs Ds p.1 (p.1, none) p.2) &&
  (T.cls.all (fun p => fa.any (isGlo p.1) && fa.any (isMkr p.1) && atIs Ds p.2.1 (p.1, some "__init__") (p.2.2 + 1)) &&
  (T.kws.all (fun p => fa.any (isGlo p.1) && atIs Ds p.1 (p.1, none) p.2.2.length && decide (p.2.1.length = p.2.2.length)) &&
  (T.flds.all (fun p => fa.any (isCls p.1) && p.2.all fun f => fa.any (isNoat p.1 f)) &&
  (T.con.all (fun p => match p.2 with
    | .int i => fa.any (isInt p.1 i)
    | .str z => fa.any (isStr p.1 z)
    | _ => false) &&
  T.blt.all (fun x => fa.any (isFree x))))))
section
variable {K : PySem.W.Frag} {mg : Str → Option Value} {T : Tab} {Ds : List Dn} {fa : List He.Fa} {fn : List He.DefD} {h : Heap}
theorem says_mem (c : He.SaysD fa fn K) {f : He.Fa} (hf : f ∈ fa) : f.ok K = true := by
  obtain ⟨i, hi⟩ := List.mem_iff_getElem?.mp hf
  exact c.fact i hi
theorem has_glo (c : He.SaysD fa fn K) {x : Str} (e : fa.any (isGlo x) = true) : (He.Fa.glo x).ok K = true := by
  obtain ⟨f, hf, e⟩ := List.any_eq_true.mp e
  cases f <;> first | (cases e; done) | skip
  rw [← of_decide_eq_true e]
  exact says_mem c hf
theorem has_mkr (c : He.SaysD fa fn K) {x : Str} (e : fa.any (isMkr x) = true) : (He.Fa.mkr x).ok K = true := by
  obtain ⟨f, hf, e⟩ := List.any_eq_true.mp e
  cases f <;> first | (cases e; done) | skip
  rw [← of_decide_eq_true e]
  exact says_mem c hf
theorem has_cls (c : He.SaysD fa fn K) {x : Str} (e : fa.any (isCls x) = true) : (He.Fa.cls x).ok K = true := by
  obtain ⟨f, hf, e⟩ := List.any_eq_true.mp e
  cases f <;> first | (cases e; done) | skip
  rw [← of_decide_eq_true e]
  exact says_mem c hf
theorem has_free (c : He.SaysD fa fn K) {x : Str} (e : fa.any (isFree x) = true) : (He.Fa.free x).ok K = true := by
  obtain ⟨f, hf, e⟩ := List.any_eq_true.mp e
  cases f <;> first | (cases e; done) | skip
  rw [← of_decide_eq_true e]
  exact says_mem c hf
theorem has_noat (c : He.SaysD fa fn K) {x y : Str} (e : fa.any (isNoat x y) = true) : (He.Fa.noat x y).ok K = true := by
  obtain ⟨f, hf, e⟩ := List.any_eq_true.mp e
  cases f <;> first | (cases e; done) | skip
  obtain ⟨e1, e2⟩ := Bool.and_eq_true_iff.mp e
  rw [← of_decide_eq_true e1, ← of_decide_eq_true e2]
  exact says_mem c hf
theorem has_int (c : He.SaysD fa fn K) {x : Str} {i : Int} (e : fa.any (isInt x i) = true) : (He.Fa.int x i).ok K = true := by
  obtain ⟨f, hf, e⟩ := List.any_eq_true.mp e
  cases f <;> first | (cases e; done) | skip
  obtain ⟨e1, e2⟩ := Bool.and_eq_true_iff.mp e
  rw [← of_decide_eq_true e1, ← of_decide_eq_true e2]
  exact says_mem c hf
theorem has_str (c : He.SaysD fa fn K) {x y : Str} (e : fa.any (isStr x y) = true) : (He.Fa.str x y).ok K = true := by
  obtain ⟨f, hf, e⟩ := List.any_eq_true.mp e
  cases f <;> first | (cases e; done) | skip
  obtain ⟨e1, e2⟩ := Bool.and_eq_true_iff.mp e
  rw [← of_decide_eq_true e1, ← of_decide_eq_true e2]
  exact says_mem c hf
theorem atIs_ok {key : Str} {a : Str × Option Str} {n : Nat} (e : atIs Ds key a n = true) : ∃ d, findD Ds key = some d ∧ d.d.at_ = a ∧ d.ps.length = n := by
  unfold atIs at e
  split at e
  · rename_i d ed
    obtain ⟨e1, e2⟩ := Bool.and_eq_true_iff.mp e
    exact ⟨d, ed, of_decide_eq_true e1, of_decide_eq_true e2⟩
  · cases e
theorem facts_of (X : K.In h) (G : h.Ns mainGlobals mg) (c : He.SaysD fa fn K) (hd : Ds.map (·.d) = fn) (ok : ∀ d ∈ Ds, DnOk T d) (e : chk fa T Ds = true)
    (hk : ∀ f ks ix, (f, ks, ix) ∈ T.kws → ∀ d, findD Ds f = some d → ∀ (kV doc pm : Value) (an : Option Addr) (cdv ct : Value) (ws : List Value), ws.length = ks.length →
      bindArgs (PySem.W.fnOf d.d.name d.d.qual d.d.params d.d.body d.d.scope .none kV doc pm an cdv ct) ⟨[], ks.zip ws⟩ = pure (d.ps.zip (ordK ix ws))) : Facts K mg T Ds := by
  unfold chk at e
  obtain ⟨e1, e⟩ := Bool.and_eq_true_iff.mp e
  obtain ⟨e2, e⟩ := Bool.and_eq_true_iff.mp e
  obtain ⟨e3, e⟩ := Bool.and_eq_true_iff.mp e
  obtain ⟨e4, e⟩ := Bool.and_eq_true_iff.mp e
  obtain ⟨e5, e6⟩ := Bool.and_eq_true_iff.mp e
  rw [List.all_eq_true] at e1 e2 e3 e4 e5 e6
  have mem : ∀ {key d}, findD Ds key = some d → d ∈ Ds := fun hf => List.mem_of_find?_eq_some hf
  refine ⟨fun key d hf => ok d (mem hf), fun key d hf => ?_, fun f n hl => ?_, fun C k n hl => ?_, fun f ks ix hm => ?_, fun C fs hm f hf => ?_, fun x d hl => ?_, fun x hx => He.free_ok X G (has_free c (e6 x hx))⟩
  · have hm : d.d ∈ fn := by rw [← hd]; exact List.mem_map.mpr ⟨d, mem hf, rfl⟩
    obtain ⟨i, hi⟩ := List.mem_iff_getElem?.mp hm
    obtain ⟨fd, F⟩ := c.def_ i hi
    have o := ok d (mem hf)
    unfold He.DefD.dvs He.DefD.kws at F
    rw [o.dfl, o.kwd] at F
    exact ⟨fd, F⟩
  · obtain ⟨a1, a2⟩ := Bool.and_eq_true_iff.mp (e1 _ (PySem.mem_of_lookup hl))
    exact ⟨He.glo_ok X G (has_glo c a1), atIs_ok a2⟩
  · obtain ⟨a1, a2⟩ := Bool.and_eq_true_iff.mp (e2 _ (PySem.mem_of_lookup hl))
    obtain ⟨a0, a1⟩ := Bool.and_eq_true_iff.mp a1
    exact ⟨He.glo_ok X G (has_glo c a0), He.mkr_ok (has_mkr c a1), atIs_ok a2⟩
  · obtain ⟨a1, a2⟩ := Bool.and_eq_true_iff.mp (e3 _ hm)
    obtain ⟨a0, a1⟩ := Bool.and_eq_true_iff.mp a1
    obtain ⟨d, h1, h2, h3⟩ := atIs_ok a1
    exact ⟨He.glo_ok X G (has_glo c a0), d, h1, h2, h3, of_decide_eq_true a2, hk f ks ix hm d h1⟩
  · obtain ⟨a1, a2⟩ := Bool.and_eq_true_iff.mp (e4 _ hm)
    rw [List.all_eq_true] at a2
    exact ⟨He.cls_ok (has_cls c a1), He.noat_ok (has_noat c (a2 f hf))⟩
  · have a := e5 _ (PySem.mem_of_lookup hl)
    cases d with
    | int i =>
      obtain ⟨t, ht⟩ := He.int_ok X G (has_int c a)
      exact ⟨.int i, _, ht, ⟨t, rfl⟩, fun _ _ => rfl⟩
    | str z =>
      obtain ⟨t, ht⟩ := He.str_ok X G (has_str c a)
      exact ⟨.str z, _, ht, ⟨t, rfl⟩, fun _ _ => rfl⟩
    | _ => cases a
end
end Ev

namespace Ev
open PySem PySem.Spec PyProof.Rows L2

/-! ## 23. Reckoning with what runs: posts -/
def Tr {α : Type} (x : Res α) (Q : α → Hh → Prop) : Prop := match x with
  | .ok a g => Q a g
  | _ => False
def TO (x : Option (D × Hh)) (Q : D → Hh → Prop) : Prop := match x with
  | some p => Q p.1 p.2
  | none => False
structure Po where
  n : Env' → Hh → Prop
  r : D → Hh → Prop
  b : Env' → Hh → Prop
  c : Env' → Hh → Prop
def TS (o : Out) (P : Po) : Prop := match o with
  | .nx ρ g => P.n ρ g
  | .ret d g => P.r d g
  | .bk ρ g => P.b ρ g
  | .ct ρ g => P.c ρ g
  | _ => False
section
variable {α β : Type} {Q : α → Hh → Prop} {Q' : β → Hh → Prop} {P : Po}
theorem Tr_ok (a : α) (g : Hh) : Tr (.ok a g) Q = Q a g := (rfl)
theorem Tr_err : Tr (.err : Res α) Q = False := (rfl)
theorem Tr_bind (x : Res β) (f : β → Hh → Res α) : Tr (x.bind f) Q = Tr x fun b g => Tr (f b g) Q := by cases x <;> rfl
theorem Tr_of (x : Option (D × Hh)) {Q : D → Hh → Prop} : Tr (Res.of x) Q = TO x Q := by cases x <;> rfl
theorem TO_some (p : D × Hh) {Q : D → Hh → Prop} : TO (some p) Q = Q p.1 p.2 := (rfl)
theorem TO_none {Q : D → Hh → Prop} : TO none Q = False := (rfl)
theorem TS_nx (ρ : Env') (g : Hh) : TS (.nx ρ g) P = P.n ρ g := (rfl)
theorem TS_ret (d : D) (g : Hh) : TS (.ret d g) P = P.r d g := (rfl)
theorem TS_bk (ρ : Env') (g : Hh) : TS (.bk ρ g) P = P.b ρ g := (rfl)
theorem TS_ct (ρ : Env') (g : Hh) : TS (.ct ρ g) P = P.c ρ g := (rfl)
theorem TS_err : TS .err P = False := (rfl)
theorem TS_out (x : Res D) (ρ : Env') (k : D → Hh → Out) : TS (x.out ρ k) P = Tr x fun d g => TS (k d g) P := by cases x <;> rfl
theorem TS_outB (x : Res Bool) (ρ : Env') (k : Bool → Hh → Out) : TS (x.outB ρ k) P = Tr x fun d g => TS (k d g) P := by cases x <;> rfl
theorem TS_outT (x : Res Env') (k : Env' → Hh → Out) : TS (x.outT k) P = Tr x fun d g => TS (k d g) P := by cases x <;> rfl
theorem Tr_outR (o : Out) {Q : D → Hh → Prop} : Tr (outR o) Q = TS o ⟨fun _ g => Q .non g, Q, fun _ _ => False, fun _ _ => False⟩ := by cases o <;> rfl
theorem TS_seq (a b : Stm) (c : Cal) (ρ : Env') (g : Hh) : TS (sSeq a b c ρ g) P = TS (a c ρ g) ⟨fun ρ g => TS (b c ρ g) P, P.r, P.b, P.c⟩ := by
  unfold sSeq
  cases a c ρ g <;> rfl
theorem TS_for (it : Itx) (tg : Tg) (body : Stm) (c : Cal) (ρ : Env') (g : Hh) : TS (sFor it tg body c ρ g) P = Tr (it c ρ g) fun s g => TS (forLoop s.keep (tg c) (body c) s.items ρ g) P := by
  unfold sFor
  cases it c ρ g <;> rfl
theorem TS_if (t : Tst) (a b : Stm) (c : Cal) (ρ : Env') (g : Hh) : TS (sIf t a b c ρ g) P = Tr (t c ρ g) fun k g => if k = true then TS (a c ρ g) P else TS (b c ρ g) P := by
  unfold sIf
  rw [TS_outB]
  congr 1
  funext k g
  split <;> rfl
theorem TS_par (is : List Nat) (r : Arg) (c : Cal) (ρ : Env') (g : Hh) : TS (sPar is r c ρ g) P = Tr (r c ρ g) fun ds g => if ds.length = is.length then P.n ((is.zip ds).foldl (fun ρ p => ρ.set p.1 (some p.2)) ρ) g else False := by
  unfold sPar
  cases r c ρ g with
  | ok a g =>
    show TS (if _ then _ else _) P = if _ then _ else _
    split <;> rfl
  | _ => rfl
theorem Tr_if (p : Prop) [Decidable p] (x y : Res α) : Tr (if p then x else y) Q = if p then Tr x Q else Tr y Q := by split <;> rfl
theorem TO_if (p : Prop) [Decidable p] (x y : Option (D × Hh)) {Q : D → Hh → Prop} : TO (if p then x else y) Q = if p then TO x Q else TO y Q := by split <;> rfl
theorem TO_map {γ : Type} (x : Option γ) (f : γ → D × Hh) {Q : D → Hh → Prop} : TO (x.map f) Q = match x with
    | some y => Q (f y).1 (f y).2
    | none => False := by cases x <;> rfl
theorem Tr_lc (vs : List Nat) (it : Itx) (tg : Tg) (ifs : Tst) (elt : Exp) (c : Cal) (ρ : Env') (g : Hh) {Q : D → Hh → Prop} : Tr (eLc vs it tg ifs elt c ρ g) Q =
    Tr (it c ρ g) fun s g => match compLoop s.keep (tg c) (ifs c) (elt c) g.length (wipeD ρ vs) s.items (g ++ [.lst []]) with
      | some g' => Q (.ref g.length) g'
      | none => False := by
  unfold eLc
  cases it c ρ g with
  | ok s g =>
    show Tr (match compLoop _ _ _ _ _ _ _ _ with | some g' => _ | none => _) Q = match compLoop _ _ _ _ _ _ _ _ with | some g' => _ | none => _
    cases compLoop s.keep (tg c) (ifs c) (elt c) g.length (wipeD ρ vs) s.items (g ++ [.lst []]) <;> rfl
  | _ => rfl
theorem Tr.mono {x : Res α} {Q Q' : α → Hh → Prop} (h : Tr x Q) (i : ∀ a g, Q a g → Q' a g) : Tr x Q' := by
  cases x with
  | ok a g => exact i a g h
  | _ => exact h
theorem TO.mono {x : Option (D × Hh)} {Q Q' : D → Hh → Prop} (h : TO x Q) (i : ∀ a g, Q a g → Q' a g) : TO x Q' := by
  cases x with
  | some p => exact i _ _ h
  | none => exact h
theorem TS.mono {o : Out} {P P' : Po} (h : TS o P) (n : ∀ ρ g, P.n ρ g → P'.n ρ g) (r : ∀ d g, P.r d g → P'.r d g) (b : ∀ ρ g, P.b ρ g → P'.b ρ g) (c : ∀ ρ g, P.c ρ g → P'.c ρ g) : TS o P' := by
  cases o with
  | nx ρ g => exact n ρ g h
  | ret d g => exact r d g h
  | bk ρ g => exact b ρ g h
  | ct ρ g => exact c ρ g h
  | _ => exact h
end
/-! ### what is kept -/
/-- everything but the things S stays; more may lie behind -/
structure Kp (S : List Nat) (g g' : Hh) : Prop where
  len : g.length ≤ g'.length
  at_ : ∀ i, i < g.length → i ∉ S → g'[i]? = g[i]?
section
variable {S S' : List Nat} {g g' g'' : Hh} {i : Nat} {o o' : Ob}
theorem Kp.refl : Kp S g g := ⟨Nat.le_refl _, fun _ _ _ => rfl⟩
theorem Kp.trans (a : Kp S g g') (b : Kp S g' g'') : Kp S g g'' := ⟨Nat.le_trans a.len b.len, fun i h n => (b.at_ i (Nat.lt_of_lt_of_le h a.len) n).trans (a.at_ i h n)⟩
theorem Kp.mono (a : Kp S g g') (h : ∀ i ∈ S, i ∈ S') : Kp S' g g' := ⟨a.len, fun i l n => a.at_ i l fun z => n (h i z)⟩
theorem Kp.nil (a : Kp [] g g') : Kp S g g' := a.mono fun _ h => nomatch h
/-- what is new may change as well -/
theorem Kp.new (a : Kp S' g g') (h : ∀ i ∈ S', i ∈ S ∨ g.length ≤ i) : Kp S g g' := ⟨a.len, fun i l n => a.at_ i l fun z => (h i z).elim n fun q => absurd l (Nat.not_lt.mpr q)⟩
theorem Kp.app (e : Hh) : Kp S g (g ++ e) := ⟨by simp, fun i h _ => List.getElem?_append_left h⟩
theorem Kp.set (h : i ∈ S) : Kp S g (g.set i o) := ⟨by simp, fun j _ n => List.getElem?_set_ne fun z => n (by rw [← z]; exact h)⟩
theorem Kp.get (a : Kp S g g') (h : g[i]? = some o) (n : i ∉ S) : g'[i]? = some o := by
  rw [a.at_ i (List.getElem?_eq_some_iff.mp h).1 n]
  exact h
theorem lt_of_get (h : g[i]? = some o) : i < g.length := (List.getElem?_eq_some_iff.mp h).1
theorem get_new : (g ++ [o])[g.length]? = some o := by simp
theorem get_set (h : i < g.length) : (g.set i o)[i]? = some o := List.getElem?_set_self h
theorem stable_nil : stable [] g = true := (rfl)
theorem stable_one {n : Nat} (h : g[n]? = some o) : stable [(n, o)] g = true := by
  simp [stable, h]
theorem stable_kp {keep : List (Nat × Ob)} (h : stable keep g = true) (a : Kp S g g') (n : ∀ p ∈ keep, p.1 ∉ S) : stable keep g' = true := by
  unfold stable at *
  rw [List.all_eq_true] at *
  intro p hp
  have := of_decide_eq_true (h p hp)
  exact decide_eq_true (a.get this (n p hp))
end
/-! ### loops -/
/-- a for loop: I of what is left, the slots, the heap -/
theorem for_ok {keep : List (Nat × Ob)} {tg : D → Env' → Hh → Res Env'} {body : Env' → Hh → Out} {P : Po} (I : List D → Env' → Hh → Prop) (st : ∀ l ρ g, I l ρ g → stable keep g = true)
    (step : ∀ d l ρ g, I (d :: l) ρ g → Tr (tg d ρ g) fun ρ g => TS (body ρ g) ⟨I l, P.r, P.n, I l⟩) (fin : ∀ ρ g, I [] ρ g → P.n ρ g) :
    ∀ (l : List D) (ρ : Env') (g : Hh), I l ρ g → TS (forLoop keep tg body l ρ g) P
  | [], ρ, g, h => by
    unfold forLoop
    rw [if_pos (st _ _ _ h)]
    exact fin ρ g h
  | d :: l, ρ, g, h => by
    unfold forLoop
    rw [if_pos (st _ _ _ h), TS_outT]
    refine (step d l ρ g h).mono fun ρ1 g1 q => ?_
    revert q
    cases body ρ1 g1 with
    | nx ρ g => exact fun q => for_ok I st step fin l ρ g q
    | ct ρ g => exact fun q => for_ok I st step fin l ρ g q
    | bk ρ g => exact fun q => q
    | ret d g => exact fun q => q
    | _ => exact fun q => q
theorem fuelW_big : 2 ^ 64 ≤ fuelW := by
  show 2 ^ 64 ≤ fuelW
  delta fuelW
  generalize h : (4096 : Nat) = n
  exact Nat.pow_le_pow_right (by decide) (by omega)
theorem while_go {t : Env' → Hh → Res Bool} {body : Env' → Hh → Out} {P : Po} (I : Nat → Env' → Hh → Prop)
    (step : ∀ n ρ g, I n ρ g → Tr (t ρ g) fun k g => if k = true then TS (body ρ g) ⟨fun ρ g => ∃ m, m < n ∧ I m ρ g, P.r, P.n, fun ρ g => ∃ m, m < n ∧ I m ρ g⟩ else P.n ρ g) :
    ∀ (f n : Nat) (ρ : Env') (g : Hh), n < f → I n ρ g → TS (whileLoop t body f ρ g) P
  | 0, n, _, _, h, _ => absurd h (Nat.not_lt_zero _)
  | f + 1, n, ρ, g, h, i => by
    unfold whileLoop
    rw [TS_outB]
    refine (step n ρ g i).mono fun k g1 q => ?_
    by_cases hk : k = true
    · rw [if_pos hk] at q ⊢
      revert q
      cases body ρ g1 with
      | nx ρ g => exact fun ⟨m, l, q⟩ => while_go I step f m ρ g (by omega) q
      | ct ρ g => exact fun ⟨m, l, q⟩ => while_go I step f m ρ g (by omega) q
      | bk ρ g => exact fun q => q
      | ret d g => exact fun q => q
      | _ => exact fun q => q
    · rw [if_neg hk] at q ⊢
      exact q
/-- a while loop: I of a measure, the slots, the heap -/
theorem while_ok {t : Tst} {body : Stm} {c : Cal} {ρ : Env'} {g : Hh} {P : Po} (I : Nat → Env' → Hh → Prop) (n : Nat) (hn : n < 2 ^ 64)
    (step : ∀ n ρ g, I n ρ g → Tr (t c ρ g) fun k g => if k = true then TS (body c ρ g) ⟨fun ρ g => ∃ m, m < n ∧ I m ρ g, P.r, P.n, fun ρ g => ∃ m, m < n ∧ I m ρ g⟩ else P.n ρ g)
    (h : I n ρ g) : TS (sWhile t body c ρ g) P := while_go I step fuelW n ρ g (Nat.lt_of_lt_of_le hn fuelW_big) h
/-- a comprehension: I of what is left, what was made, the heap -/
theorem comp_go {keep : List (Nat × Ob)} {tg : D → Env' → Hh → Res Env'} {ifs : Env' → Hh → Res Bool} {elt : Env' → Hh → Res D} {n : Nat} {ρ : Env'} {Q : Hh → Prop} (I : List D → List D → Hh → Prop)
    (st : ∀ l ys g, I l ys g → stable keep g = true ∧ g[n]? = some (.lst ys))
    (step : ∀ d l ys g, I (d :: l) ys g → Tr (tg d ρ g) fun ρ1 g1 => Tr (ifs ρ1 g1) fun k g2 => if k = true then Tr (elt ρ1 g2) fun y g3 => g3[n]? = some (.lst ys) ∧ ys.length < sizeLine ∧ I l (ys ++ [y]) (g3.set n (.lst (ys ++ [y]))) else I l ys g2)
    (fin : ∀ ys g, I [] ys g → Q g) : ∀ (l ys : List D) (g : Hh), I l ys g → match compLoop keep tg ifs elt n ρ l g with
      | some g' => Q g'
      | none => False
  | [], ys, g, h => by
    unfold compLoop
    rw [if_pos (st _ _ _ h).1]
    exact fin ys g h
  | d :: l, ys, g, h => by
    unfold compLoop
    rw [if_pos (st _ _ _ h).1]
    have := step d l ys g h
    revert this
    cases tg d ρ g with
    | ok ρ1 g1 =>
      dsimp only
      intro q
      have q : Tr (ifs ρ1 g1) _ := q
      revert q
      cases ifs ρ1 g1 with
      | ok k g2 =>
        cases k with
        | true =>
          dsimp only
          intro q
          have q : Tr (elt ρ1 g2) _ := q
          revert q
          cases elt ρ1 g2 with
          | ok y g3 =>
            dsimp only
            intro q
            obtain ⟨q1, q2, q3⟩ := q
            rw [q1]
            dsimp only
            rw [if_pos q2]
            exact comp_go I st step fin l _ _ q3
          | exc _ _ _ => exact fun q => q.elim
          | err => exact fun q => q.elim
        | false =>
          dsimp only
          intro q
          exact comp_go I st step fin l ys g2 q
      | exc _ _ _ => exact fun q => q.elim
      | err => exact fun q => q.elim
    | exc _ _ _ => exact fun q => q.elim
    | err => exact fun q => q.elim
/-- a comprehension whose parts only add things: each item gives what f says -/
theorem comp_map {keep : List (Nat × Ob)} {tg : D → Env' → Hh → Res Env'} {ifs : Env' → Hh → Res Bool} {elt : Env' → Hh → Res D} {ρ : Env'} {g0 : Hh} (f : D → Option D) (items : List D) (hl : items.length ≤ sizeLine) (hk : stable keep g0 = true)
    (step : ∀ d ∈ items, ∀ g, Kp [g0.length] g0 g → Tr (tg d ρ g) fun ρ1 g1 => Kp [] g g1 ∧ Tr (ifs ρ1 g1) fun k g2 => Kp [] g1 g2 ∧ if k = true then Tr (elt ρ1 g2) fun y g3 => Kp [] g2 g3 ∧ f d = some y else f d = none) :
    match compLoop keep tg ifs elt g0.length ρ items (g0 ++ [.lst []]) with
      | some g' => Kp [] g0 g' ∧ g'[g0.length]? = some (.lst (items.filterMap f))
      | none => False := by
  have keeps : ∀ p ∈ keep, p.1 < g0.length := fun p hp => by
    unfold stable at hk
    rw [List.all_eq_true] at hk
    exact lt_of_get (of_decide_eq_true (hk p hp))
  refine comp_go (fun l ys g => ∃ done, items = done ++ l ∧ ys = done.filterMap f ∧ Kp [g0.length] g0 g ∧ g[g0.length]? = some (.lst ys)) (fun l ys g ⟨done, _, _, k, h⟩ => ⟨stable_kp hk k fun p hp z => ?_, h⟩) ?_ ?_ items [] (g0 ++ [.lst []]) ⟨[], rfl, rfl, (Kp.app _), get_new⟩
  · rw [List.mem_singleton] at z
    have := keeps p hp
    omega
  · rintro d l ys g ⟨done, e, rfl, k, h⟩
    refine (step d (by rw [e]; simp) g k).mono fun ρ1 g1 ⟨k1, q⟩ => q.mono fun b g2 ⟨k2, q⟩ => ?_
    have h2 : g2[g0.length]? = some (.lst (done.filterMap f)) := (k1.trans k2).get h (by simp)
    have kk : Kp [g0.length] g0 g2 := k.trans (k1.trans k2).nil
    cases b with
    | true =>
      rw [if_pos rfl] at q ⊢
      refine q.mono fun y g3 ⟨k3, e3⟩ => ?_
      have h3 := k3.get h2 (by simp)
      have l3 := lt_of_get h3
      refine ⟨h3, ?_, done ++ [d], by simp [e], by simp [List.filterMap_append, e3], (kk.trans k3.nil).trans (Kp.set (by simp)), get_set l3⟩
      have := List.length_filterMap_le f done
      have : done.length < items.length := by rw [e]; simp
      omega
    | false =>
      rw [if_neg Bool.false_ne_true] at q ⊢
      exact ⟨done ++ [d], by simp [e], by simp [List.filterMap_append, q], kk, h2⟩
  · rintro ys g ⟨done, e, rfl, k, h⟩
    rw [List.append_nil] at e
    subst e
    exact ⟨k.new (fun i hi => .inr (by rw [List.mem_singleton.mp hi]; exact Nat.le_refl _)), h⟩
/-! ### pieces -/
theorem bm_append : bmT "list" "append" = some mAppend := by kernel_rfl
theorem bm_pop : bmT "list" "pop" = some mPop := by kernel_rfl
theorem bm_extend : bmT "list" "extend" = some mExtend := by kernel_rfl
theorem bm_count : bmT "list" "count" = some mCount := by kernel_rfl
section
variable {Q : D → Hh → Prop} {g : Hh} {n : Nat} {xs : List D} {i j : Int} {d : D}
theorem at0 {a : D} {l : List D} : atI (a :: l) 0 = some a := by simp [atI, ixN]
theorem atN {l : List D} {k : Nat} {a : D} (h : l[k]? = some a) : atI l (k : Int) = some a := by
  have hk := (List.getElem?_eq_some_iff.mp h).1
  unfold atI ixN
  rw [if_pos (by omega), if_pos (by omega)]
  exact h
theorem at1 {a b : D} {l : List D} : atI (a :: b :: l) 1 = some b := atN (k := 1) rfl
theorem at2 {a b c : D} {l : List D} : atI (a :: b :: c :: l) 2 = some c := atN (k := 2) rfl
theorem at3 {a b c e : D} {l : List D} : atI (a :: b :: c :: e :: l) 3 = some e := atN (k := 3) rfl
theorem ix_l (h : g[n]? = some (.lst xs)) (e : atI xs i = some d) : TO (dIx (.ref n) (.int i) g) Q = Q d g := by
  simp only [dIx, h, e]; exact (rfl)
theorem ix_t (e : atI xs i = some d) : TO (dIx (.tup xs) (.int i) g) Q = Q d g := by
  simp only [dIx, e]; exact (rfl)
theorem len_l (h : g[n]? = some (.lst xs)) : TO (dLen (.ref n) g) Q = Q (.int xs.length) g := by
  simp only [dLen, lenD, h]; exact (rfl)
theorem len_t : TO (dLen (.tup xs) g) Q = Q (.int xs.length) g := (rfl)
theorem gt_i : TO (dGt (.int i) (.int j) g) Q = Q (.bl (decide (j < i))) g := (rfl)
theorem lt_i : TO (dLt (.int i) (.int j) g) Q = Q (.bl (decide (i < j))) g := (rfl)
theorem le_i : TO (dLe (.int i) (.int j) g) Q = Q (.bl (decide (i ≤ j))) g := (rfl)
theorem ge_i : TO (dGe (.int i) (.int j) g) Q = Q (.bl (decide (j ≤ i))) g := (rfl)
theorem eq_i : TO (dEq (.int i) (.int j) g) Q = Q (.bl (decide (i = j))) g := by
  have : PyData.eqv (.int i) (.int j) = decide (i = j) := by
    by_cases h : i = j <;> simp [PyData.eqv, h]
  show Q (.bl (PyData.eqv (.int i) (.int j))) g = _
  rw [this]
theorem ne_i : TO (dNe (.int i) (.int j) g) Q = Q (.bl (!decide (i = j))) g := by
  have : PyData.eqv (.int i) (.int j) = decide (i = j) := by
    by_cases h : i = j <;> simp [PyData.eqv, h]
  show Q (.bl (!PyData.eqv (.int i) (.int j))) g = _
  rw [this]
theorem add_i : TO (dAdd (.int i) (.int j) g) Q = Q (.int (i + j)) g := (rfl)
theorem iadd_i : TO (dIAdd (.int i) (.int j) g) Q = Q (.int (i + j)) g := (rfl)
theorem sub_i : TO (dSub (.int i) (.int j) g) Q = Q (.int (i - j)) g := (rfl)
theorem neg_i : TO (dNeg (.int i) g) Q = Q (.int (-i)) g := (rfl)
theorem int_i : TO (dInt (.int i) g) Q = Q (.int i) g := (rfl)
theorem abs_i : TO (dAbs (.int i) g) Q = Q (.int (if i < 0 then -i else i)) g := (rfl)
theorem mod_i (h : j ≠ 0) : TO (dMod (.int i) (.int j) g) Q = Q (.int (i.fmod j)) g := by
  simp only [dMod, if_pos h]; exact (rfl)
theorem log2_lt {a : Nat} (h : a < 2 ^ 200) : a.log2 < 200 := by
  by_cases h0 : a = 0
  · rw [h0]; decide
  · exact (Nat.log2_lt h0).mpr h
theorem div_i (h : j ≠ 0) (hj : j.natAbs < 2 ^ 200) : TO (dDiv (.int i) (.int j) g) Q = Q (.int (i.fdiv j)) g := by
  have := log2_lt hj
  simp only [dDiv, if_pos (show j ≠ 0 ∧ j.natAbs.log2 < 9000 from ⟨h, by omega⟩)]; exact (rfl)
theorem mul_i (hi : i.natAbs < 2 ^ 200) (hj : j.natAbs < 2 ^ 200) : TO (dMul (.int i) (.int j) g) Q = Q (.int (i * j)) g := by
  have := log2_lt hi
  have := log2_lt hj
  simp only [dMul, if_pos (show i.natAbs.log2 + j.natAbs.log2 < 1000000 by omega)]; exact (rfl)
theorem add_t {ys : List D} (h : xs.length + ys.length ≤ sizeLine) : TO (dAdd (.tup xs) (.tup ys) g) Q = Q (.tup (xs ++ ys)) g := by
  simp only [dAdd, if_pos h]; exact (rfl)
theorem add_l {k : Nat} {ys : List D} (h1 : g[n]? = some (.lst xs)) (h2 : g[k]? = some (.lst ys)) (h : xs.length + ys.length ≤ sizeLine) : TO (dAdd (.ref n) (.ref k) g) Q = Q (.ref g.length) (g ++ [.lst (xs ++ ys)]) := by
  simp only [dAdd, h1, h2, if_pos h]; exact (rfl)
/-! methods -/
variable {c : Cal} {ρ : Env'} {ro : Exp} {rs : Arg}
theorem ty_l (h : g[n]? = some (.lst xs)) : typeD g (.ref n) = some "list" := by simp only [typeD, h]
/-- a method of a list, the list known where it is reached -/
theorem tr_mth {name : Str} {op : Mop} (hb : bmT "list" name = some op) (h : Tr (ro c ρ g) fun x g => typeD g x = some "list" ∧ Tr (rs c ρ g) fun ds g => TO (op x ds g) Q) : Tr (eMth name ro rs c ρ g) Q := by
  unfold eMth
  rw [Tr_bind]
  refine h.mono fun x g ⟨e, q⟩ => ?_
  rw [e]
  show Tr (match bmT "list" name with | some op => _ | none => _) Q
  rw [hb]
  show Tr (Res.bind _ _) Q
  rw [Tr_bind]
  exact q.mono fun ds g q => by rw [Tr_of]; exact q
theorem app_l (h : g[n]? = some (.lst xs)) (hl : xs.length < sizeLine) : TO (mAppend (.ref n) [d] g) Q = Q .non (g.set n (.lst (xs ++ [d]))) := by
  simp only [mAppend, h, if_pos hl]; exact (rfl)
theorem pop_l (h : g[n]? = some (.lst (xs ++ [d]))) : TO (mPop (.ref n) [] g) Q = Q d (g.set n (.lst xs)) := by
  simp only [mPop, h]
  simp
  rfl
theorem set_l {k : Nat} (h : g[n]? = some (.lst xs)) (hi : ixN xs.length i = some k) : dSet (.ref n) (.int i) d g = some (g.set n (.lst (xs.set k d))) := by
  simp only [dSet, h, hi]
end
section
variable {Q : D → Hh → Prop} {g : Hh} {c : Cal} {ρ : Env'}
theorem new_l {xs : List D} (h : xs.length ≤ sizeLine) : TO (newLst xs g) Q = Q (.ref g.length) (g ++ [.lst xs]) := by
  simp only [newLst, if_pos h]; exact (rfl)
theorem new_t {xs : List D} (h : xs.length ≤ sizeLine) : TO (newTup xs g) Q = Q (.tup xs) g := by
  simp only [newTup, if_pos h]; exact (rfl)
theorem small_le {n : Nat} (h : n ≤ 1000) : n ≤ sizeLine := by rw [sizeLine_eq]; omega
theorem small_lt {n : Nat} (h : n ≤ 1000) : n < sizeLine := by rw [sizeLine_eq]; omega
theorem new_t0 : TO (newTup [] g) Q = Q (.tup []) g := new_t (small_le (by decide))
theorem new_t1 {a : D} : TO (newTup [a] g) Q = Q (.tup [a]) g := new_t (small_le (Nat.le_of_ble_eq_true rfl))
theorem new_t2 {a b : D} : TO (newTup [a, b] g) Q = Q (.tup [a, b]) g := new_t (small_le (Nat.le_of_ble_eq_true rfl))
theorem new_t3 {a b d : D} : TO (newTup [a, b, d] g) Q = Q (.tup [a, b, d]) g := new_t (small_le (Nat.le_of_ble_eq_true rfl))
theorem new_t4 {a b d e : D} : TO (newTup [a, b, d, e] g) Q = Q (.tup [a, b, d, e]) g := new_t (small_le (Nat.le_of_ble_eq_true rfl))
theorem new_t6 {a b d e a' b' : D} : TO (newTup [a, b, d, e, a', b'] g) Q = Q (.tup [a, b, d, e, a', b']) g := new_t (small_le (Nat.le_of_ble_eq_true rfl))
theorem new_l0 : TO (newLst [] g) Q = Q (.ref g.length) (g ++ [.lst []]) := new_l (small_le (by decide))
theorem tup_l {n : Nat} {xs : List D} (h : g[n]? = some (.lst xs)) : TO (dTuple (.ref n) g) Q = Q (.tup xs) g := by
  simp only [dTuple, seqD, h]; exact (rfl)
theorem tup_t {xs : List D} : TO (dTuple (.tup xs) g) Q = Q (.tup xs) g := (rfl)
theorem fld_ok {cs : List Str} {f : Str} {ro : Exp} (h : Tr (ro c ρ g) fun x g => ∃ n cl fs d, x = .ref n ∧ g[n]? = some (.ins cl fs) ∧ cl ∈ cs ∧ fs.lookup f = some d ∧ Q d g) : Tr (eFld cs f ro c ρ g) Q := by
  unfold eFld
  rw [Tr_bind]
  refine h.mono fun x g ⟨n, cl, fs, d, e, h1, h2, h3, q⟩ => ?_
  subst e
  dsimp only
  rw [h1]
  dsimp only
  rw [if_pos h2, h3]
  exact q
theorem pl_ok {r : Exp} {Q : Src → Hh → Prop} : Tr (iPl r c ρ g) Q = Tr (r c ρ g) fun d g => match srcOf g d with
    | some s => Q s g
    | none => False := by
  unfold iPl
  rw [Tr_bind]
  congr 1
  funext d g
  cases srcOf g d <;> rfl
theorem src_t {xs : List D} : srcOf g (.tup xs) = some ⟨[], xs⟩ := (rfl)
theorem src_l {n : Nat} {xs : List D} (h : g[n]? = some (.lst xs)) : srcOf g (.ref n) = some ⟨[(n, .lst xs)], xs⟩ := by
  simp only [srcOf, h]
/-- a comprehension whose parts add things alone -/
theorem lc_ok {vs : List Nat} {it : Itx} {tg : Tg} {ifs : Tst} {elt : Exp} (f : D → Option D)
    (h : Tr (it c ρ g) fun s g1 => s.items.length ≤ sizeLine ∧ stable s.keep g1 = true ∧
      (∀ d ∈ s.items, ∀ g', Kp [g1.length] g1 g' → Tr (tg c d (wipeD ρ vs) g') fun ρ1 g2 => Kp [] g' g2 ∧ Tr (ifs c ρ1 g2) fun k g3 => Kp [] g2 g3 ∧ if k = true then Tr (elt c ρ1 g3) fun y g4 => Kp [] g3 g4 ∧ f d = some y else f d = none) ∧
      ∀ g', Kp [] g1 g' → g'[g1.length]? = some (.lst (s.items.filterMap f)) → Q (.ref g1.length) g') : Tr (eLc vs it tg ifs elt c ρ g) Q := by
  rw [Tr_lc]
  refine h.mono fun s g1 ⟨h1, h2, h3, h4⟩ => ?_
  have := comp_map (keep := s.keep) (tg := tg c) (ifs := ifs c) (elt := elt c) (ρ := wipeD ρ vs) (g0 := g1) f s.items h1 h2 h3
  revert this
  cases compLoop s.keep (tg c) (ifs c) (elt c) g1.length (wipeD ρ vs) s.items (g1 ++ [.lst []]) with
  | some g' => exact fun q => h4 g' q.1 q.2
  | none => exact fun q => q
theorem yes_ok {Q : Bool → Hh → Prop} : Tr (tYesE c ρ g) Q = Q true g := (rfl)
theorem filterMap_all {α β : Type} {f : α → Option β} {h : α → β} : ∀ {l : List α}, (∀ a ∈ l, f a = some (h a)) → l.filterMap f = l.map h
  | [], _ => rfl
  | a :: l, q => by rw [List.filterMap_cons_some (q a List.mem_cons_self), List.map_cons, filterMap_all fun b hb => q b (List.mem_cons_of_mem _ hb)]
end
section
variable {g : Hh} {i : Int} {x : Str} {ds : List D} {b : Bool} {Q : D → Hh → Prop}
theorem truE_ok {a : Exp} {c : Cal} {ρ : Env'} {Q : Bool → Hh → Prop} : Tr (tTru a c ρ g) Q = Tr (a c ρ g) fun x g => match truD g x with
    | some k => Q k g
    | none => False := by
  unfold tTru
  rw [Tr_bind]
  congr 1
  funext x g
  cases truD g x <;> rfl
theorem tru_bl : truD g (.bl b) = some b := (rfl)
theorem isi_tt : TO (dIsi (.tup ds) (.ty "tuple") g) Q = Q (.bl true) g := (rfl)
theorem isi_it : TO (dIsi (.int i) (.ty "tuple") g) Q = Q (.bl false) g := (rfl)
theorem isi_st : TO (dIsi (.str x) (.ty "tuple") g) Q = Q (.bl false) g := (rfl)
theorem isi_is : TO (dIsi (.int i) (.ty "str") g) Q = Q (.bl false) g := (rfl)
theorem isi_ss : TO (dIsi (.str x) (.ty "str") g) Q = Q (.bl true) g := (rfl)
theorem isi_ii : TO (dIsi (.int i) (.ty "int") g) Q = Q (.bl true) g := (rfl)
theorem isi_ib : TO (dIsi (.int i) (.ty "bool") g) Q = Q (.bl false) g := (rfl)
theorem is_in : TO (dIs (.int i) .non g) Q = Q (.bl false) g := (rfl)
theorem is_sn : TO (dIs (.str x) .non g) Q = Q (.bl false) g := (rfl)
theorem is_ib : TO (dIs (.int i) (.bl b) g) Q = Q (.bl false) g := (rfl)
theorem is_sb : TO (dIs (.str x) (.bl b) g) Q = Q (.bl false) g := (rfl)
theorem rg1_ok {r : Ev.Arg} {c : Cal} {ρ : Env'} {Q : Src → Hh → Prop} {n : Nat} (hn : n ≤ 1000) (h : Tr (r c ρ g) fun ds g => ds = [.int n] ∧ Q ⟨[], (List.range n).map fun i => D.int ((i : Nat) : Int)⟩ g) : Tr (iRg1 r c ρ g) Q := by
  unfold iRg1
  rw [Tr_bind]
  refine h.mono fun ds g' ⟨e, q⟩ => ?_
  subst e
  show Tr (if -(2 ^ 62) ≤ (n : Int) ∧ (n : Int) < 2 ^ 62 then Res.ok (⟨[], rngD 0 (n : Int).toNat⟩ : Src) g' else .err) Q
  rw [if_pos ⟨by omega, by omega⟩]
  have e : rngD 0 (n : Int).toNat = (List.range n).map fun i => D.int ((i : Nat) : Int) := by
    unfold rngD
    simp
  rw [e]
  exact q
end
end Ev

namespace Ev
open PySem PySem.Spec PyProof.Rows L2

/-! ## 24. Nested data: what may be compared, put in order, counted -/
def gdD : Nat → D → Bool
  | 0, .int _ => true
  | 0, .str x => PyData.strOk x
  | 0, _ => false
  | _ + 1, .int _ => true
  | _ + 1, .str x => PyData.strOk x
  | n + 1, .tup ds => ds.all (gdD n)
  | _ + 1, _ => false
def PyD (n : Nat) (d : D) : Prop := ∃ p, pyD d = some p ∧ p.canLay0 = true ∧ p.depth ≤ n ∧ dpD d ≤ n ∧ nkD d = true
theorem gds_py (n : Nat) (ih : ∀ d, gdD n d = true → PyD n d) : ∀ ds : List D, ds.all (gdD n) = true → ∃ ps, pyDs ds = some ps ∧ PyData.canLayAll0 ps = true ∧ PyData.depthAll ps ≤ n ∧ dpDs ds ≤ n ∧ nkDs ds = true
  | [], _ => ⟨[], rfl, by simp [PyData.canLayAll0], by simp [PyData.depthAll], by simp [dpDs], rfl⟩
  | d :: ds, h => by
    rw [List.all_cons, Bool.and_eq_true] at h
    obtain ⟨p, a1, a2, a3, a4, a5⟩ := ih d h.1
    obtain ⟨ps, b1, b2, b3, b4, b5⟩ := gds_py n ih ds h.2
    refine ⟨p :: ps, by simp [pyDs, a1, b1], by simp [PyData.canLayAll0, a2, b2], ?_, ?_, by unfold nkDs; rw [a5, b5]; rfl⟩
    · simp only [PyData.depthAll]; omega
    · simp only [dpDs]; omega
theorem gd_py : ∀ (n : Nat) (d : D), gdD n d = true → PyD n d
  | 0, .int i, _ => ⟨_, rfl, by simp [PyData.canLay0], by simp [PyData.depth], by simp [dpD], rfl⟩
  | 0, .str x, h => ⟨_, rfl, by rw [PyData.canLay0]; exact h, by simp [PyData.depth], by simp [dpD], rfl⟩
  | _ + 1, .int i, _ => ⟨_, rfl, by simp [PyData.canLay0], by simp [PyData.depth], by simp [dpD], rfl⟩
  | _ + 1, .str x, h => ⟨_, rfl, by rw [PyData.canLay0]; exact h, by simp [PyData.depth], by simp [dpD], rfl⟩
  | n + 1, .tup ds, h => by
    obtain ⟨ps, b1, b2, b3, b4, b5⟩ := gds_py n (gd_py n) ds h
    refine ⟨.tuple ps, by simp [pyD, b1], by simpa [PyData.canLay0] using b2, ?_, ?_, b5⟩
    · simp only [PyData.depth]; omega
    · simp only [dpD]; omega
theorem gd_nk {n : Nat} {d : D} (h : gdD n d = true) : nkD d = true := (gd_py n d h).choose_spec.2.2.2.2
theorem gd_up : ∀ {n : Nat} {d : D}, gdD n d = true → gdD (n + 1) d = true
  | 0, .int _, _ => rfl
  | 0, .str _, h => h
  | _ + 1, .int _, _ => rfl
  | _ + 1, .str _, h => h
  | n + 1, .tup ds, h => by
    have h : ds.all (gdD n) = true := h
    show ds.all (gdD (n + 1)) = true
    rw [List.all_eq_true] at h ⊢
    exact fun x hx => gd_up (h x hx)
theorem gd_le {n m : Nat} {d : D} (hn : n ≤ m) (h : gdD n d = true) : gdD m d = true := by
  induction hn with
  | refl => exact h
  | step _ ih => exact gd_up ih
theorem gd_deep {n : Nat} {d : D} (hn : n ≤ 8) (h : gdD n d = true) : deepOk d = true ∧ (srtK d).depth ≤ 8 := by
  obtain ⟨p, a1, a2, a3, a4, a5⟩ := gd_py n d h
  refine ⟨?_, by unfold srtK; rw [a1]; exact Nat.le_trans a3 hn⟩
  unfold deepOk
  rw [a1, a5]
  simp only [Bool.and_true, Bool.and_eq_true, decide_eq_true_eq]
  refine ⟨by omega, ?_⟩
  show (p.canLay0 && decide (p.depth ≤ 64)) = true
  rw [a2, decide_eq_true (by omega)]
  rfl
theorem gds_all {n : Nat} {ds : List D} (h : ∀ d ∈ ds, gdD n d = true) : ∃ ps, pyDs ds = some ps ∧ PyData.canLayAll0 ps = true ∧ PyData.depthAll ps ≤ n :=
  let ⟨ps, a, b, c, _⟩ := gds_py n (gd_py n) ds (List.all_eq_true.mpr h)
  ⟨ps, a, b, c⟩
theorem shaped_of {p : PyData} {n : Nat} (h : p.canLay0 = true) (hd : p.depth ≤ n) (hn : n ≤ 64) : SeqAt.shaped p = true := by
  show (p.canLay0 && decide (p.depth ≤ 64)) = true
  rw [h, decide_eq_true (by omega)]
  rfl
section
variable {g : Hh} {n : Nat} {d e : D} {Q : D → Hh → Prop}
theorem pyV_nk {p : PyData} (h : pyD d = some p) : pyV g d = some p := by
  cases d with
  | ref n => cases h
  | scr xs => cases h
  | _ => exact h
theorem eq_gd (hn : n ≤ 8) (h1 : gdD n d = true) (h2 : gdD n e = true) : TO (dEq d e g) Q = Q (.bl (decide (d = e))) g := by
  obtain ⟨p, a1, a2, a3, _⟩ := gd_py n d h1
  obtain ⟨q, b1, b2, b3, _⟩ := gd_py n e h2
  have : dEqB d e g = some (decide (d = e)) := by
    unfold dEqB
    rw [pyV_nk a1, pyV_nk b1]
    dsimp only
    rw [if_pos ⟨shaped_of a2 a3 (by omega), shaped_of b2 b3 (by omega)⟩, eqv_nk d e (gd_nk h1) (gd_nk h2) a1 b1]
  unfold dEq
  rw [this]
  rfl
theorem any_mem {ys : List D} (hd : gdD n d = true) (hy : ∀ y ∈ ys, gdD n y = true) {p : PyData} {ps : List PyData} (h1 : pyD d = some p) (h2 : pyDs ys = some ps) : (ps.any fun z => PyData.eqv z p) = decide (d ∈ ys) := by
  induction ys generalizing ps with
  | nil => cases h2; simp
  | cons y ys ih =>
    simp only [pyDs] at h2
    split at h2
    · rename_i q qs e1 e2
      cases h2
      rw [List.any_cons, ih (fun z hz => hy z (List.mem_cons_of_mem _ hz)) e2, eqv_nk y d (gd_nk (hy y List.mem_cons_self)) (gd_nk hd) e1 h1]
      by_cases e : y = d
      · subst e; simp
      · have : ¬ d = y := fun z => e z.symm
        simp [e, this]
    · cases h2
theorem in_l {k : Nat} {ys : List D} (hn : n ≤ 8) (hk : g[k]? = some (.lst ys)) (hd : gdD n d = true) (hy : ∀ y ∈ ys, gdD n y = true) : dInB d (.ref k) g = some (decide (d ∈ ys)) := by
  obtain ⟨p, a1, a2, a3, _⟩ := gd_py n d hd
  obtain ⟨ps, b1, b2, b3⟩ := gds_all hy
  simp only [dInB, hk, a1, b1]
  rw [if_pos ⟨shaped_of a2 a3 (by omega), shaped_of (n := n + 1) (by simpa [PyData.canLay0] using b2) (by simp only [PyData.depth]; omega) (by omega)⟩, any_mem hd hy a1 b1]
theorem notin_l {k : Nat} {ys : List D} (hn : n ≤ 8) (hk : g[k]? = some (.lst ys)) (hd : gdD n d = true) (hy : ∀ y ∈ ys, gdD n y = true) : TO (dNotIn d (.ref k) g) Q = Q (.bl (!decide (d ∈ ys))) g := by
  unfold dNotIn
  rw [in_l hn hk hd hy]
  rfl
theorem count_eq {ys : List D} (hd : gdD n d = true) (hy : ∀ y ∈ ys, gdD n y = true) {p : PyData} {ps : List PyData} (h1 : pyD d = some p) (h2 : pyDs ys = some ps) : (ps.countP fun z => PyData.eqv z p) = ys.countP fun y => decide (y = d) := by
  induction ys generalizing ps with
  | nil => cases h2; rfl
  | cons y ys ih =>
    simp only [pyDs] at h2
    split at h2
    · rename_i q qs e1 e2
      cases h2
      rw [List.countP_cons, List.countP_cons, ih (fun z hz => hy z (List.mem_cons_of_mem _ hz)) e2, eqv_nk y d (gd_nk (hy y List.mem_cons_self)) (gd_nk hd) e1 h1]
    · cases h2
theorem count_l {k : Nat} {ys : List D} (hn : n ≤ 8) (hk : g[k]? = some (.lst ys)) (hd : gdD n d = true) (hy : ∀ y ∈ ys, gdD n y = true) : TO (mCount (.ref k) [d] g) Q = Q (.int ((ys.countP fun y => decide (y = d) : Nat) : Int)) g := by
  obtain ⟨p, a1, a2, a3, _⟩ := gd_py n d hd
  obtain ⟨ps, b1, b2, b3⟩ := gds_all hy
  simp only [mCount, hk, a1, b1]
  rw [if_pos ⟨shaped_of a2 a3 (by omega), shaped_of (n := n + 1) (by simpa [PyData.canLay0] using b2) (by simp only [PyData.depth]; omega) (by omega)⟩, count_eq hd hy a1 b1]
  rfl
end

/-! ### lines of rules -/
abbrev Sg := Str × Int
abbrev Tem := List Sg
abbrev Ln := Str × List Tem
abbrev Rl := List Ln × Ln
def sgD (s : Sg) : D := .tup [.str s.1, .int s.2]
def tmD (t : Tem) : D := .tup (t.map sgD)
def lnD (l : Ln) : D := .tup [.str l.1, .tup (l.2.map tmD)]
def rlD (r : Rl) : D := .tup [.tup (r.1.map lnD), lnD r.2]
def prD (p : Int × Int) : D := .tup [.int p.1, .int p.2]
theorem sgD_inj {s t : Sg} (h : sgD s = sgD t) : s = t := by
  cases s; cases t
  simp only [sgD, D.tup.injEq, List.cons.injEq, D.str.injEq, D.int.injEq, and_true] at h
  rw [h.1, h.2]
theorem map_inj {α : Type} {f : α → D} (hf : ∀ a b, f a = f b → a = b) : ∀ {xs ys : List α}, xs.map f = ys.map f → xs = ys
  | [], [], _ => rfl
  | [], _ :: _, h => by cases h
  | _ :: _, [], h => by cases h
  | x :: xs, y :: ys, h => by
    simp only [List.map_cons, List.cons.injEq] at h
    rw [hf _ _ h.1, map_inj hf h.2]
theorem tmD_inj {s t : Tem} (h : tmD s = tmD t) : s = t := map_inj (fun _ _ => sgD_inj) (D.tup.inj h)
theorem lnD_inj {s t : Ln} (h : lnD s = lnD t) : s = t := by
  cases s; cases t
  simp only [lnD, D.tup.injEq, List.cons.injEq, D.str.injEq, and_true] at h
  rw [h.1, map_inj (fun _ _ => tmD_inj) h.2]
def lnOk (l : Ln) : Bool := PyData.strOk l.1 && l.2.all fun t => t.all fun s => PyData.strOk s.1
theorem gd_sg {s : Sg} (h : PyData.strOk s.1 = true) : gdD 1 (sgD s) = true := by
  show ([D.str s.1, D.int s.2].all (gdD 0)) = true
  simp [gdD, h]
theorem gd_tm {t : Tem} (h : ∀ s ∈ t, PyData.strOk s.1 = true) : gdD 2 (tmD t) = true := by
  show ((t.map sgD).all (gdD 1)) = true
  rw [List.all_eq_true]
  intro x hx
  obtain ⟨s, hs, rfl⟩ := List.mem_map.mp hx
  exact gd_sg (h s hs)
theorem gd_ln {l : Ln} (h : lnOk l = true) : gdD 4 (lnD l) = true := by
  unfold lnOk at h
  rw [Bool.and_eq_true, List.all_eq_true] at h
  show ([D.str l.1, D.tup (l.2.map tmD)].all (gdD 3)) = true
  have h2 : gdD 3 (.tup (l.2.map tmD)) = true := by
    show ((l.2.map tmD).all (gdD 2)) = true
    rw [List.all_eq_true]
    intro x hx
    obtain ⟨t, ht, rfl⟩ := List.mem_map.mp hx
    exact gd_tm (List.all_eq_true.mp (h.2 t ht))
  simp only [List.all_cons, List.all_nil, h2, Bool.and_true]
  exact h.1
theorem alikeAll_map {α : Type} {f : α → PyData} (h : ∀ a b, PySem.W.alike (f a) (f b) = true) : ∀ xs ys : List α, PySem.W.alikeAll (xs.map f) (ys.map f) = true
  | [], _ => by simp [PySem.W.alikeAll]
  | _ :: _, [] => by simp [PySem.W.alikeAll]
  | x :: xs, y :: ys => by
    rw [List.map_cons, List.map_cons, PySem.W.alikeAll, h, alikeAll_map h xs ys]
    rfl
def sgP (s : Sg) : PyData := .tuple [.str s.1, .int s.2]
def tmP (t : Tem) : PyData := .tuple (t.map sgP)
def lnP (l : Ln) : PyData := .tuple [.str l.1, .tuple (l.2.map tmP)]
theorem pys_map {α : Type} {f : α → D} {p : α → PyData} (h : ∀ a, pyD (f a) = some (p a)) : ∀ xs : List α, pyDs (xs.map f) = some (xs.map p)
  | [] => rfl
  | x :: xs => by simp [pyDs, h, pys_map h xs]
theorem py_sg (s : Sg) : pyD (sgD s) = some (sgP s) := by simp [sgD, sgP, pyD, pyDs]
theorem py_tm (t : Tem) : pyD (tmD t) = some (tmP t) := by simp [tmD, tmP, pyD, pys_map py_sg]
theorem py_ln (l : Ln) : pyD (lnD l) = some (lnP l) := by simp [lnD, lnP, pyD, pyDs, pys_map py_tm]
theorem alike_ln (l m : Ln) : PySem.W.alike (srtK (lnD l)) (srtK (lnD m)) = true := by
  unfold srtK
  rw [py_ln, py_ln]
  have h1 : ∀ s t : Sg, PySem.W.alike (sgP s) (sgP t) = true := fun s t => by simp [sgP, PySem.W.alike, PySem.W.alikeAll]
  have h2 : ∀ s t : Tem, PySem.W.alike (tmP s) (tmP t) = true := fun s t => by
    show PySem.W.alike (.tuple _) (.tuple _) = true
    rw [PySem.W.alike]
    exact alikeAll_map h1 s t
  show PySem.W.alike (.tuple [.str l.1, .tuple (l.2.map tmP)]) (.tuple [.str m.1, .tuple (m.2.map tmP)]) = true
  simp only [PySem.W.alike, PySem.W.alikeAll, alikeAll_map h2, Bool.and_true]
theorem srtOk_ln {ls : List Ln} (hl : ls.length < 64) (h : ∀ l ∈ ls, lnOk l = true) : (srtOk (ls.map lnD) && (ls.map lnD).all isCons) = true := by
  have c : (ls.map lnD).all isCons = true := by
    rw [List.all_eq_true]
    intro x hx
    obtain ⟨l, _, rfl⟩ := List.mem_map.mp hx
    rfl
  rw [c, Bool.and_true]
  unfold srtOk
  rw [c]
  simp only [Bool.true_or, Bool.and_true, Bool.and_eq_true, decide_eq_true_eq, List.all_eq_true, List.length_map]
  refine ⟨⟨⟨hl, fun x hx => ?_⟩, fun x hx => ?_⟩, fun x hx y hy => ?_⟩
  · obtain ⟨l, hl, rfl⟩ := List.mem_map.mp hx
    exact (gd_deep (by decide) (gd_ln (h l hl))).1
  · obtain ⟨l, hl, rfl⟩ := List.mem_map.mp hx
    exact (gd_deep (by decide) (gd_ln (h l hl))).2
  · obtain ⟨l, _, rfl⟩ := List.mem_map.mp hx
    obtain ⟨m, _, rfl⟩ := List.mem_map.mp hy
    exact alike_ln l m
end Ev

namespace Ev
open PySem PySem.Spec PyProof.Rows L2

/-! ## 25. More posts -/
section
variable {c : Cal} {ρ : Env'} {g : Hh} {Q : D → Hh → Prop}
theorem Kp.tr {S S' : List Nat} {g g' g'' : Hh} (a : Kp S g g') (b : Kp S' g' g'') (h : ∀ i ∈ S', i ∈ S ∨ g.length ≤ i) : Kp S g g'' :=
  ⟨Nat.le_trans a.len b.len, fun i l n => (b.at_ i (Nat.lt_of_lt_of_le l a.len) fun z => (h i z).elim n fun q => absurd l (Nat.not_lt.mpr q)).trans (a.at_ i l n)⟩
theorem sl_l {n : Nat} {xs : List D} {lo hi : Option Int} (h : g[n]? = some (.lst xs)) : TO (dSl (.ref n) lo hi g) Q = Q (.ref g.length) (g ++ [.lst (cutD xs lo hi)]) := by
  simp only [dSl, h]; exact (rfl)
theorem sl_t {xs : List D} {lo hi : Option Int} : TO (dSl (.tup xs) lo hi g) Q = Q (.tup (cutD xs lo hi)) g := (rfl)
theorem sl_s {xs : List D} {lo hi : Option Int} : TO (dSl (.scr xs) lo hi g) Q = Q (.ref g.length) (g ++ [.lst (cutD xs lo hi)]) := (rfl)
theorem cut_to (xs : List D) (k : Nat) : cutD xs none (some (k : Int)) = xs.take k := by
  unfold cutD
  rw [HT.sIx_none, HT.sIx_nat, List.drop_zero, Nat.sub_zero, ← List.take_eq_take_min]
theorem cut_from (xs : List D) (k : Nat) : cutD xs (some (k : Int)) none = xs.drop k := by
  unfold cutD
  rw [HT.sIx_none, HT.sIx_nat]
  by_cases h : k ≤ xs.length
  · rw [Nat.min_eq_left h, List.take_of_length_le (by rw [List.length_drop]; exact Nat.le_refl _)]
  · rw [List.drop_eq_nil_of_le (by omega : xs.length ≤ k), List.drop_eq_nil_of_le (by omega), List.take_nil]
theorem sl_ok {r : Exp} {lo hi : Prt} : Tr (eSl r lo hi c ρ g) Q = Tr (r c ρ g) fun x g => Tr (lo c ρ g) fun l g => Tr (hi c ρ g) fun h g => TO (dSl x l h g) Q := by
  unfold eSl
  simp only [Tr_bind, Tr_of]
theorem no_ok {Q : Option Int → Hh → Prop} : Tr (pNo c ρ g) Q = Q none g := (rfl)
theorem pS_ok {r : Exp} {Q : Option Int → Hh → Prop} : Tr (pSome r c ρ g) Q = Tr (r c ρ g) fun d g => match d with
    | .int i => Q (some i) g
    | _ => False := by
  unfold pSome
  rw [Tr_bind]
  congr 1
  funext d g
  cases d <;> rfl
theorem new_ok {cl key : Str} {n : Nat} {rs : Arg} : Tr (eNew cl key n rs c ρ g) Q = Tr (rs c ρ g) fun ds g => if ds.length = n then Tr (c key (.ref g.length :: ds) (g ++ [.ins cl []])) fun v g' => if v = .non then Q (.ref g.length) g' else False else False := by
  unfold eNew
  rw [Tr_bind]
  congr 1
  funext ds g
  rw [Tr_if, Tr_bind, Tr_err]
  congr 2
  funext v g'
  rw [Tr_if, Tr_ok, Tr_err]
theorem ownK_ok {key : Str} {n : Nat} {ix : List Nat} {rs : Arg} : Tr (eOwnK key n ix rs c ρ g) Q = Tr (rs c ρ g) fun ds g => if ds.length = ix.length ∧ (ordK ix ds).length = n then Tr (c key (ordK ix ds) g) Q else False := by
  unfold eOwnK
  rw [Tr_bind]
  congr 1
  funext ds g
  rw [Tr_if, Tr_err]
theorem TS_fld {cs : List Str} {f : Str} {ro rv : Exp} {P : Po} : TS (sFld cs f ro rv c ρ g) P = Tr (rv c ρ g) fun d g => Tr (ro c ρ g) fun x g => match x with
    | .ref n => match g[n]? with
      | some (.ins cl fs) => if cl ∈ cs ∧ fs.length < 1000 then P.n ρ (g.set n (.ins cl (putFD f d fs))) else False
      | _ => False
    | _ => False := by
  unfold sFld
  rw [TS_out]
  congr 1
  funext d g
  rw [TS_out]
  congr 1
  funext x g
  cases x with
  | ref n =>
    dsimp only
    cases g[n]? with
    | none => rfl
    | some o =>
      cases o with
      | ins cl fs =>
        dsimp only
        split <;> rfl
      | _ => rfl
  | _ => rfl
/-- a comprehension with an invariant -/
theorem lc_inv {vs : List Nat} {it : Itx} {tg : Tg} {ifs : Tst} {elt : Exp}
    (h : Tr (it c ρ g) fun s g1 => ∃ I : List D → List D → Hh → Prop, I s.items [] (g1 ++ [.lst []]) ∧ (∀ l ys g', I l ys g' → stable s.keep g' = true ∧ g'[g1.length]? = some (.lst ys)) ∧
      (∀ d l ys g', I (d :: l) ys g' → Tr (tg c d (wipeD ρ vs) g') fun ρ1 g2 => Tr (ifs c ρ1 g2) fun k g3 => if k = true then Tr (elt c ρ1 g3) fun y g4 => g4[g1.length]? = some (.lst ys) ∧ ys.length < sizeLine ∧ I l (ys ++ [y]) (g4.set g1.length (.lst (ys ++ [y]))) else I l ys g3) ∧
      ∀ ys g', I [] ys g' → Q (.ref g1.length) g') : Tr (eLc vs it tg ifs elt c ρ g) Q := by
  rw [Tr_lc]
  refine h.mono fun s g1 ⟨I, h1, h2, h3, h4⟩ => ?_
  exact comp_go I h2 h3 h4 s.items [] _ h1
/-- a comprehension over known things, whose parts add things alone: what is taken, what is made of it -/
theorem lc_filt {α : Type} {vs : List Nat} {it : Itx} {tg : Tg} {ifs : Tst} {elt : Exp} (xs : List α) (e : α → D) (p : α → Bool) (f : α → D)
    (h : Tr (it c ρ g) fun s g1 => s.items = xs.map e ∧ xs.length ≤ 100000 ∧ stable s.keep g1 = true ∧
      (∀ a ∈ xs, ∀ g', Kp [g1.length] g1 g' → Tr (tg c (e a) (wipeD ρ vs) g') fun ρ1 g2 => Kp [] g' g2 ∧ Tr (ifs c ρ1 g2) fun k g3 => Kp [] g2 g3 ∧ k = p a ∧ (k = true → Tr (elt c ρ1 g3) fun y g4 => Kp [] g3 g4 ∧ y = f a)) ∧
      ∀ g', Kp [] g1 g' → g'[g1.length]? = some (.lst ((xs.filter p).map f)) → Q (.ref g1.length) g') : Tr (eLc vs it tg ifs elt c ρ g) Q := by
  refine lc_inv (h.mono fun s g1 ⟨h1, h2, h3, h4, h5⟩ => ?_)
  have keeps : ∀ p ∈ s.keep, p.1 < g1.length := fun p hp => by
    unfold stable at h3
    rw [List.all_eq_true] at h3
    exact lt_of_get (of_decide_eq_true (h3 p hp))
  refine ⟨fun l ys g' => ∃ A B, xs = A ++ B ∧ l = B.map e ∧ ys = (A.filter p).map f ∧ Kp [g1.length] g1 g' ∧ g'[g1.length]? = some (.lst ys), ⟨[], xs, rfl, h1, rfl, Kp.app _, get_new⟩, ?_, ?_, ?_⟩
  · rintro l ys g' ⟨A, B, _, _, _, kp, hg⟩
    refine ⟨stable_kp h3 kp fun p hp z => ?_, hg⟩
    have := keeps p hp
    rw [List.mem_singleton] at z
    omega
  · rintro d l ys g' ⟨A, B, eq, el, rfl, kp, hg⟩
    cases B with
    | nil => cases el
    | cons a B =>
      cases el
      have hl : (A.filter p).length ≤ A.length := List.length_filter_le ..
      have hA : A.length < xs.length := by rw [eq]; simp
      refine (h4 a (by rw [eq]; simp) g' kp).mono fun ρ1 g2 ⟨k2, q⟩ => q.mono fun k g3 ⟨k3, ek, q⟩ => ?_
      have kp3 := (kp.tr k2 (by simp)).tr k3 (by simp)
      have hg3 := (k2.trans k3).get hg (by simp)
      cases k with
      | true =>
        rw [if_pos rfl]
        refine (q rfl).mono fun y g4 ⟨k4, ey⟩ => ?_
        have hg4 := k4.get hg3 (by simp)
        refine ⟨hg4, by rw [List.length_map, sizeLine_eq]; omega, A ++ [a], B, by simp [eq], rfl, ?_, (kp3.tr k4 (by simp)).trans (Kp.set (by simp)), get_set (lt_of_get hg4)⟩
        rw [List.filter_append, List.map_append, ey, List.filter_cons, if_pos ek.symm]
        rfl
      | false =>
        rw [if_neg Bool.false_ne_true]
        refine ⟨A ++ [a], B, by simp [eq], rfl, ?_, kp3, hg3⟩
        rw [List.filter_append, List.filter_cons, ← ek, if_neg Bool.false_ne_true, List.filter_nil, List.append_nil]
  · rintro ys g' ⟨A, B, eq, el, rfl, kp, hg⟩
    cases B with
    | cons _ _ => cases el
    | nil =>
      rw [List.append_nil] at eq
      subst eq
      exact h5 g' (kp.new fun i hi => .inr (by rw [List.mem_singleton.mp hi]; exact Nat.le_refl _)) hg
/-- the same without a test -/
theorem lc_map {α : Type} {vs : List Nat} {it : Itx} {tg : Tg} {elt : Exp} (xs : List α) (e : α → D) (f : α → D)
    (h : Tr (it c ρ g) fun s g1 => s.items = xs.map e ∧ xs.length ≤ 100000 ∧ stable s.keep g1 = true ∧
      (∀ a ∈ xs, ∀ g', Kp [g1.length] g1 g' → Tr (tg c (e a) (wipeD ρ vs) g') fun ρ1 g2 => Kp [] g' g2 ∧ Tr (elt c ρ1 g2) fun y g4 => Kp [] g2 g4 ∧ y = f a) ∧
      ∀ g', Kp [] g1 g' → g'[g1.length]? = some (.lst (xs.map f)) → Q (.ref g1.length) g') : Tr (eLc vs it tg tYesE elt c ρ g) Q := by
  refine lc_filt xs e (fun _ => true) f (h.mono fun s g1 ⟨h1, h2, h3, h4, h5⟩ => ⟨h1, h2, h3, fun a ha g' kp => ?_, fun g' kp hg => h5 g' kp ?_⟩)
  · refine (h4 a ha g' kp).mono fun ρ1 g2 ⟨k2, q⟩ => ⟨k2, ?_⟩
    rw [yes_ok]
    exact ⟨.refl, rfl, fun _ => q⟩
  · rw [List.filter_eq_self.mpr fun _ _ => rfl] at hg
    exact hg
theorem rev_l {n : Nat} {xs : List D} (h : g[n]? = some (.lst xs)) : TO (dRev (.ref n) g) Q = Q (.ref g.length) (g ++ [.lst xs.reverse]) := by
  simp only [dRev, h]; exact (rfl)
theorem srt_l {n : Nat} {xs : List D} (h : g[n]? = some (.lst xs)) (hk : srtOk xs = true) : TO (dSorted (.ref n) g) Q = Q (.ref g.length) (g ++ [.lst (srtD xs)]) := by
  simp only [dSorted, h, hk, if_true]; exact (rfl)
theorem mul1_t {xs : List D} : TO (dMul (.tup xs) (.int 1) g) Q = Q (.tup xs) g := (rfl)
theorem mul_t {xs : List D} {k : Nat} (h1 : 1 ≤ k) (h2 : k ≤ 1000) (hx : xs ≠ []) (hl : xs.length ≤ 1000) : TO (dMul (.tup xs) (.int k) g) Q = Q (.tup (List.replicate k xs).flatten) g := by
  unfold dMul
  dsimp only
  by_cases h : k = 1
  · subst h
    rw [if_pos (by rfl)]
    simp [TO]
  · rw [if_neg (by omega), if_pos ⟨by omega, by omega, hx, hl⟩]
    show Q _ _ = _
    rw [Int.toNat_natCast]
theorem pow_i {i : Int} {k : Nat} (hi : i.natAbs < 2 ^ 64) (hk : k ≤ 1000000) : TO (dPow (.int i) (.int k) g) Q = Q (.int (i ^ k)) g := by
  simp only [dPow, if_pos (show 0 ≤ (k : Int) ∧ (k : Int) ≤ 1000000 ∧ i.natAbs < 2 ^ 64 from ⟨by omega, by omega, hi⟩), Int.toNat_natCast]; exact (rfl)
theorem log2_lt' {a b : Nat} (h : a < 2 ^ b) (hb : 0 < b) : a.log2 < b := by
  by_cases h0 : a = 0
  · rw [h0]; simpa using hb
  · exact (Nat.log2_lt h0).mpr h
theorem mul_big {i j : Int} (hi : i.natAbs < 2 ^ 4000) (hj : j.natAbs < 2 ^ 4000) : TO (dMul (.int i) (.int j) g) Q = Q (.int (i * j)) g := by
  have := log2_lt' hi (by decide)
  have := log2_lt' hj (by decide)
  simp only [dMul, if_pos (show i.natAbs.log2 + j.natAbs.log2 < 1000000 by omega)]; exact (rfl)
/-- a statement, then the rest, hidden -/
theorem seq_ {a b : Stm} {P : Po} (h : ∀ P' : Po, (∀ ρ g, P'.n ρ g = Ev.TS (b c ρ g) P) → (∀ d g, P'.r d g = P.r d g) → (∀ ρ g, P'.b ρ g = P.b ρ g) → (∀ ρ g, P'.c ρ g = P.c ρ g) → Ev.TS (a c ρ g) P') : Ev.TS (sSeq a b c ρ g) P := by
  rw [TS_seq]
  exact h _ (fun _ _ => rfl) (fun _ _ => rfl) (fun _ _ => rfl) fun _ _ => rfl
theorem for_nil {keep : List (Nat × Ob)} {tg : D → Env' → Hh → Res Env'} {body : Env' → Hh → Out} {P : Po} (h : stable keep g = true) : Ev.TS (forLoop keep tg body [] ρ g) P = P.n ρ g := by
  unfold forLoop
  rw [if_pos h]
  exact (rfl)
theorem for_cons {keep : List (Nat × Ob)} {tg : D → Env' → Hh → Res Env'} {body : Env' → Hh → Out} {P : Po} {d : D} {l : List D} (h : stable keep g = true) : Ev.TS (forLoop keep tg body (d :: l) ρ g) P =
    Tr (tg d ρ g) fun ρ g => Ev.TS (body ρ g) ⟨fun ρ g => Ev.TS (forLoop keep tg body l ρ g) P, P.r, P.n, fun ρ g => Ev.TS (forLoop keep tg body l ρ g) P⟩ := by
  rw [forLoop, if_pos h, TS_outT]
  congr 1
  funext ρ1 g1
  cases body ρ1 g1 <;> rfl
theorem rg1_ex {r : Ev.Arg} {Q : Src → Hh → Prop} (h : Tr (r c ρ g) fun ds g => ∃ n : Nat, n ≤ 1000 ∧ ds = [.int n] ∧ Q ⟨[], (List.range n).map fun i => D.int ((i : Nat) : Int)⟩ g) : Tr (iRg1 r c ρ g) Q := by
  unfold iRg1
  rw [Tr_bind]
  refine h.mono fun ds g' ⟨n, hn, e, q⟩ => ?_
  subst e
  show Tr (if -(2 ^ 62) ≤ (n : Int) ∧ (n : Int) < 2 ^ 62 then Res.ok (⟨[], rngD 0 (n : Int).toNat⟩ : Src) g' else .err) Q
  rw [if_pos ⟨by omega, by omega⟩]
  have e : rngD 0 (n : Int).toNat = (List.range n).map fun i => D.int ((i : Nat) : Int) := by
    unfold rngD
    simp
  rw [e]
  exact q
end
end Ev

namespace T
open PySem PySem.Spec PyProof.Rows L2 Ev
abbrev lawT : PySem.W.OpenLaw := PySem.Challenge.rw_cheapathand_k47_rules_as_facts_claims_an
def top (i : Nat) : Stmt := PySem.Challenge.pw_cheapathand_k47_rules_as_facts_claims_an.main.body.getD i (.Pass ⟨0, 0, 0, 0⟩)

def d0 : He.DefD := ⟨("number_name", none), "number_name", "number_name", defArgs (top 3), defBody (top 3), defScope (top 3), [], []⟩
def c_number_name : Stm := (sSeq (sAsg (gNm 1) (eC (.str "")))
  (sSeq (sAsg (gNm 2) (eOp dAdd (eVar 0) (eC (.int 1))))
  (sSeq (sWhile (tVal (eOp dGt (eVar 2) (eC (.int 0)))) (sSeq (sAug 2 dSub (eC (.int 1)))
  (sSeq (sAsg (gNm 1) (eOp dAdd (eOp dIx (eC (.str "abcdefghijklmnopqrstuvwxyz")) (eOp dMod (eVar 2) (eCall (b1 dLen) (aCons (eC (.str "abcdefghijklmnopqrstuvwxyz")) aNil)))) (eVar 1)))
  (sAsg (gNm 2) (eOp dDiv (eVar 2) (eCall (b1 dLen) (aCons (eC (.str "abcdefghijklmnopqrstuvwxyz")) aNil)))))))
  (sRet (eVar 1)))))
def n0 : Dn := ⟨d0, "number_name", ["number"], ["number", "found", "left"], c_number_name⟩
def d1 : He.DefD := ⟨("Book", some "__init__"), "__init__", "Book.__init__", defArgs (inClass (top 5) 0), defBody (inClass (top 5) 0), defScope (inClass (top 5) 0), [], []⟩
def c_Book___init__ : Stm := (sSeq (sFld ["Book"] "relations" (eVar 0) (eVar 1))
  (sSeq (sFld ["Book"] "makers" (eVar 0) (eVar 2))
  (sFld ["Book"] "rules" (eVar 0) (eVar 3))))
def n1 : Dn := ⟨d1, "Book.__init__", ["self", "relations", "makers", "rules"], ["self", "relations", "makers", "rules"], c_Book___init__⟩
def d2 : He.DefD := ⟨("Book", some "__eq__"), "__eq__", "Book.__eq__", defArgs (inClass (top 5) 1), defBody (inClass (top 5) 1), defScope (inClass (top 5) 1), [], []⟩
def c_Book___eq__ : Stm := (sSeq (sIf (tNotE (tTru (eCall (b2 dIsi) (aCons (eVar 1) (aCons eErr aNil))))) (sRet (eC (.bl false))) sPass)
  (sRet (eAnd (eOp dEq (eFld ["Book"] "relations" (eVar 0)) (eFld ["Book"] "relations" (eVar 1))) (eAnd (eOp dEq (eFld ["Book"] "makers" (eVar 0)) (eFld ["Book"] "makers" (eVar 1))) (eOp dEq (eFld ["Book"] "rules" (eVar 0)) (eFld ["Book"] "rules" (eVar 1)))))))
def n2 : Dn := ⟨d2, "Book.__eq__", ["self", "other"], ["self", "other"], c_Book___eq__⟩
def d3 : He.DefD := ⟨("plain_names", none), "plain_names", "plain_names", defArgs (top 7), defBody (top 7), defScope (top 7), [], []⟩
def c_plain_names : Stm := (sSeq (sAsg (gNm 4) (eLc [2, 3] (iPl (eFld ["Book"] "makers" (eVar 0))) (gTp 2 (gsCons (gNm 2) (gsCons (gNm 3) gsNil))) tYesE (eVar 2)))
  (sSeq (sAsg (gNm 5) (eLst aNil))
  (sSeq (sAsg (gNm 6) (eC (.int 0)))
  (sSeq (sWhile (tVal (eOp dLt (eCall (b1 dLen) (aCons (eVar 5) aNil)) (eVar 1))) (sSeq (sAsg (gNm 2) (eOwn "number_name" 1 (aCons (eVar 6) aNil)))
  (sSeq (sIf (tVal (eOp dNotIn (eVar 2) (eVar 4))) (sExpr (eMth "append" (eVar 5) (aCons (eVar 2) aNil))) sPass)
  (sAug 6 dIAdd (eC (.int 1))))))
  (sRet (eVar 5))))))
def n3 : Dn := ⟨d3, "plain_names", ["book", "many"], ["book", "many", "name", "_", "makers", "found", "number"], c_plain_names⟩
def d4 : He.DefD := ⟨("unlike_things", none), "unlike_things", "unlike_things", defArgs (top 9), defBody (top 9), defScope (top 9), [], []⟩
def c_unlike_things : Stm := (sSeq (sAsg (gNm 1) (eLst aNil))
  (sSeq (sFor (iPl (eVar 0)) (gNm 2) (sIf (tVal (eOp dNotIn (eVar 2) (eVar 1))) (sExpr (eMth "append" (eVar 1) (aCons (eVar 2) aNil))) sPass))
  (sRet (eCall (b1 dTuple) (aCons (eVar 1) aNil)))))
def n4 : Dn := ⟨d4, "unlike_things", ["things"], ["things", "found", "thing"], c_unlike_things⟩
def d5 : He.DefD := ⟨("PricedBook", some "__init__"), "__init__", "PricedBook.__init__", defArgs (inClass (top 11) 0), defBody (inClass (top 11) 0), defScope (inClass (top 11) 0), [], []⟩
def c_PricedBook___init__ : Stm := (sSeq (sFld ["PricedBook"] "book" (eVar 0) (eVar 1))
  (sFld ["PricedBook"] "prices" (eVar 0) (eVar 2)))
def n5 : Dn := ⟨d5, "PricedBook.__init__", ["self", "book", "prices"], ["self", "book", "prices"], c_PricedBook___init__⟩
def d6 : He.DefD := ⟨("PricedBook", some "__eq__"), "__eq__", "PricedBook.__eq__", defArgs (inClass (top 11) 1), defBody (inClass (top 11) 1), defScope (inClass (top 11) 1), [], []⟩
def c_PricedBook___eq__ : Stm := (sRet (eAnd (eCall (b2 dIsi) (aCons (eVar 1) (aCons eErr aNil))) (eAnd (eOp dEq (eFld ["PricedBook"] "book" (eVar 0)) (eFld ["PricedBook"] "book" (eVar 1))) (eOp dEq (eFld ["PricedBook"] "prices" (eVar 0)) (eFld ["PricedBook"] "prices" (eVar 1))))))
def n6 : Dn := ⟨d6, "PricedBook.__eq__", ["self", "other"], ["self", "other"], c_PricedBook___eq__⟩
def d7 : He.DefD := ⟨("variables_of_rule", none), "variables_of_rule", "variables_of_rule", defArgs (top 13), defBody (top 13), defScope (top 13), [], []⟩
def c_variables_of_rule : Stm := (sSeq (sAsg (gNm 1) (eLst aNil))
  (sSeq (sFor (iPl (eOp dAdd (eOp dIx (eVar 0) (eC (.int 0))) (eTup (aCons (eOp dIx (eVar 0) (eC (.int 1))) aNil)))) (gNm 2) (sFor (iPl (eOp dIx (eVar 2) (eC (.int 1)))) (gNm 3) (sExpr (eMth "extend" (eVar 1) (aCons (eLc [4, 5] (iPl (eVar 3)) (gTp 2 (gsCons (gNm 4) (gsCons (gNm 5) gsNil))) (tAndE (tVal (eOp dEq (eVar 5) (eC (.int (-1))))) (tVal (eOp dNotIn (eVar 4) (eVar 1)))) (eVar 4)) aNil)))))
  (sRet (eOwn "unlike_things" 1 (aCons (eVar 1) aNil)))))
def n7 : Dn := ⟨d7, "variables_of_rule", ["rule"], ["rule", "found", "line", "term", "name", "many"], c_variables_of_rule⟩
def d8 : He.DefD := ⟨("plain_line", none), "plain_line", "plain_line", defArgs (top 14), defBody (top 14), defScope (top 14), [], []⟩
def c_plain_line : Stm := (sSeq (sAsg (gNm 5) (eLc [2] (iPl (eOp dIx (eVar 0) (eC (.int 1)))) (gNm 2) tYesE (eCall (b1 dTuple) (aCons (eLc [3, 4] (iPl (eVar 2)) (gTp 2 (gsCons (gNm 3) (gsCons (gNm 4) gsNil))) tYesE (eIf (tVal (eOp dEq (eVar 4) (eC (.int (-1))))) (eTup (aCons (eOp dIx (eVar 1) (eVar 3)) (aCons (eC (.int 0)) aNil))) (eTup (aCons (eVar 3) (aCons (eVar 4) aNil))))) aNil))))
  (sRet (eTup (aCons (eOp dIx (eVar 0) (eC (.int 0))) (aCons (eCall (b1 dTuple) (aCons (eVar 5) aNil)) aNil)))))
def n8 : Dn := ⟨d8, "plain_line", ["line", "names"], ["line", "names", "term", "name", "many", "told"], c_plain_line⟩
def d9 : He.DefD := ⟨("rule_facts", none), "rule_facts", "rule_facts", defArgs (top 15), defBody (top 15), defScope (top 15), [], []⟩
def c_rule_facts : Stm := (sSeq (sAsg (gNm 2) (eOp dIx (eFld ["Book"] "rules" (eFld ["PricedBook"] "book" (eVar 0))) (eVar 1)))
  (sSeq (sAsg (gNm 3) (eOwn "variables_of_rule" 1 (aCons (eVar 2) aNil)))
  (sSeq (sAsg (gNm 4) (eOp dDictZip (eVar 3) (eOwn "plain_names" 2 (aCons (eFld ["PricedBook"] "book" (eVar 0)) (aCons (eCall (b1 dLen) (aCons (eVar 3) aNil)) aNil)))))
  (sSeq (sAsg (gNm 6) (eLc [5] (iPl (eOp dIx (eVar 2) (eC (.int 0)))) (gNm 5) tYesE (eOwn "plain_line" 2 (aCons (eVar 5) (aCons (eVar 4) aNil)))))
  (sSeq (sAsg (gNm 7) (eCall (b1 dTuple) (aCons (eUn dSrtSet (eVar 6)) aNil)))
  (sRet (eTup (aCons (eVar 7) (aCons (eOwn "plain_line" 2 (aCons (eOp dIx (eVar 2) (eC (.int 1))) (aCons (eVar 4) aNil))) (aCons (eTup (aCons (eOp dIx (eFld ["PricedBook"] "prices" (eVar 0)) (eVar 1)) (aCons (eCall (b1 dTuple) (aCons (eLc [8] (iPl (eVar 7)) (gNm 8) tYesE (eMth "count" (eVar 6) (aCons (eVar 8) aNil))) aNil)) aNil))) aNil))))))))))
def n9 : Dn := ⟨d9, "rule_facts", ["priced", "number"], ["priced", "number", "rule", "variables", "names", "line", "premises", "facts", "fact"], c_rule_facts⟩
def d10 : He.DefD := ⟨("_law_deal", none), "_law_deal", "_law_deal", defArgs (top 17), defBody (top 17), defScope (top 17), [], []⟩
def c__law_deal : Stm := (sSeq (sAsg (gNm 2) (eOp dMul (eOp dMul (eOp dMul (eOp dMul (eOp dMul (eOp dPow (eC (.int 10)) (eC (.int 64))) (eOp dPow (eC (.int 10)) (eC (.int 64)))) (eOp dPow (eC (.int 10)) (eC (.int 64)))) (eOp dPow (eC (.int 10)) (eC (.int 64)))) (eOp dPow (eC (.int 10)) (eC (.int 64)))) (eOp dPow (eC (.int 10)) (eC (.int 64)))))
  (sSeq (sAsg (gNm 4) (eLc [3] (iPl (eSl (eVar 0) pNo (pSome (eC (.int 63))))) (gNm 3) tYesE (eOp dMod (eCall (b1 dInt) (aCons (eCall (b1 dAbs) (aCons (eCall (b1 dInt) (aCons (eVar 3) aNil)) aNil)) aNil)) (eVar 2))))
  (sSeq (sAsg (gNm 5) (eOp dAdd (eC (.int 70001)) (eOp dMul (eC (.int 7919)) (eVar 1))))
  (sSeq (sFor (iPl (eVar 4)) (gNm 3) (sAsg (gNm 5) (eOp dMod (eCall (b1 dInt) (aCons (eOp dAdd (eOp dAdd (eOp dMul (eVar 5) (eC (.int 69621))) (eOp dMod (eCall (b1 dInt) (aCons (eVar 3) aNil)) (eC (.int 2147483563)))) (eC (.int 23))) aNil)) (eC (.int 2147483647)))))
  (sRet (eLst (aCons (eUn dRev (eLc [3] (iPl (eVar 4)) (gNm 3) (tVal (eOp dGe (eVar 3) (eOp dPow (eC (.int 10)) (eC (.int 18))))) (eVar 3))) (aCons (eVar 5) aNil))))))))
def n10 : Dn := ⟨d10, "_law_deal", ["script", "salt"], ["script", "salt", "most", "cell", "cells", "mix"], c__law_deal⟩
def d11 : He.DefD := ⟨("_law_any", none), "_law_any", "_law_any", defArgs (top 18), defBody (top 18), defScope (top 18), [], []⟩
def c__law_any : Stm := (sSeq (sWhile (tAndE (tVal (eOp dGt (eCall (b1 dLen) (aCons (eOp dIx (eVar 0) (eC (.int 0))) aNil)) (eC (.int 0)))) (tVal (eOp dEq (eOp dIx (eOp dIx (eVar 0) (eC (.int 0))) (eUn dNeg (eC (.int 1)))) (eC (.int 0))))) (sExpr (eMth "pop" (eOp dIx (eVar 0) (eC (.int 0))) aNil)))
  (sSeq (sIf (tVal (eOp dGt (eCall (b1 dLen) (aCons (eOp dIx (eVar 0) (eC (.int 0))) aNil)) (eC (.int 0)))) (sSeq (sAsg (gNm 2) (eCall (b1 dInt) (aCons (eMth "pop" (eOp dIx (eVar 0) (eC (.int 0))) aNil) aNil)))
  (sSeq (sExpr (eMth "append" (eOp dIx (eVar 0) (eC (.int 0))) (aCons (eOp dDiv (eVar 2) (eVar 1)) aNil)))
  (sRet (eOp dMod (eVar 2) (eVar 1))))) sPass)
  (sSeq (sAsg (gSb (eVar 0) (eC (.int 1))) (eOp dMod (eCall (b1 dInt) (aCons (eOp dAdd (eOp dMul (eOp dIx (eVar 0) (eC (.int 1))) (eC (.int 48271))) (eC (.int 31))) aNil)) (eC (.int 2147483647))))
  (sRet (eOp dMod (eCall (b1 dInt) (aCons (eOp dDiv (eOp dIx (eVar 0) (eC (.int 1))) (eC (.int 64))) aNil)) (eVar 1))))))
def n11 : Dn := ⟨d11, "_law_any", ["deal", "bound"], ["deal", "bound", "rest"], c__law_any⟩
def d12 : He.DefD := ⟨("_law_of", none), "_law_of", "_law_of", defArgs (top 19), defBody (top 19), defScope (top 19), [], []⟩
def c__law_of : Stm := (sRet (eOp dIx (eVar 1) (eOwn "_law_any" 2 (aCons (eVar 0) (aCons (eCall (b1 dLen) (aCons (eVar 1) aNil)) aNil)))))
def n12 : Dn := ⟨d12, "_law_of", ["deal", "some"], ["deal", "some"], c__law_of⟩
def d13 : He.DefD := ⟨("_law_same", none), "_law_same", "_law_same", defArgs (top 20), defBody (top 20), defScope (top 20), [], []⟩
def c__law_same : Stm := (sSeq (sIf (tTru (eCall (b2 dIsi) (aCons (eVar 1) (aCons (eC (.ty "tuple")) aNil)))) (sSeq (sIf (tOrE (tNotE (tTru (eCall (b2 dIsi) (aCons (eVar 0) (aCons (eC (.ty "tuple")) aNil))))) (tVal (eOp dNe (eCall (b1 dLen) (aCons (eVar 0) aNil)) (eCall (b1 dLen) (aCons (eVar 1) aNil))))) (sRet (eC (.bl false))) sPass)
  (sRet (eOp dEq (eCall (b1 dLen) (aCons (eLc [2] (iRg1 (aCons (eCall (b1 dLen) (aCons (eVar 1) aNil)) aNil)) (gNm 2) (tNotE (tTru (eOwn "_law_same" 2 (aCons (eOp dIx (eVar 0) (eVar 2)) (aCons (eOp dIx (eVar 1) (eVar 2)) aNil))))) (eVar 2)) aNil)) (eC (.int 0))))) sPass)
  (sSeq (sIf (tVal (eOp dIs (eVar 1) (eC (.non)))) (sRet (eOp dIs (eVar 0) (eC (.non)))) sPass)
  (sSeq (sIf (tOrE (tVal (eOp dIs (eVar 1) (eC (.bl true)))) (tVal (eOp dIs (eVar 1) (eC (.bl false))))) (sRet (eIf (tTru (eVar 1)) (eOp dIs (eVar 0) (eC (.bl true))) (eOp dIs (eVar 0) (eC (.bl false))))) sPass)
  (sSeq (sIf (tTru (eCall (b2 dIsi) (aCons (eVar 1) (aCons (eC (.ty "str")) aNil)))) (sRet (eAnd (eCall (b2 dIsi) (aCons (eVar 0) (aCons (eC (.ty "str")) aNil))) (eOp dEq (eVar 0) (eVar 1)))) sPass)
  (sRet (eAnd (eCall (b2 dIsi) (aCons (eVar 0) (aCons (eC (.ty "int")) aNil))) (eAnd (eNot (eCall (b2 dIsi) (aCons (eVar 0) (aCons (eC (.ty "bool")) aNil)))) (eOp dEq (eVar 0) (eVar 1)))))))))
def n13 : Dn := ⟨d13, "_law_same", ["told", "due"], ["told", "due", "at"], c__law_same⟩
def d14 : He.DefD := ⟨("_law_all", none), "_law_all", "_law_all", defArgs (top 21), defBody (top 21), defScope (top 21), [], []⟩
def c__law_all : Stm := (sRet (eOp dEq (eCall (b1 dLen) (aCons (eLc [1, 2] (iPl (eVar 0)) (gTp 2 (gsCons (gNm 1) (gsCons (gNm 2) gsNil))) (tNotE (tTru (eOwn "_law_same" 2 (aCons (eVar 1) (aCons (eVar 2) aNil))))) (eVar 1)) aNil)) (eC (.int 0))))
def n14 : Dn := ⟨d14, "_law_all", ["pairs"], ["pairs", "told", "due"], c__law_all⟩
def d15 : He.DefD := ⟨("_law_lowest", none), "_law_lowest", "_law_lowest", defArgs (top 22), defBody (top 22), defScope (top 22), [], []⟩
def c__law_lowest : Stm := (sSeq (sPar [2, 3] (aCons (eCall (b1 dAbs) (aCons (eVar 0) aNil)) (aCons (eCall (b1 dAbs) (aCons (eVar 1) aNil)) aNil)))
  (sSeq (sWhile (tVal (eOp dNe (eVar 3) (eC (.int 0)))) (sPar [2, 3] (aCons (eVar 3) (aCons (eOp dMod (eCall (b1 dInt) (aCons (eVar 2) aNil)) (eVar 3)) aNil))))
  (sSeq (sAsg (gNm 4) (eIf (tVal (eOp dLt (eVar 1) (eC (.int 0)))) (eOp dSub (eC (.int 0)) (eC (.int 1))) (eC (.int 1))))
  (sRet (eTup (aCons (eOp dDiv (eOp dMul (eVar 4) (eVar 0)) (eVar 2)) (aCons (eOp dDiv (eOp dMul (eVar 4) (eVar 1)) (eVar 2)) aNil)))))))
def n15 : Dn := ⟨d15, "_law_lowest", ["top", "bottom"], ["top", "bottom", "one", "other", "sign"], c__law_lowest⟩
def d16 : He.DefD := ⟨("_law_plus", none), "_law_plus", "_law_plus", defArgs (top 23), defBody (top 23), defScope (top 23), [], []⟩
def c__law_plus : Stm := (sRet (eOwn "_law_lowest" 2 (aCons (eOp dAdd (eOp dMul (eOp dIx (eVar 0) (eC (.int 0))) (eOp dIx (eVar 1) (eC (.int 1)))) (eOp dMul (eOp dIx (eVar 1) (eC (.int 0))) (eOp dIx (eVar 0) (eC (.int 1))))) (aCons (eOp dMul (eOp dIx (eVar 0) (eC (.int 1))) (eOp dIx (eVar 1) (eC (.int 1)))) aNil))))
def n16 : Dn := ⟨d16, "_law_plus", ["one", "other"], ["one", "other"], c__law_plus⟩
def d17 : He.DefD := ⟨("_law_times", none), "_law_times", "_law_times", defArgs (top 24), defBody (top 24), defScope (top 24), [], []⟩
def c__law_times : Stm := (sRet (eOwn "_law_lowest" 2 (aCons (eOp dMul (eOp dIx (eVar 0) (eC (.int 0))) (eOp dIx (eVar 1) (eC (.int 0)))) (aCons (eOp dMul (eOp dIx (eVar 0) (eC (.int 1))) (eOp dIx (eVar 1) (eC (.int 1)))) aNil))))
def n17 : Dn := ⟨d17, "_law_times", ["one", "other"], ["one", "other"], c__law_times⟩
def d18 : He.DefD := ⟨("_law_above", none), "_law_above", "_law_above", defArgs (top 25), defBody (top 25), defScope (top 25), [], []⟩
def c__law_above : Stm := (sRet (eOp dGt (eOp dMul (eOp dIx (eVar 0) (eC (.int 0))) (eOp dIx (eVar 1) (eC (.int 1)))) (eOp dMul (eOp dIx (eVar 1) (eC (.int 0))) (eOp dIx (eVar 0) (eC (.int 1))))))
def n18 : Dn := ⟨d18, "_law_above", ["one", "other"], ["one", "other"], c__law_above⟩
def d19 : He.DefD := ⟨("_law_price", none), "_law_price", "_law_price", defArgs (top 26), defBody (top 26), defScope (top 26), [], []⟩
def c__law_price : Stm := (sRet (eOwn "_law_of" 2 (aCons (eVar 0) (aCons (eLst (aCons (eTup (aCons (eC (.int 0)) (aCons (eC (.int 1)) aNil))) (aCons (eTup (aCons (eC (.int 1)) (aCons (eC (.int 1)) aNil))) (aCons (eTup (aCons (eC (.int 1)) (aCons (eC (.int 1)) aNil))) (aCons (eTup (aCons (eC (.int 2)) (aCons (eC (.int 1)) aNil))) (aCons (eTup (aCons (eC (.int 3)) (aCons (eC (.int 1)) aNil))) (aCons (eTup (aCons (eC (.int 5)) (aCons (eC (.int 1)) aNil))) (aCons (eTup (aCons (eC (.int 1)) (aCons (eC (.int 2)) aNil))) (aCons (eTup (aCons (eC (.int 3)) (aCons (eC (.int 2)) aNil))) (aCons (eTup (aCons (eC (.int 7)) (aCons (eC (.int 3)) aNil))) aNil)))))))))) aNil))))
def n19 : Dn := ⟨d19, "_law_price", ["deal"], ["deal"], c__law_price⟩
def d20 : He.DefD := ⟨("_law_var", none), "_law_var", "_law_var", defArgs (top 27), defBody (top 27), defScope (top 27), [], []⟩
def c__law_var : Stm := (sRet (eTup (aCons (eTup (aCons (eVar 0) (aCons (eOp dSub (eC (.int 0)) (eC (.int 1))) aNil))) aNil)))
def n20 : Dn := ⟨d20, "_law_var", ["name"], ["name"], c__law_var⟩
def d21 : He.DefD := ⟨("_law_plain", none), "_law_plain", "_law_plain", defArgs (top 28), defBody (top 28), defScope (top 28), [], []⟩
def c__law_plain : Stm := (sRet (eTup (aCons (eTup (aCons (eVar 0) (aCons (eC (.int 0)) aNil))) aNil)))
def n21 : Dn := ⟨d21, "_law_plain", ["name"], ["name"], c__law_plain⟩
def d22 : He.DefD := ⟨("_law_made", none), "_law_made", "_law_made", defArgs (top 29), defBody (top 29), defScope (top 29), [], []⟩
def c__law_made : Stm := (sRet (eOp dAdd (eTup (aCons (eTup (aCons (eVar 0) (aCons (eC (.int 1)) aNil))) aNil)) (eVar 1)))
def n22 : Dn := ⟨d22, "_law_made", ["maker", "term"], ["maker", "term"], c__law_made⟩
def d23 : He.DefD := ⟨("_law_fill", none), "_law_fill", "_law_fill", defArgs (top 30), defBody (top 30), defScope (top 30), [], []⟩
def c__law_fill : Stm := (sSeq (sAsg (gNm 2) (eTup aNil))
  (sSeq (sFor (iPl (eVar 0)) (gNm 3) (sAsg (gNm 2) (eOp dAdd (eVar 2) (eIf (tVal (eOp dLt (eOp dIx (eVar 3) (eC (.int 1))) (eC (.int 0)))) (eOp dIx (eVar 1) (eOp dIx (eVar 3) (eC (.int 0)))) (eTup (aCons (eVar 3) aNil))))))
  (sRet (eVar 2))))
def n23 : Dn := ⟨d23, "_law_fill", ["term", "names"], ["term", "names", "found", "sign"], c__law_fill⟩
def d24 : He.DefD := ⟨("_law_variables", none), "_law_variables", "_law_variables", defArgs (top 31), defBody (top 31), defScope (top 31), [], []⟩
def c__law_variables : Stm := (sSeq (sAsg (gNm 1) (eLst aNil))
  (sSeq (sFor (iPl (eOp dAdd (eCall (b1 dList) (aCons (eOp dIx (eVar 0) (eC (.int 0))) aNil)) (eLst (aCons (eOp dIx (eVar 0) (eC (.int 1))) aNil)))) (gNm 2) (sFor (iPl (eOp dIx (eVar 2) (eC (.int 1)))) (gNm 3) (sAsg (gNm 1) (eOp dAdd (eVar 1) (eLc [4, 5] (iPl (eVar 3)) (gTp 2 (gsCons (gNm 4) (gsCons (gNm 5) gsNil))) (tAndE (tVal (eOp dLt (eVar 5) (eC (.int 0)))) (tVal (eOp dNotIn (eVar 4) (eVar 1)))) (eVar 4))))))
  (sRet (eCall (b1 dList) (aCons (eCall (b1 dDict) (aCons (eLc [4] (iPl (eVar 1)) (gNm 4) tYesE (eTup (aCons (eVar 4) (aCons (eC (.bl true)) aNil)))) aNil)) aNil)))))
def n24 : Dn := ⟨d24, "_law_variables", ["rule"], ["rule", "found", "line", "term", "name", "many"], c__law_variables⟩
def d25 : He.DefD := ⟨("_law_handed", none), "_law_handed", "_law_handed", defArgs (top 32), defBody (top 32), defScope (top 32), [], []⟩
def c__law_handed : Stm := (sRet (eNew "PricedBook" "PricedBook.__init__" 2 (aCons (eNew "Book" "Book.__init__" 3 (aCons (eOp dIx (eVar 0) (eC (.int 0))) (aCons (eOp dIx (eVar 0) (eC (.int 1))) (aCons (eOp dIx (eVar 0) (eC (.int 2))) aNil)))) (aCons (eOp dIx (eVar 0) (eC (.int 3))) aNil))))
def n25 : Dn := ⟨d25, "_law_handed", ["book"], ["book"], c__law_handed⟩
def d26 : He.DefD := ⟨("_law_at", none), "_law_at", "_law_at", defArgs (top 33), defBody (top 33), defScope (top 33), [], []⟩
def c__law_at : Stm := (sRet (eTup (aCons (eVar 0) (aCons (eTup (aCons (eVar 1) aNil)) aNil))))
def n26 : Dn := ⟨d26, "_law_at", ["relation", "term"], ["relation", "term"], c__law_at⟩
def d27 : He.DefD := ⟨("_law_one_place", none), "_law_one_place", "_law_one_place", defArgs (top 34), defBody (top 34), defScope (top 34), [], []⟩
def c__law_one_place : Stm := (sSeq (sAsg (gTp 2 (gsCons (gNm 3) (gsCons (gNm 4) gsNil))) (eTup (aCons (eSl (eLst (aCons (eC (.str "p")) (aCons (eC (.str "q")) (aCons (eC (.str "r")) (aCons (eC (.str "s")) aNil))))) pNo (pSome (eOp dAdd (eC (.int 2)) (eOwn "_law_any" 2 (aCons (eVar 0) (aCons (eOp dSub (eVar 2) (eC (.int 1))) aNil)))))) (aCons (eSl (eLst (aCons (eC (.str "f")) (aCons (eC (.str "g")) aNil))) pNo (pSome (eOp dAdd (eC (.int 1)) (eOwn "_law_any" 2 (aCons (eVar 0) (aCons (eC (.int 2)) aNil)))))) aNil))))
  (sSeq (sPar [5, 6] (aCons (eLst aNil) (aCons (eLst aNil) aNil)))
  (sSeq (sFor (iRg1 (aCons (eOp dAdd (eC (.int 2)) (eOwn "_law_any" 2 (aCons (eVar 0) (aCons (eC (.int 4)) aNil)))) aNil)) (gNm 7) (sSeq (sAsg (gNm 8) (eOwn "_law_of" 2 (aCons (eVar 0) (aCons (eVar 4) aNil))))
  (sSeq (sAsg (gNm 9) (eLst (aCons (eOwn "_law_var" 1 (aCons (eC (.str "x")) aNil)) (aCons (eOwn "_law_made" 2 (aCons (eVar 8) (aCons (eOwn "_law_var" 1 (aCons (eC (.str "x")) aNil)) aNil))) aNil))))
  (sSeq (sAsg (gNm 11) (eLc [10] (iRg1 (aCons (eOp dAdd (eC (.int 1)) (eOwn "_law_any" 2 (aCons (eVar 0) (aCons (eVar 1) aNil)))) aNil)) (gNm 10) tYesE (eOwn "_law_at" 2 (aCons (eOwn "_law_of" 2 (aCons (eVar 0) (aCons (eVar 3) aNil))) (aCons (eOwn "_law_of" 2 (aCons (eVar 0) (aCons (eVar 9) aNil))) aNil)))))
  (sSeq (sExpr (eMth "append" (eVar 5) (aCons (eTup (aCons (eCall (b1 dTuple) (aCons (eVar 11) aNil)) (aCons (eOwn "_law_at" 2 (aCons (eOwn "_law_of" 2 (aCons (eVar 0) (aCons (eVar 3) aNil))) (aCons (eOwn "_law_of" 2 (aCons (eVar 0) (aCons (eVar 9) aNil))) aNil))) aNil))) aNil)))
  (sExpr (eMth "append" (eVar 6) (aCons (eOwn "_law_price" 1 (aCons (eVar 0) aNil)) aNil))))))))
  (sRet (eTup (aCons (eCall (b1 dTuple) (aCons (eLc [12] (iPl (eVar 3)) (gNm 12) tYesE (eTup (aCons (eVar 12) (aCons (eC (.int 1)) aNil)))) aNil)) (aCons (eCall (b1 dTuple) (aCons (eLc [12] (iPl (eVar 4)) (gNm 12) tYesE (eTup (aCons (eVar 12) (aCons (eC (.int 1)) aNil)))) aNil)) (aCons (eCall (b1 dTuple) (aCons (eVar 5) aNil)) (aCons (eCall (b1 dTuple) (aCons (eVar 6) aNil)) aNil)))))))))
def n27 : Dn := ⟨d27, "_law_one_place", ["deal", "most", "wide"], ["deal", "most", "wide", "names", "makers", "rules", "prices", "turn", "over", "spots", "again", "premises", "name"], c__law_one_place⟩
def d28 : He.DefD := ⟨("_law_steps", none), "_law_steps", "_law_steps", defArgs (top 35), defBody (top 35), defScope (top 35), [], []⟩
def c__law_steps : Stm := (sSeq (sPar [1, 2, 3] (aCons (eOwn "_law_var" 1 (aCons (eC (.str "x")) aNil)) (aCons (eOwn "_law_var" 1 (aCons (eC (.str "y")) aNil)) (aCons (eOwn "_law_var" 1 (aCons (eC (.str "z")) aNil)) aNil))))
  (sSeq (sAsg (gNm 4) (eLst (aCons (eTup (aCons (eTup (aCons (eTup (aCons (eC (.str "sub")) (aCons (eTup (aCons (eVar 1) (aCons (eVar 2) aNil))) aNil))) (aCons (eTup (aCons (eC (.str "sub")) (aCons (eTup (aCons (eVar 2) (aCons (eVar 3) aNil))) aNil))) aNil))) (aCons (eTup (aCons (eC (.str "sub")) (aCons (eTup (aCons (eVar 1) (aCons (eVar 3) aNil))) aNil))) aNil))) (aCons (eTup (aCons (eTup (aCons (eTup (aCons (eC (.str "sub")) (aCons (eTup (aCons (eVar 1) (aCons (eVar 2) aNil))) aNil))) aNil)) (aCons (eTup (aCons (eC (.str "sub")) (aCons (eTup (aCons (eOwn "_law_made" 2 (aCons (eC (.str "g")) (aCons (eVar 1) aNil))) (aCons (eOwn "_law_made" 2 (aCons (eC (.str "g")) (aCons (eVar 2) aNil))) aNil))) aNil))) aNil))) (aCons (eTup (aCons (eTup (aCons (eTup (aCons (eC (.str "sub")) (aCons (eTup (aCons (eVar 1) (aCons (eVar 2) aNil))) aNil))) aNil)) (aCons (eTup (aCons (eC (.str "sub")) (aCons (eTup (aCons (eVar 2) (aCons (eVar 1) aNil))) aNil))) aNil))) aNil)))))
  (sSeq (sAsg (gNm 4) (eOp dAdd (eVar 4) (eLst (aCons (eTup (aCons (eTup (aCons (eTup (aCons (eC (.str "p")) (aCons (eTup (aCons (eVar 1) aNil)) aNil))) (aCons (eTup (aCons (eC (.str "sub")) (aCons (eTup (aCons (eVar 1) (aCons (eVar 2) aNil))) aNil))) aNil))) (aCons (eTup (aCons (eC (.str "p")) (aCons (eTup (aCons (eVar 2) aNil)) aNil))) aNil))) (aCons (eTup (aCons (eTup aNil) (aCons (eTup (aCons (eC (.str "sub")) (aCons (eTup (aCons (eVar 1) (aCons (eVar 1) aNil))) aNil))) aNil))) (aCons (eTup (aCons (eTup (aCons (eTup (aCons (eC (.str "p")) (aCons (eTup (aCons (eOwn "_law_made" 2 (aCons (eC (.str "g")) (aCons (eVar 1) aNil))) aNil)) aNil))) aNil)) (aCons (eTup (aCons (eC (.str "p")) (aCons (eTup (aCons (eVar 1) aNil)) aNil))) aNil))) aNil))))))
  (sSeq (sAsg (gNm 6) (eOp dAdd (eLst (aCons (eOp dIx (eVar 4) (eC (.int 0))) aNil)) (eLc [5] (iPl (eSl (eVar 4) (pSome (eC (.int 1))) pNo)) (gNm 5) (tVal (eOp dEq (eOwn "_law_any" 2 (aCons (eVar 0) (aCons (eC (.int 2)) aNil))) (eC (.int 0)))) (eVar 5))))
  (sRet (eTup (aCons (eTup (aCons (eTup (aCons (eC (.str "p")) (aCons (eC (.int 1)) aNil))) (aCons (eTup (aCons (eC (.str "sub")) (aCons (eC (.int 2)) aNil))) aNil))) (aCons (eTup (aCons (eTup (aCons (eC (.str "g")) (aCons (eC (.int 1)) aNil))) aNil)) (aCons (eCall (b1 dTuple) (aCons (eVar 6) aNil)) (aCons (eCall (b1 dTuple) (aCons (eLc [5] (iPl (eVar 6)) (gNm 5) tYesE (eOwn "_law_price" 1 (aCons (eVar 0) aNil))) aNil)) aNil))))))))))
def n28 : Dn := ⟨d28, "_law_steps", ["deal"], ["deal", "x", "y", "z", "some", "rule", "rules"], c__law_steps⟩
def d29 : He.DefD := ⟨("_law_shelf_detour", none), "_law_shelf_detour", "_law_shelf_detour", defArgs (top 36), defBody (top 36), defScope (top 36), [], []⟩
def c__law_shelf_detour : Stm := (sSeq (sPar [3, 4] (aCons (eOwn "_law_var" 1 (aCons (eC (.str "x")) aNil)) (aCons (eOwn "_law_made" 2 (aCons (eC (.str "f")) (aCons (eOwn "_law_var" 1 (aCons (eC (.str "x")) aNil)) aNil))) aNil)))
  (sSeq (sAsg (gNm 5) (eTup (aCons (eTup (aCons (eTup (aCons (eOwn "_law_at" 2 (aCons (eC (.str "p")) (aCons (eVar 3) aNil))) aNil)) (aCons (eOwn "_law_at" 2 (aCons (eC (.str "q")) (aCons (eVar 4) aNil))) aNil))) (aCons (eTup (aCons (eTup (aCons (eOwn "_law_at" 2 (aCons (eC (.str "q")) (aCons (eVar 4) aNil))) aNil)) (aCons (eOwn "_law_at" 2 (aCons (eC (.str "r")) (aCons (eVar 3) aNil))) aNil))) (aCons (eTup (aCons (eTup (aCons (eOwn "_law_at" 2 (aCons (eC (.str "p")) (aCons (eVar 3) aNil))) aNil)) (aCons (eOwn "_law_at" 2 (aCons (eC (.str "r")) (aCons (eVar 3) aNil))) aNil))) aNil)))))
  (sRet (eTup (aCons (eTup (aCons (eTup (aCons (eC (.str "p")) (aCons (eC (.int 1)) aNil))) (aCons (eTup (aCons (eC (.str "q")) (aCons (eC (.int 1)) aNil))) (aCons (eTup (aCons (eC (.str "r")) (aCons (eC (.int 1)) aNil))) aNil)))) (aCons (eTup (aCons (eTup (aCons (eC (.str "f")) (aCons (eC (.int 1)) aNil))) aNil)) (aCons (eVar 5) (aCons (eTup (aCons (eVar 0) (aCons (eVar 1) (aCons (eVar 2) aNil)))) aNil))))))))
def n29 : Dn := ⟨d29, "_law_shelf_detour", ["first", "second", "own"], ["first", "second", "own", "x", "over", "rules"], c__law_shelf_detour⟩
def d30 : He.DefD := ⟨("_law_shelf_twice", none), "_law_shelf_twice", "_law_shelf_twice", defArgs (top 37), defBody (top 37), defScope (top 37), [], []⟩
def c__law_shelf_twice : Stm := (sSeq (sAsg (gNm 3) (eOwn "_law_shelf_detour" 3 (aCons (eVar 0) (aCons (eVar 1) (aCons (eVar 2) aNil)))))
  (sSeq (sAsg (gNm 4) (eOwn "_law_at" 2 (aCons (eC (.str "p")) (aCons (eOwn "_law_var" 1 (aCons (eC (.str "x")) aNil)) aNil))))
  (sRet (eTup (aCons (eOp dIx (eVar 3) (eC (.int 0))) (aCons (eOp dIx (eVar 3) (eC (.int 1))) (aCons (eOp dAdd (eSl (eOp dIx (eVar 3) (eC (.int 2))) pNo (pSome (eC (.int 2)))) (eTup (aCons (eTup (aCons (eTup (aCons (eVar 4) (aCons (eVar 4) aNil))) (aCons (eOwn "_law_at" 2 (aCons (eC (.str "r")) (aCons (eOwn "_law_var" 1 (aCons (eC (.str "x")) aNil)) aNil))) aNil))) aNil))) (aCons (eOp dIx (eVar 3) (eC (.int 3))) aNil))))))))
def n30 : Dn := ⟨d30, "_law_shelf_twice", ["first", "second", "own"], ["first", "second", "own", "book", "p"], c__law_shelf_twice⟩
def d31 : He.DefD := ⟨("_law_shelf_halves", none), "_law_shelf_halves", "_law_shelf_halves", defArgs (top 38), defBody (top 38), defScope (top 38), [], []⟩
def c__law_shelf_halves : Stm := (sSeq (sPar [3, 4] (aCons (eOwn "_law_var" 1 (aCons (eC (.str "x")) aNil)) (aCons (eOwn "_law_made" 2 (aCons (eC (.str "f")) (aCons (eOwn "_law_var" 1 (aCons (eC (.str "x")) aNil)) aNil))) aNil)))
  (sSeq (sPar [5, 6, 7] (aCons (eOwn "_law_at" 2 (aCons (eC (.str "u")) (aCons (eVar 3) aNil))) (aCons (eOwn "_law_at" 2 (aCons (eC (.str "v")) (aCons (eVar 3) aNil))) (aCons (eOwn "_law_at" 2 (aCons (eC (.str "r")) (aCons (eVar 3) aNil))) aNil))))
  (sSeq (sAsg (gNm 8) (eTup (aCons (eTup (aCons (eTup (aCons (eVar 5) (aCons (eVar 6) aNil))) (aCons (eOwn "_law_at" 2 (aCons (eC (.str "q")) (aCons (eVar 4) aNil))) aNil))) (aCons (eTup (aCons (eTup (aCons (eOwn "_law_at" 2 (aCons (eC (.str "q")) (aCons (eVar 4) aNil))) aNil)) (aCons (eVar 7) aNil))) (aCons (eTup (aCons (eOp dMul (eTup (aCons (eVar 5) aNil)) (eVar 0)) (aCons (eVar 7) aNil))) (aCons (eTup (aCons (eOp dMul (eTup (aCons (eVar 6) aNil)) (eVar 1)) (aCons (eVar 7) aNil))) aNil))))))
  (sRet (eTup (aCons (eTup (aCons (eTup (aCons (eC (.str "q")) (aCons (eC (.int 1)) aNil))) (aCons (eTup (aCons (eC (.str "r")) (aCons (eC (.int 1)) aNil))) (aCons (eTup (aCons (eC (.str "u")) (aCons (eC (.int 1)) aNil))) (aCons (eTup (aCons (eC (.str "v")) (aCons (eC (.int 1)) aNil))) aNil))))) (aCons (eTup (aCons (eTup (aCons (eC (.str "f")) (aCons (eC (.int 1)) aNil))) aNil)) (aCons (eVar 8) (aCons (eCall (b1 dTuple) (aCons (eVar 2) aNil)) aNil)))))))))
def n31 : Dn := ⟨d31, "_law_shelf_halves", ["ones", "others", "prices"], ["ones", "others", "prices", "x", "over", "u", "v", "r", "rules"], c__law_shelf_halves⟩
def d32 : He.DefD := ⟨("_law_shelf_rising", none), "_law_shelf_rising", "_law_shelf_rising", defArgs (top 39), defBody (top 39), defScope (top 39), [], []⟩
def c__law_shelf_rising : Stm := (sSeq (sPar [2, 3, 4] (aCons (eOwn "_law_var" 1 (aCons (eC (.str "x")) aNil)) (aCons (eOwn "_law_var" 1 (aCons (eC (.str "y")) aNil)) (aCons (eOwn "_law_var" 1 (aCons (eC (.str "z")) aNil)) aNil))))
  (sSeq (sAsg (gNm 5) (eTup (aCons (eTup (aCons (eTup (aCons (eTup (aCons (eC (.str "sub")) (aCons (eTup (aCons (eVar 2) (aCons (eVar 3) aNil))) aNil))) (aCons (eTup (aCons (eC (.str "sub")) (aCons (eTup (aCons (eVar 3) (aCons (eVar 4) aNil))) aNil))) aNil))) (aCons (eTup (aCons (eC (.str "sub")) (aCons (eTup (aCons (eVar 2) (aCons (eVar 4) aNil))) aNil))) aNil))) (aCons (eTup (aCons (eTup (aCons (eTup (aCons (eC (.str "sub")) (aCons (eTup (aCons (eVar 2) (aCons (eVar 3) aNil))) aNil))) aNil)) (aCons (eTup (aCons (eC (.str "sub")) (aCons (eTup (aCons (eOwn "_law_made" 2 (aCons (eC (.str "g")) (aCons (eVar 2) aNil))) (aCons (eOwn "_law_made" 2 (aCons (eC (.str "g")) (aCons (eVar 3) aNil))) aNil))) aNil))) aNil))) aNil))))
  (sRet (eTup (aCons (eTup (aCons (eTup (aCons (eC (.str "sub")) (aCons (eC (.int 2)) aNil))) aNil)) (aCons (eTup (aCons (eTup (aCons (eC (.str "g")) (aCons (eC (.int 1)) aNil))) aNil)) (aCons (eVar 5) (aCons (eTup (aCons (eVar 0) (aCons (eVar 1) aNil))) aNil))))))))
def n32 : Dn := ⟨d32, "_law_shelf_rising", ["step", "rise"], ["step", "rise", "x", "y", "z", "rules"], c__law_shelf_rising⟩
def d33 : He.DefD := ⟨("_law_shelf_forks", none), "_law_shelf_forks", "_law_shelf_forks", defArgs (top 40), defBody (top 40), defScope (top 40), [], []⟩
def c__law_shelf_forks : Stm := (sSeq (sAsg (gTp 5 (gsCons (gNm 2) (gsCons (gNm 3) (gsCons (gNm 4) (gsCons (gNm 5) (gsCons (gNm 6) gsNil)))))) (eTup (aCons (eOwn "_law_var" 1 (aCons (eC (.str "x")) aNil)) (aCons (eLst (aCons (eTup (aCons (eC (.str "p")) (aCons (eC (.int 1)) aNil))) (aCons (eTup (aCons (eC (.str "r")) (aCons (eC (.int 1)) aNil))) aNil))) (aCons (eLst aNil) (aCons (eLst aNil) (aCons (eLst aNil) aNil)))))))
  (sSeq (sFor (iZp (eLst (aCons (eTup (aCons (eC (.str "q")) (aCons (eC (.str "f")) aNil))) (aCons (eTup (aCons (eC (.str "s")) (aCons (eC (.str "g")) aNil))) (aCons (eTup (aCons (eC (.str "t")) (aCons (eC (.str "h")) aNil))) aNil)))) (eVar 0)) (gTp 2 (gsCons (gTp 2 (gsCons (gNm 7) (gsCons (gNm 8) gsNil))) (gsCons (gTp 2 (gsCons (gNm 9) (gsCons (gNm 10) gsNil))) gsNil))) (sSeq (sAsg (gNm 11) (eOwn "_law_at" 2 (aCons (eVar 7) (aCons (eOwn "_law_made" 2 (aCons (eVar 8) (aCons (eVar 2) aNil))) aNil))))
  (sSeq (sPar [3, 4] (aCons (eOp dAdd (eVar 3) (eLst (aCons (eTup (aCons (eVar 7) (aCons (eC (.int 1)) aNil))) aNil))) (aCons (eOp dAdd (eVar 4) (eLst (aCons (eTup (aCons (eVar 8) (aCons (eC (.int 1)) aNil))) aNil))) aNil)))
  (sPar [5, 6] (aCons (eOp dAdd (eVar 5) (eLst (aCons (eTup (aCons (eTup (aCons (eOwn "_law_at" 2 (aCons (eC (.str "p")) (aCons (eVar 2) aNil))) aNil)) (aCons (eVar 11) aNil))) (aCons (eTup (aCons (eTup (aCons (eVar 11) aNil)) (aCons (eOwn "_law_at" 2 (aCons (eC (.str "r")) (aCons (eVar 2) aNil))) aNil))) aNil)))) (aCons (eOp dAdd (eVar 6) (eLst (aCons (eVar 9) (aCons (eVar 10) aNil)))) aNil))))))
  (sSeq (sAsg (gNm 5) (eOp dAdd (eVar 5) (eLst (aCons (eTup (aCons (eTup (aCons (eOwn "_law_at" 2 (aCons (eC (.str "p")) (aCons (eVar 2) aNil))) aNil)) (aCons (eOwn "_law_at" 2 (aCons (eC (.str "r")) (aCons (eVar 2) aNil))) aNil))) aNil))))
  (sRet (eTup (aCons (eCall (b1 dTuple) (aCons (eCall (b1 dSorted) (aCons (eVar 3) aNil)) aNil)) (aCons (eCall (b1 dTuple) (aCons (eVar 4) aNil)) (aCons (eCall (b1 dTuple) (aCons (eVar 5) aNil)) (aCons (eCall (b1 dTuple) (aCons (eOp dAdd (eVar 6) (eLst (aCons (eVar 1) aNil))) aNil)) aNil)))))))))
def n33 : Dn := ⟨d33, "_law_shelf_forks", ["ways", "own"], ["ways", "own", "x", "relations", "makers", "rules", "prices", "relation", "maker", "first", "second", "over"], c__law_shelf_forks⟩
def d34 : He.DefD := ⟨("_law_halves_cheap", none), "_law_halves_cheap", "_law_halves_cheap", defArgs (top 41), defBody (top 41), defScope (top 41), [], []⟩
def c__law_halves_cheap : Stm := (sSeq (sPar [3, 4] (aCons (eOwn "_law_lowest" 2 (aCons (eOp dSub (eVar 1) (eC (.int 1))) (aCons (eVar 1) aNil))) (aCons (eOwn "_law_lowest" 2 (aCons (eC (.int 1)) (aCons (eVar 0) aNil))) aNil)))
  (sSeq (sAsg (gNm 5) (eOwn "_law_plus" 2 (aCons (eOp dIx (eVar 2) (eC (.int 0))) (aCons (eOp dIx (eVar 2) (eC (.int 1))) aNil))))
  (sSeq (sIf (tTru (eOwn "_law_above" 2 (aCons (eVar 3) (aCons (eVar 4) aNil)))) (sRet (eC (.bl false))) sPass)
  (sSeq (sFor (iPl (eLst (aCons (eVar 3) (aCons (eVar 4) aNil)))) (gNm 6) (sSeq (sAsg (gNm 7) (eOwn "_law_plus" 2 (aCons (eTup (aCons (eC (.int 1)) (aCons (eC (.int 1)) aNil))) (aCons (eTup (aCons (eOp dSub (eC (.int 0)) (eOp dIx (eVar 6) (eC (.int 0)))) (aCons (eOp dIx (eVar 6) (eC (.int 1))) aNil))) aNil))))
  (sIf (tNotE (tTru (eOwn "_law_above" 2 (aCons (eOwn "_law_plus" 2 (aCons (eOwn "_law_times" 2 (aCons (eVar 6) (aCons (eOp dIx (eVar 2) (eC (.int 2))) aNil))) (aCons (eOwn "_law_times" 2 (aCons (eVar 7) (aCons (eOp dIx (eVar 2) (eC (.int 3))) aNil))) aNil))) (aCons (eVar 5) aNil))))) (sRet (eC (.bl true))) sPass)))
  (sRet (eC (.bl false)))))))
def n34 : Dn := ⟨d34, "_law_halves_cheap", ["ones", "others", "prices"], ["ones", "others", "prices", "low", "high", "most", "share", "rest"], c__law_halves_cheap⟩
def d35 : He.DefD := ⟨("_law_known", none), "_law_known", "_law_known", defArgs (top 42), defBody (top 42), defScope (top 42), [], []⟩
def c__law_known : Stm := (sSeq (sPar [1, 2] (aCons (eOwn "_law_any" 2 (aCons (eVar 0) (aCons (eC (.int 5)) aNil))) (aCons (eOwn "_law_var" 1 (aCons (eC (.str "a")) aNil)) aNil)))
  (sSeq (sPar [3, 4] (aCons (eOwn "_law_at" 2 (aCons (eC (.str "p")) (aCons (eVar 2) aNil))) (aCons (eOwn "_law_at" 2 (aCons (eC (.str "r")) (aCons (eVar 2) aNil))) aNil)))
  (sSeq (sPar [5, 6, 7] (aCons (eOwn "_law_price" 1 (aCons (eVar 0) aNil)) (aCons (eOwn "_law_price" 1 (aCons (eVar 0) aNil)) (aCons (eOwn "_law_price" 1 (aCons (eVar 0) aNil)) aNil))))
  (sSeq (sAsg (gNm 8) (eOwn "_law_plus" 2 (aCons (eVar 5) (aCons (eVar 6) aNil))))
  (sSeq (sIf (tVal (eOp dEq (eVar 1) (eC (.int 0)))) (sSeq (sAsg (gNm 9) (eNot (eOwn "_law_above" 2 (aCons (eVar 7) (aCons (eVar 8) aNil)))))
  (sRet (eTup (aCons (eOwn "_law_shelf_detour" 3 (aCons (eVar 5) (aCons (eVar 6) (aCons (eVar 7) aNil)))) (aCons (eVar 9) (aCons (eIf (tTru (eVar 9)) (eC (.non)) (eTup (aCons (eTup (aCons (eTup (aCons (eVar 3) aNil)) (aCons (eVar 4) aNil))) (aCons (eVar 8) aNil)))) aNil)))))) sPass)
  (sSeq (sIf (tVal (eOp dEq (eVar 1) (eC (.int 1)))) (sRet (eTup (aCons (eOwn "_law_shelf_twice" 3 (aCons (eVar 5) (aCons (eVar 6) (aCons (eVar 7) aNil)))) (aCons (eC (.bl false)) (aCons (eTup (aCons (eTup (aCons (eTup (aCons (eVar 3) aNil)) (aCons (eVar 4) aNil))) (aCons (eVar 8) aNil))) aNil))))) sPass)
  (sSeq (sIf (tVal (eOp dEq (eVar 1) (eC (.int 2)))) (sRet (eTup (aCons (eOwn "_law_shelf_rising" 2 (aCons (eVar 5) (aCons (eVar 6) aNil))) (aCons (eC (.bl true)) (aCons (eC (.non)) aNil))))) sPass)
  (sSeq (sIf (tVal (eOp dEq (eVar 1) (eC (.int 3)))) (sSeq (sAsg (gNm 9) (eNot (eOwn "_law_above" 2 (aCons (eVar 7) (aCons (eVar 8) aNil)))))
  (sRet (eTup (aCons (eOwn "_law_shelf_forks" 2 (aCons (eLst (aCons (eTup (aCons (eVar 5) (aCons (eVar 6) aNil))) aNil)) (aCons (eVar 7) aNil))) (aCons (eVar 9) (aCons (eIf (tTru (eVar 9)) (eC (.non)) (eTup (aCons (eTup (aCons (eTup (aCons (eVar 3) aNil)) (aCons (eVar 4) aNil))) (aCons (eVar 8) aNil)))) aNil)))))) sPass)
  (sSeq (sPar [10, 11, 12] (aCons (eOp dAdd (eC (.int 1)) (eOwn "_law_any" 2 (aCons (eVar 0) (aCons (eC (.int 3)) aNil)))) (aCons (eOp dAdd (eC (.int 1)) (eOwn "_law_any" 2 (aCons (eVar 0) (aCons (eC (.int 3)) aNil)))) (aCons (eLst (aCons (eVar 5) (aCons (eVar 6) (aCons (eVar 7) (aCons (eOwn "_law_price" 1 (aCons (eVar 0) aNil)) aNil))))) aNil))))
  (sSeq (sAsg (gNm 9) (eOwn "_law_halves_cheap" 3 (aCons (eVar 10) (aCons (eVar 11) (aCons (eVar 12) aNil)))))
  (sRet (eTup (aCons (eOwn "_law_shelf_halves" 3 (aCons (eVar 10) (aCons (eVar 11) (aCons (eVar 12) aNil)))) (aCons (eVar 9) (aCons (eIf (tTru (eVar 9)) (eC (.non)) (eTup (aCons (eTup (aCons (eTup (aCons (eOwn "_law_at" 2 (aCons (eC (.str "u")) (aCons (eVar 2) aNil))) (aCons (eOwn "_law_at" 2 (aCons (eC (.str "v")) (aCons (eVar 2) aNil))) aNil))) (aCons (eVar 4) aNil))) (aCons (eVar 8) aNil)))) aNil)))))))))))))))
def n35 : Dn := ⟨d35, "_law_known", ["deal"], ["deal", "some", "a", "p", "r", "first", "second", "own", "both", "cheap", "ones", "others", "prices"], c__law_known⟩
def d36 : He.DefD := ⟨("_law_facts_of", none), "_law_facts_of", "_law_facts_of", defArgs (top 43), defBody (top 43), defScope (top 43), [], []⟩
def c__law_facts_of : Stm := (sSeq (sAsg (gTp 2 (gsCons (gNm 4) (gsCons (gNm 5) gsNil))) (eTup (aCons (eOp dIx (eOp dIx (eVar 0) (eC (.int 2))) (eVar 1)) (aCons (eLc [2, 3] (iPl (eOp dIx (eVar 0) (eC (.int 1)))) (gTp 2 (gsCons (gNm 2) (gsCons (gNm 3) gsNil))) tYesE (eVar 2)) aNil))))
  (sSeq (sAsg (gNm 6) (eLc [2] (iPl (eC (.str "abcdefghijklmnop"))) (gNm 2) (tVal (eOp dNotIn (eVar 2) (eVar 5))) (eVar 2)))
  (sSeq (sAsg (gNm 8) (eCall (b1 dDict) (aCons (eLc [2, 7] (iZp (eOwn "_law_variables" 1 (aCons (eVar 4) aNil)) (eVar 6)) (gTp 2 (gsCons (gNm 2) (gsCons (gNm 7) gsNil))) tYesE (eTup (aCons (eVar 2) (aCons (eOwn "_law_plain" 1 (aCons (eVar 7) aNil)) aNil)))) aNil)))
  (sSeq (sAsg (gNm 11) (eLc [2, 9] (iPl (eOp dIx (eVar 4) (eC (.int 0)))) (gTp 2 (gsCons (gNm 2) (gsCons (gNm 9) gsNil))) tYesE (eTup (aCons (eVar 2) (aCons (eCall (b1 dTuple) (aCons (eLc [10] (iPl (eVar 9)) (gNm 10) tYesE (eOwn "_law_fill" 2 (aCons (eVar 10) (aCons (eVar 8) aNil)))) aNil)) aNil)))))
  (sSeq (sAsg (gNm 12) (eCall (b1 dTuple) (aCons (eUn dSrtSet (eVar 11)) aNil)))
  (sSeq (sAsg (gNm 13) (eTup (aCons (eOp dIx (eOp dIx (eVar 4) (eC (.int 1))) (eC (.int 0))) (aCons (eCall (b1 dTuple) (aCons (eLc [10] (iPl (eOp dIx (eOp dIx (eVar 4) (eC (.int 1))) (eC (.int 1)))) (gNm 10) tYesE (eOwn "_law_fill" 2 (aCons (eVar 10) (aCons (eVar 8) aNil)))) aNil)) aNil))))
  (sRet (eTup (aCons (eVar 12) (aCons (eVar 13) (aCons (eTup (aCons (eOp dIx (eOp dIx (eVar 0) (eC (.int 3))) (eVar 1)) (aCons (eCall (b1 dTuple) (aCons (eLc [14] (iPl (eVar 12)) (gNm 14) tYesE (eCall (b1 dLen) (aCons (eLc [15] (iPl (eVar 11)) (gNm 15) (tVal (eOp dEq (eVar 15) (eVar 14))) (eVar 15)) aNil))) aNil)) aNil))) aNil)))))))))))
def n36 : Dn := ⟨d36, "_law_facts_of", ["book", "number"], ["book", "number", "name", "places", "rule", "makers", "plain", "late", "names", "terms", "term", "premises", "facts", "claim", "fact", "line"], c__law_facts_of⟩
def d37 : He.DefD := ⟨("_law_called", none), "_law_called", "_law_called", defArgs (top 44), defBody (top 44), defScope (top 44), [], []⟩
def c__law_called : Stm := (sSeq (sAsg (gNm 5) (eCall (b1 dDict) (aCons (eLc [2, 3, 4] (iZp (eOp dIx (eVar 0) (eC (.int 1))) (eVar 1)) (gTp 2 (gsCons (gTp 2 (gsCons (gNm 2) (gsCons (gNm 3) gsNil))) (gsCons (gNm 4) gsNil))) tYesE (eTup (aCons (eVar 2) (aCons (eVar 4) aNil)))) aNil)))
  (sSeq (sAsg (gNm 6) (eLst aNil))
  (sSeq (sFor (iPl (eOp dIx (eVar 0) (eC (.int 2)))) (gTp 2 (gsCons (gNm 7) (gsCons (gNm 8) gsNil))) (sSeq (sAsg (gNm 9) (eLst aNil))
  (sSeq (sFor (iPl (eOp dAdd (eCall (b1 dList) (aCons (eVar 7) aNil)) (eLst (aCons (eVar 8) aNil)))) (gTp 2 (gsCons (gNm 2) (gsCons (gNm 10) gsNil))) (sExpr (eMth "append" (eVar 9) (aCons (eTup (aCons (eVar 2) (aCons (eCall (b1 dTuple) (aCons (eLc [11] (iPl (eVar 10)) (gNm 11) tYesE (eCall (b1 dTuple) (aCons (eLc [12] (iPl (eVar 11)) (gNm 12) tYesE (eIf (tVal (eOp dGt (eOp dIx (eVar 12) (eC (.int 1))) (eC (.int 0)))) (eTup (aCons (eOp dIx (eVar 5) (eOp dIx (eVar 12) (eC (.int 0)))) (aCons (eOp dIx (eVar 12) (eC (.int 1))) aNil))) (eVar 12))) aNil))) aNil)) aNil))) aNil))))
  (sExpr (eMth "append" (eVar 6) (aCons (eTup (aCons (eCall (b1 dTuple) (aCons (eSl (eVar 9) pNo (pSome (eUn dNeg (eC (.int 1))))) aNil)) (aCons (eOp dIx (eVar 9) (eUn dNeg (eC (.int 1)))) aNil))) aNil))))))
  (sRet (eTup (aCons (eOp dIx (eVar 0) (eC (.int 0))) (aCons (eCall (b1 dTuple) (aCons (eCall (b1 dSorted) (aCons (eLc [2, 3] (iPl (eOp dIx (eVar 0) (eC (.int 1)))) (gTp 2 (gsCons (gNm 2) (gsCons (gNm 3) gsNil))) tYesE (eTup (aCons (eOp dIx (eVar 5) (eVar 2)) (aCons (eVar 3) aNil)))) aNil)) aNil)) (aCons (eCall (b1 dTuple) (aCons (eVar 6) aNil)) (aCons (eOp dIx (eVar 0) (eC (.int 3))) aNil)))))))))
def n37 : Dn := ⟨d37, "_law_called", ["book", "names"], ["book", "names", "name", "places", "late", "new", "rules", "premises", "line", "lines", "terms", "term", "sign"], c__law_called⟩
def d38 : He.DefD := ⟨("law", none), "law", "law", defArgs (top 45), defBody (top 45), defScope (top 45), [], []⟩
def c_law : Stm := (sSeq (sPar [1, 2] (aCons (eOwn "_law_deal" 2 (aCons (eVar 0) (aCons (eC (.int 47)) aNil))) (aCons (eLst aNil) aNil)))
  (sSeq (sFor (iRg1 (aCons (eC (.int 8)) aNil)) (gNm 3) (sSeq (sAsg (gNm 4) (eOwn "_law_of" 2 (aCons (eVar 1) (aCons (eLst (aCons (eOwn "_law_one_place" 3 (aCons (eVar 1) (aCons (eC (.int 3)) (aCons (eC (.int 3)) aNil)))) (aCons (eOwn "_law_steps" 1 (aCons (eVar 1) aNil)) (aCons (eOp dIx (eOwn "_law_known" 1 (aCons (eVar 1) aNil)) (eC (.int 0))) aNil)))) aNil))))
  (sSeq (sAsg (gNm 4) (eIf (tVal (eOp dLt (eCall (b1 dLen) (aCons (eOp dIx (eVar 4) (eC (.int 1))) aNil)) (eC (.int 3)))) (eOwn "_law_called" 2 (aCons (eVar 4) (aCons (eOwn "_law_of" 2 (aCons (eVar 1) (aCons (eLst (aCons (eLst (aCons (eC (.str "a")) (aCons (eC (.str "c")) aNil))) (aCons (eLst (aCons (eC (.str "b")) (aCons (eC (.str "a")) aNil))) (aCons (eLst (aCons (eC (.str "f")) (aCons (eC (.str "g")) aNil))) aNil)))) aNil))) aNil))) (eVar 4)))
  (sSeq (sAsg (gNm 5) (eOwn "_law_handed" 1 (aCons (eVar 4) aNil)))
  (sFor (iRg1 (aCons (eCall (b1 dLen) (aCons (eOp dIx (eVar 4) (eC (.int 2))) aNil)) aNil)) (gNm 6) (sExpr (eMth "append" (eVar 2) (aCons (eTup (aCons (eIf (tVal (eOp dGt (eVar 3) (eC (.int 0)))) (eOwn "rule_facts" 2 (aCons (eVar 5) (aCons (eVar 6) aNil))) (eOwnK "rule_facts" 2 [1, 0] (aCons (eVar 6) (aCons (eVar 5) aNil)))) (aCons (eOwn "_law_facts_of" 2 (aCons (eVar 4) (aCons (eVar 6) aNil))) aNil))) aNil))))))))
  (sSeq (sPar [7, 8] (aCons (eOwn "_law_var" 1 (aCons (eC (.str "x")) aNil)) (aCons (eOwn "_law_var" 1 (aCons (eC (.str "y")) aNil)) aNil)))
  (sSeq (sAsg (gNm 4) (eTup (aCons (eTup (aCons (eTup (aCons (eC (.str "p")) (aCons (eC (.int 1)) aNil))) (aCons (eTup (aCons (eC (.str "sub")) (aCons (eC (.int 2)) aNil))) aNil))) (aCons (eTup (aCons (eTup (aCons (eC (.str "a")) (aCons (eC (.int 1)) aNil))) aNil)) (aCons (eTup (aCons (eTup (aCons (eTup (aCons (eTup (aCons (eC (.str "sub")) (aCons (eTup (aCons (eVar 8) (aCons (eVar 7) aNil))) aNil))) (aCons (eTup (aCons (eC (.str "p")) (aCons (eTup (aCons (eVar 7) aNil)) aNil))) (aCons (eTup (aCons (eC (.str "sub")) (aCons (eTup (aCons (eVar 8) (aCons (eVar 7) aNil))) aNil))) aNil)))) (aCons (eTup (aCons (eC (.str "p")) (aCons (eTup (aCons (eOwn "_law_made" 2 (aCons (eC (.str "a")) (aCons (eVar 8) aNil))) aNil)) aNil))) aNil))) aNil)) (aCons (eTup (aCons (eTup (aCons (eC (.int 7)) (aCons (eC (.int 3)) aNil))) aNil)) aNil))))))
  (sSeq (sPar [9, 10] (aCons (eOwn "_law_plain" 1 (aCons (eC (.str "b")) aNil)) (aCons (eOwn "_law_plain" 1 (aCons (eC (.str "c")) aNil)) aNil)))
  (sSeq (sAsg (gNm 11) (eTup (aCons (eTup (aCons (eTup (aCons (eC (.str "p")) (aCons (eTup (aCons (eVar 10) aNil)) aNil))) (aCons (eTup (aCons (eC (.str "sub")) (aCons (eTup (aCons (eVar 9) (aCons (eVar 10) aNil))) aNil))) aNil))) (aCons (eTup (aCons (eC (.str "p")) (aCons (eTup (aCons (eOwn "_law_made" 2 (aCons (eC (.str "a")) (aCons (eVar 9) aNil))) aNil)) aNil))) (aCons (eTup (aCons (eTup (aCons (eC (.int 7)) (aCons (eC (.int 3)) aNil))) (aCons (eTup (aCons (eC (.int 1)) (aCons (eC (.int 2)) aNil))) aNil))) aNil)))))
  (sRet (eOwn "_law_all" 1 (aCons (eOp dAdd (eVar 2) (eLst (aCons (eTup (aCons (eOwn "rule_facts" 2 (aCons (eOwn "_law_handed" 1 (aCons (eVar 4) aNil)) (aCons (eC (.int 0)) aNil))) (aCons (eVar 11) aNil))) aNil))) aNil)))))))))
def n38 : Dn := ⟨d38, "law", ["script"], ["script", "deal", "pairs", "turn", "book", "handed", "number", "x", "y", "b", "c", "due"], c_law⟩
def fn0 : List He.DefD := [d0, d1, d2, d3, d4, d5, d6, d7, d8, d9, d10, d11, d12, d13, d14, d15, d16, d17, d18, d19]
def fn1 : List He.DefD := [d20, d21, d22, d23, d24, d25, d26, d27, d28, d29, d30, d31, d32, d33, d34, d35, d36, d37, d38]
def fn : List He.DefD := fn0 ++ fn1
def fa0 : List He.Fa := [.glo "number_name", .glo "Book", .glo "plain_names", .glo "unlike_things", .glo "PricedBook", .glo "variables_of_rule", .glo "plain_line", .glo "rule_facts", .glo "_law_deal", .glo "_law_any", .glo "_law_of", .glo "_law_same", .glo "_law_all", .glo "_law_lowest", .glo "_law_plus", .glo "_law_times", .glo "_law_above", .glo "_law_price", .glo "_law_var", .glo "_law_plain"]
def fa1 : List He.Fa := [.glo "_law_made", .glo "_law_fill", .glo "_law_variables", .glo "_law_handed", .glo "_law_at", .glo "_law_one_place", .glo "_law_steps", .glo "_law_shelf_detour", .glo "_law_shelf_twice", .glo "_law_shelf_halves", .glo "_law_shelf_rising", .glo "_law_shelf_forks", .glo "_law_halves_cheap", .glo "_law_known", .glo "_law_facts_of", .glo "_law_called", .glo "law", .cls "Book", .mkr "Book", .noat "Book" "relations"]
def fa2 : List He.Fa := [.noat "Book" "makers", .noat "Book" "rules", .cls "PricedBook", .mkr "PricedBook", .noat "PricedBook" "book", .noat "PricedBook" "prices", .str "SMALL" "abcdefghijklmnopqrstuvwxyz", .int "VARIABLE" (-1), .free "abs", .free "bool", .free "dict", .free "int", .free "isinstance", .free "len", .free "list", .free "range", .free "set", .free "sorted", .free "str", .free "tuple"]
def fa3 : List He.Fa := [.free "zip"]
def fa : List He.Fa := fa0 ++ fa1 ++ fa2 ++ fa3
def lo0 : List Str := ["SMALL", "__name__", "VARIABLE", "number_name", "Book", "plain_names", "unlike_things", "PricedBook", "variables_of_rule", "plain_line", "rule_facts", "_law_deal", "_law_any", "_law_of", "_law_same", "_law_all", "_law_lowest", "_law_plus", "_law_times", "_law_above", "_law_price", "_law_var", "_law_plain", "_law_made", "_law_fill", "_law_variables", "_law_handed", "_law_at", "_law_one_place", "_law_steps"]
def lo1 : List Str := ["_law_shelf_detour", "_law_shelf_twice", "_law_shelf_halves", "_law_shelf_rising", "_law_shelf_forks", "_law_halves_cheap", "_law_known", "_law_facts_of", "_law_called"]
def loose : List Str := lo0 ++ lo1
def tdefs0 : List (Str × Nat) := [("number_name", 1), ("plain_names", 2), ("unlike_things", 1), ("variables_of_rule", 1), ("plain_line", 2), ("rule_facts", 2), ("_law_deal", 2), ("_law_any", 2), ("_law_of", 2), ("_law_same", 2)]
def tdefs1 : List (Str × Nat) := [("_law_all", 1), ("_law_lowest", 2), ("_law_plus", 2), ("_law_times", 2), ("_law_above", 2), ("_law_price", 1), ("_law_var", 1), ("_law_plain", 1), ("_law_made", 2), ("_law_fill", 2)]
def tdefs2 : List (Str × Nat) := [("_law_variables", 1), ("_law_handed", 1), ("_law_at", 2), ("_law_one_place", 3), ("_law_steps", 1), ("_law_shelf_detour", 3), ("_law_shelf_twice", 3), ("_law_shelf_halves", 3), ("_law_shelf_rising", 2), ("_law_shelf_forks", 2)]
def tdefs3 : List (Str × Nat) := [("_law_halves_cheap", 3), ("_law_known", 1), ("_law_facts_of", 2), ("_law_called", 2), ("law", 1)]
def tdefs : List (Str × Nat) := tdefs0 ++ tdefs1 ++ tdefs2 ++ tdefs3
def tkws0 : List (Str × List Str × List Nat) := [("rule_facts", ["number", "priced"], [1, 0])]
def tkws : List (Str × List Str × List Nat) := tkws0
def tcls0 : List (Str × Str × Nat) := [("Book", "Book.__init__", 3), ("PricedBook", "PricedBook.__init__", 2)]
def tcls : List (Str × Str × Nat) := tcls0
def tflds0 : List (Str × List Str) := [("Book", ["relations", "makers", "rules"]), ("PricedBook", ["book", "prices"])]
def tflds : List (Str × List Str) := tflds0
def tcon0 : List (Str × D) := [("SMALL", .str "abcdefghijklmnopqrstuvwxyz"), ("VARIABLE", .int (-1))]
def tcon : List (Str × D) := tcon0
def tblt0 : List (Str) := ["abs", "bool", "dict", "int", "isinstance", "len", "list", "range", "set", "sorted"]
def tblt1 : List (Str) := ["str", "tuple", "zip"]
def tblt : List (Str) := tblt0 ++ tblt1
def tab : Tab := ⟨tdefs, tkws, tcls, tflds, tcon, tblt⟩
def Ds : List Dn := [n0, n1, n2, n3, n4, n5, n6, n7, n8, n9, n10, n11, n12, n13, n14, n15, n16, n17, n18, n19, n20, n21, n22, n23, n24, n25, n26, n27, n28, n29, n30, n31, n32, n33, n34, n35, n36, n37, n38]
theorem code0 : c_number_name = cSs (cS tab n0.N d0.scope 60) d0.body := by kernel_rfl
theorem ok0 : DnOk tab n0 := ⟨rfl, rfl, ⟨rfl, rfl, rfl, by decide +kernel, rfl, by decide +kernel, by decide +kernel⟩, code0, fun _ _ _ _ _ _ us hl => match us, hl with | [_], _ => rfl⟩
theorem code1 : c_Book___init__ = cSs (cS tab n1.N d1.scope 60) d1.body := by kernel_rfl
theorem ok1 : DnOk tab n1 := ⟨rfl, rfl, ⟨rfl, rfl, rfl, by decide +kernel, rfl, by decide +kernel, by decide +kernel⟩, code1, fun _ _ _ _ _ _ us hl => match us, hl with | [_, _, _, _], _ => rfl⟩
theorem code2 : c_Book___eq__ = cSs (cS tab n2.N d2.scope 60) d2.body := by kernel_rfl
theorem ok2 : DnOk tab n2 := ⟨rfl, rfl, ⟨rfl, rfl, rfl, by decide +kernel, rfl, by decide +kernel, by decide +kernel⟩, code2, fun _ _ _ _ _ _ us hl => match us, hl with | [_, _], _ => rfl⟩
theorem code3 : c_plain_names = cSs (cS tab n3.N d3.scope 60) d3.body := by kernel_rfl
theorem ok3 : DnOk tab n3 := ⟨rfl, rfl, ⟨rfl, rfl, rfl, by decide +kernel, rfl, by decide +kernel, by decide +kernel⟩, code3, fun _ _ _ _ _ _ us hl => match us, hl with | [_, _], _ => rfl⟩
theorem code4 : c_unlike_things = cSs (cS tab n4.N d4.scope 60) d4.body := by kernel_rfl
theorem ok4 : DnOk tab n4 := ⟨rfl, rfl, ⟨rfl, rfl, rfl, by decide +kernel, rfl, by decide +kernel, by decide +kernel⟩, code4, fun _ _ _ _ _ _ us hl => match us, hl with | [_], _ => rfl⟩
theorem code5 : c_PricedBook___init__ = cSs (cS tab n5.N d5.scope 60) d5.body := by kernel_rfl
theorem ok5 : DnOk tab n5 := ⟨rfl, rfl, ⟨rfl, rfl, rfl, by decide +kernel, rfl, by decide +kernel, by decide +kernel⟩, code5, fun _ _ _ _ _ _ us hl => match us, hl with | [_, _, _], _ => rfl⟩
theorem code6 : c_PricedBook___eq__ = cSs (cS tab n6.N d6.scope 60) d6.body := by kernel_rfl
theorem ok6 : DnOk tab n6 := ⟨rfl, rfl, ⟨rfl, rfl, rfl, by decide +kernel, rfl, by decide +kernel, by decide +kernel⟩, code6, fun _ _ _ _ _ _ us hl => match us, hl with | [_, _], _ => rfl⟩
theorem code7 : c_variables_of_rule = cSs (cS tab n7.N d7.scope 60) d7.body := by kernel_rfl
theorem ok7 : DnOk tab n7 := ⟨rfl, rfl, ⟨rfl, rfl, rfl, by decide +kernel, rfl, by decide +kernel, by decide +kernel⟩, code7, fun _ _ _ _ _ _ us hl => match us, hl with | [_], _ => rfl⟩
theorem code8 : c_plain_line = cSs (cS tab n8.N d8.scope 60) d8.body := by kernel_rfl
theorem ok8 : DnOk tab n8 := ⟨rfl, rfl, ⟨rfl, rfl, rfl, by decide +kernel, rfl, by decide +kernel, by decide +kernel⟩, code8, fun _ _ _ _ _ _ us hl => match us, hl with | [_, _], _ => rfl⟩
theorem code9 : c_rule_facts = cSs (cS tab n9.N d9.scope 60) d9.body := by kernel_rfl
theorem ok9 : DnOk tab n9 := ⟨rfl, rfl, ⟨rfl, rfl, rfl, by decide +kernel, rfl, by decide +kernel, by decide +kernel⟩, code9, fun _ _ _ _ _ _ us hl => match us, hl with | [_, _], _ => rfl⟩
theorem code10 : c__law_deal = cSs (cS tab n10.N d10.scope 60) d10.body := by kernel_rfl
theorem ok10 : DnOk tab n10 := ⟨rfl, rfl, ⟨rfl, rfl, rfl, by decide +kernel, rfl, by decide +kernel, by decide +kernel⟩, code10, fun _ _ _ _ _ _ us hl => match us, hl with | [_, _], _ => rfl⟩
theorem code11 : c__law_any = cSs (cS tab n11.N d11.scope 60) d11.body := by kernel_rfl
theorem ok11 : DnOk tab n11 := ⟨rfl, rfl, ⟨rfl, rfl, rfl, by decide +kernel, rfl, by decide +kernel, by decide +kernel⟩, code11, fun _ _ _ _ _ _ us hl => match us, hl with | [_, _], _ => rfl⟩
theorem code12 : c__law_of = cSs (cS tab n12.N d12.scope 60) d12.body := by kernel_rfl
theorem ok12 : DnOk tab n12 := ⟨rfl, rfl, ⟨rfl, rfl, rfl, by decide +kernel, rfl, by decide +kernel, by decide +kernel⟩, code12, fun _ _ _ _ _ _ us hl => match us, hl with | [_, _], _ => rfl⟩
theorem code13 : c__law_same = cSs (cS tab n13.N d13.scope 60) d13.body := by kernel_rfl
theorem ok13 : DnOk tab n13 := ⟨rfl, rfl, ⟨rfl, rfl, rfl, by decide +kernel, rfl, by decide +kernel, by decide +kernel⟩, code13, fun _ _ _ _ _ _ us hl => match us, hl with | [_, _], _ => rfl⟩
theorem code14 : c__law_all = cSs (cS tab n14.N d14.scope 60) d14.body := by kernel_rfl
theorem ok14 : DnOk tab n14 := ⟨rfl, rfl, ⟨rfl, rfl, rfl, by decide +kernel, rfl, by decide +kernel, by decide +kernel⟩, code14, fun _ _ _ _ _ _ us hl => match us, hl with | [_], _ => rfl⟩
theorem code15 : c__law_lowest = cSs (cS tab n15.N d15.scope 60) d15.body := by kernel_rfl
theorem ok15 : DnOk tab n15 := ⟨rfl, rfl, ⟨rfl, rfl, rfl, by decide +kernel, rfl, by decide +kernel, by decide +kernel⟩, code15, fun _ _ _ _ _ _ us hl => match us, hl with | [_, _], _ => rfl⟩
theorem code16 : c__law_plus = cSs (cS tab n16.N d16.scope 60) d16.body := by kernel_rfl
theorem ok16 : DnOk tab n16 := ⟨rfl, rfl, ⟨rfl, rfl, rfl, by decide +kernel, rfl, by decide +kernel, by decide +kernel⟩, code16, fun _ _ _ _ _ _ us hl => match us, hl with | [_, _], _ => rfl⟩
theorem code17 : c__law_times = cSs (cS tab n17.N d17.scope 60) d17.body := by kernel_rfl
theorem ok17 : DnOk tab n17 := ⟨rfl, rfl, ⟨rfl, rfl, rfl, by decide +kernel, rfl, by decide +kernel, by decide +kernel⟩, code17, fun _ _ _ _ _ _ us hl => match us, hl with | [_, _], _ => rfl⟩
theorem code18 : c__law_above = cSs (cS tab n18.N d18.scope 60) d18.body := by kernel_rfl
theorem ok18 : DnOk tab n18 := ⟨rfl, rfl, ⟨rfl, rfl, rfl, by decide +kernel, rfl, by decide +kernel, by decide +kernel⟩, code18, fun _ _ _ _ _ _ us hl => match us, hl with | [_, _], _ => rfl⟩
theorem code19 : c__law_price = cSs (cS tab n19.N d19.scope 60) d19.body := by kernel_rfl
theorem ok19 : DnOk tab n19 := ⟨rfl, rfl, ⟨rfl, rfl, rfl, by decide +kernel, rfl, by decide +kernel, by decide +kernel⟩, code19, fun _ _ _ _ _ _ us hl => match us, hl with | [_], _ => rfl⟩
theorem code20 : c__law_var = cSs (cS tab n20.N d20.scope 60) d20.body := by kernel_rfl
theorem ok20 : DnOk tab n20 := ⟨rfl, rfl, ⟨rfl, rfl, rfl, by decide +kernel, rfl, by decide +kernel, by decide +kernel⟩, code20, fun _ _ _ _ _ _ us hl => match us, hl with | [_], _ => rfl⟩
theorem code21 : c__law_plain = cSs (cS tab n21.N d21.scope 60) d21.body := by kernel_rfl
theorem ok21 : DnOk tab n21 := ⟨rfl, rfl, ⟨rfl, rfl, rfl, by decide +kernel, rfl, by decide +kernel, by decide +kernel⟩, code21, fun _ _ _ _ _ _ us hl => match us, hl with | [_], _ => rfl⟩
theorem code22 : c__law_made = cSs (cS tab n22.N d22.scope 60) d22.body := by kernel_rfl
theorem ok22 : DnOk tab n22 := ⟨rfl, rfl, ⟨rfl, rfl, rfl, by decide +kernel, rfl, by decide +kernel, by decide +kernel⟩, code22, fun _ _ _ _ _ _ us hl => match us, hl with | [_, _], _ => rfl⟩
theorem code23 : c__law_fill = cSs (cS tab n23.N d23.scope 60) d23.body := by kernel_rfl
theorem ok23 : DnOk tab n23 := ⟨rfl, rfl, ⟨rfl, rfl, rfl, by decide +kernel, rfl, by decide +kernel, by decide +kernel⟩, code23, fun _ _ _ _ _ _ us hl => match us, hl with | [_, _], _ => rfl⟩
theorem code24 : c__law_variables = cSs (cS tab n24.N d24.scope 60) d24.body := by kernel_rfl
theorem ok24 : DnOk tab n24 := ⟨rfl, rfl, ⟨rfl, rfl, rfl, by decide +kernel, rfl, by decide +kernel, by decide +kernel⟩, code24, fun _ _ _ _ _ _ us hl => match us, hl with | [_], _ => rfl⟩
theorem code25 : c__law_handed = cSs (cS tab n25.N d25.scope 60) d25.body := by kernel_rfl
theorem ok25 : DnOk tab n25 := ⟨rfl, rfl, ⟨rfl, rfl, rfl, by decide +kernel, rfl, by decide +kernel, by decide +kernel⟩, code25, fun _ _ _ _ _ _ us hl => match us, hl with | [_], _ => rfl⟩
theorem code26 : c__law_at = cSs (cS tab n26.N d26.scope 60) d26.body := by kernel_rfl
theorem ok26 : DnOk tab n26 := ⟨rfl, rfl, ⟨rfl, rfl, rfl, by decide +kernel, rfl, by decide +kernel, by decide +kernel⟩, code26, fun _ _ _ _ _ _ us hl => match us, hl with | [_, _], _ => rfl⟩
theorem code27 : c__law_one_place = cSs (cS tab n27.N d27.scope 60) d27.body := by kernel_rfl
theorem ok27 : DnOk tab n27 := ⟨rfl, rfl, ⟨rfl, rfl, rfl, by decide +kernel, rfl, by decide +kernel, by decide +kernel⟩, code27, fun _ _ _ _ _ _ us hl => match us, hl with | [_, _, _], _ => rfl⟩
theorem code28 : c__law_steps = cSs (cS tab n28.N d28.scope 60) d28.body := by kernel_rfl
theorem ok28 : DnOk tab n28 := ⟨rfl, rfl, ⟨rfl, rfl, rfl, by decide +kernel, rfl, by decide +kernel, by decide +kernel⟩, code28, fun _ _ _ _ _ _ us hl => match us, hl with | [_], _ => rfl⟩
theorem code29 : c__law_shelf_detour = cSs (cS tab n29.N d29.scope 60) d29.body := by kernel_rfl
theorem ok29 : DnOk tab n29 := ⟨rfl, rfl, ⟨rfl, rfl, rfl, by decide +kernel, rfl, by decide +kernel, by decide +kernel⟩, code29, fun _ _ _ _ _ _ us hl => match us, hl with | [_, _, _], _ => rfl⟩
theorem code30 : c__law_shelf_twice = cSs (cS tab n30.N d30.scope 60) d30.body := by kernel_rfl
theorem ok30 : DnOk tab n30 := ⟨rfl, rfl, ⟨rfl, rfl, rfl, by decide +kernel, rfl, by decide +kernel, by decide +kernel⟩, code30, fun _ _ _ _ _ _ us hl => match us, hl with | [_, _, _], _ => rfl⟩
theorem code31 : c__law_shelf_halves = cSs (cS tab n31.N d31.scope 60) d31.body := by kernel_rfl
theorem ok31 : DnOk tab n31 := ⟨rfl, rfl, ⟨rfl, rfl, rfl, by decide +kernel, rfl, by decide +kernel, by decide +kernel⟩, code31, fun _ _ _ _ _ _ us hl => match us, hl with | [_, _, _], _ => rfl⟩
theorem code32 : c__law_shelf_rising = cSs (cS tab n32.N d32.scope 60) d32.body := by kernel_rfl
theorem ok32 : DnOk tab n32 := ⟨rfl, rfl, ⟨rfl, rfl, rfl, by decide +kernel, rfl, by decide +kernel, by decide +kernel⟩, code32, fun _ _ _ _ _ _ us hl => match us, hl with | [_, _], _ => rfl⟩
theorem code33 : c__law_shelf_forks = cSs (cS tab n33.N d33.scope 60) d33.body := by kernel_rfl
theorem ok33 : DnOk tab n33 := ⟨rfl, rfl, ⟨rfl, rfl, rfl, by decide +kernel, rfl, by decide +kernel, by decide +kernel⟩, code33, fun _ _ _ _ _ _ us hl => match us, hl with | [_, _], _ => rfl⟩
theorem code34 : c__law_halves_cheap = cSs (cS tab n34.N d34.scope 60) d34.body := by kernel_rfl
theorem ok34 : DnOk tab n34 := ⟨rfl, rfl, ⟨rfl, rfl, rfl, by decide +kernel, rfl, by decide +kernel, by decide +kernel⟩, code34, fun _ _ _ _ _ _ us hl => match us, hl with | [_, _, _], _ => rfl⟩
theorem code35 : c__law_known = cSs (cS tab n35.N d35.scope 60) d35.body := by kernel_rfl
theorem ok35 : DnOk tab n35 := ⟨rfl, rfl, ⟨rfl, rfl, rfl, by decide +kernel, rfl, by decide +kernel, by decide +kernel⟩, code35, fun _ _ _ _ _ _ us hl => match us, hl with | [_], _ => rfl⟩
theorem code36 : c__law_facts_of = cSs (cS tab n36.N d36.scope 60) d36.body := by kernel_rfl
theorem ok36 : DnOk tab n36 := ⟨rfl, rfl, ⟨rfl, rfl, rfl, by decide +kernel, rfl, by decide +kernel, by decide +kernel⟩, code36, fun _ _ _ _ _ _ us hl => match us, hl with | [_, _], _ => rfl⟩
theorem code37 : c__law_called = cSs (cS tab n37.N d37.scope 60) d37.body := by kernel_rfl
theorem ok37 : DnOk tab n37 := ⟨rfl, rfl, ⟨rfl, rfl, rfl, by decide +kernel, rfl, by decide +kernel, by decide +kernel⟩, code37, fun _ _ _ _ _ _ us hl => match us, hl with | [_, _], _ => rfl⟩
theorem code38 : c_law = cSs (cS tab n38.N d38.scope 60) d38.body := by kernel_rfl
theorem ok38 : DnOk tab n38 := ⟨rfl, rfl, ⟨rfl, rfl, rfl, by decide +kernel, rfl, by decide +kernel, by decide +kernel⟩, code38, fun _ _ _ _ _ _ us hl => match us, hl with | [_], _ => rfl⟩
theorem r_number_name (k : Nat) (x0 : D) (g : Hh) : Ev.run Ds (k + 1) "number_name" [x0] g = outR (c_number_name (Ev.run Ds k) [some x0, none, none] g) := by kernel_rfl
theorem r_Book___init__ (k : Nat) (x0 x1 x2 x3 : D) (g : Hh) : Ev.run Ds (k + 1) "Book.__init__" [x0, x1, x2, x3] g = outR (c_Book___init__ (Ev.run Ds k) [some x0, some x1, some x2, some x3] g) := by kernel_rfl
theorem r_Book___eq__ (k : Nat) (x0 x1 : D) (g : Hh) : Ev.run Ds (k + 1) "Book.__eq__" [x0, x1] g = outR (c_Book___eq__ (Ev.run Ds k) [some x0, some x1] g) := by kernel_rfl
theorem r_plain_names (k : Nat) (x0 x1 : D) (g : Hh) : Ev.run Ds (k + 1) "plain_names" [x0, x1] g = outR (c_plain_names (Ev.run Ds k) [some x0, some x1, none, none, none, none, none] g) := by kernel_rfl
theorem r_unlike_things (k : Nat) (x0 : D) (g : Hh) : Ev.run Ds (k + 1) "unlike_things" [x0] g = outR (c_unlike_things (Ev.run Ds k) [some x0, none, none] g) := by kernel_rfl
theorem r_PricedBook___init__ (k : Nat) (x0 x1 x2 : D) (g : Hh) : Ev.run Ds (k + 1) "PricedBook.__init__" [x0, x1, x2] g = outR (c_PricedBook___init__ (Ev.run Ds k) [some x0, some x1, some x2] g) := by kernel_rfl
theorem r_PricedBook___eq__ (k : Nat) (x0 x1 : D) (g : Hh) : Ev.run Ds (k + 1) "PricedBook.__eq__" [x0, x1] g = outR (c_PricedBook___eq__ (Ev.run Ds k) [some x0, some x1] g) := by kernel_rfl
theorem r_variables_of_rule (k : Nat) (x0 : D) (g : Hh) : Ev.run Ds (k + 1) "variables_of_rule" [x0] g = outR (c_variables_of_rule (Ev.run Ds k) [some x0, none, none, none, none, none] g) := by kernel_rfl
theorem r_plain_line (k : Nat) (x0 x1 : D) (g : Hh) : Ev.run Ds (k + 1) "plain_line" [x0, x1] g = outR (c_plain_line (Ev.run Ds k) [some x0, some x1, none, none, none, none] g) := by kernel_rfl
theorem r_rule_facts (k : Nat) (x0 x1 : D) (g : Hh) : Ev.run Ds (k + 1) "rule_facts" [x0, x1] g = outR (c_rule_facts (Ev.run Ds k) [some x0, some x1, none, none, none, none, none, none, none] g) := by kernel_rfl
theorem r__law_deal (k : Nat) (x0 x1 : D) (g : Hh) : Ev.run Ds (k + 1) "_law_deal" [x0, x1] g = outR (c__law_deal (Ev.run Ds k) [some x0, some x1, none, none, none, none] g) := by kernel_rfl
theorem r__law_any (k : Nat) (x0 x1 : D) (g : Hh) : Ev.run Ds (k + 1) "_law_any" [x0, x1] g = outR (c__law_any (Ev.run Ds k) [some x0, some x1, none] g) := by kernel_rfl
theorem r__law_of (k : Nat) (x0 x1 : D) (g : Hh) : Ev.run Ds (k + 1) "_law_of" [x0, x1] g = outR (c__law_of (Ev.run Ds k) [some x0, some x1] g) := by kernel_rfl
theorem r__law_same (k : Nat) (x0 x1 : D) (g : Hh) : Ev.run Ds (k + 1) "_law_same" [x0, x1] g = outR (c__law_same (Ev.run Ds k) [some x0, some x1, none] g) := by kernel_rfl
theorem r__law_all (k : Nat) (x0 : D) (g : Hh) : Ev.run Ds (k + 1) "_law_all" [x0] g = outR (c__law_all (Ev.run Ds k) [some x0, none, none] g) := by kernel_rfl
theorem r__law_lowest (k : Nat) (x0 x1 : D) (g : Hh) : Ev.run Ds (k + 1) "_law_lowest" [x0, x1] g = outR (c__law_lowest (Ev.run Ds k) [some x0, some x1, none, none, none] g) := by kernel_rfl
theorem r__law_plus (k : Nat) (x0 x1 : D) (g : Hh) : Ev.run Ds (k + 1) "_law_plus" [x0, x1] g = outR (c__law_plus (Ev.run Ds k) [some x0, some x1] g) := by kernel_rfl
theorem r__law_times (k : Nat) (x0 x1 : D) (g : Hh) : Ev.run Ds (k + 1) "_law_times" [x0, x1] g = outR (c__law_times (Ev.run Ds k) [some x0, some x1] g) := by kernel_rfl
theorem r__law_above (k : Nat) (x0 x1 : D) (g : Hh) : Ev.run Ds (k + 1) "_law_above" [x0, x1] g = outR (c__law_above (Ev.run Ds k) [some x0, some x1] g) := by kernel_rfl
theorem r__law_price (k : Nat) (x0 : D) (g : Hh) : Ev.run Ds (k + 1) "_law_price" [x0] g = outR (c__law_price (Ev.run Ds k) [some x0] g) := by kernel_rfl
theorem r__law_var (k : Nat) (x0 : D) (g : Hh) : Ev.run Ds (k + 1) "_law_var" [x0] g = outR (c__law_var (Ev.run Ds k) [some x0] g) := by kernel_rfl
theorem r__law_plain (k : Nat) (x0 : D) (g : Hh) : Ev.run Ds (k + 1) "_law_plain" [x0] g = outR (c__law_plain (Ev.run Ds k) [some x0] g) := by kernel_rfl
theorem r__law_made (k : Nat) (x0 x1 : D) (g : Hh) : Ev.run Ds (k + 1) "_law_made" [x0, x1] g = outR (c__law_made (Ev.run Ds k) [some x0, some x1] g) := by kernel_rfl
theorem r__law_fill (k : Nat) (x0 x1 : D) (g : Hh) : Ev.run Ds (k + 1) "_law_fill" [x0, x1] g = outR (c__law_fill (Ev.run Ds k) [some x0, some x1, none, none] g) := by kernel_rfl
theorem r__law_variables (k : Nat) (x0 : D) (g : Hh) : Ev.run Ds (k + 1) "_law_variables" [x0] g = outR (c__law_variables (Ev.run Ds k) [some x0, none, none, none, none, none] g) := by kernel_rfl
theorem r__law_handed (k : Nat) (x0 : D) (g : Hh) : Ev.run Ds (k + 1) "_law_handed" [x0] g = outR (c__law_handed (Ev.run Ds k) [some x0] g) := by kernel_rfl
theorem r__law_at (k : Nat) (x0 x1 : D) (g : Hh) : Ev.run Ds (k + 1) "_law_at" [x0, x1] g = outR (c__law_at (Ev.run Ds k) [some x0, some x1] g) := by kernel_rfl
theorem r__law_one_place (k : Nat) (x0 x1 x2 : D) (g : Hh) : Ev.run Ds (k + 1) "_law_one_place" [x0, x1, x2] g = outR (c__law_one_place (Ev.run Ds k) [some x0, some x1, some x2, none, none, none, none, none, none, none, none, none, none] g) := by kernel_rfl
theorem r__law_steps (k : Nat) (x0 : D) (g : Hh) : Ev.run Ds (k + 1) "_law_steps" [x0] g = outR (c__law_steps (Ev.run Ds k) [some x0, none, none, none, none, none, none] g) := by kernel_rfl
theorem r__law_shelf_detour (k : Nat) (x0 x1 x2 : D) (g : Hh) : Ev.run Ds (k + 1) "_law_shelf_detour" [x0, x1, x2] g = outR (c__law_shelf_detour (Ev.run Ds k) [some x0, some x1, some x2, none, none, none] g) := by kernel_rfl
theorem r__law_shelf_twice (k : Nat) (x0 x1 x2 : D) (g : Hh) : Ev.run Ds (k + 1) "_law_shelf_twice" [x0, x1, x2] g = outR (c__law_shelf_twice (Ev.run Ds k) [some x0, some x1, some x2, none, none] g) := by kernel_rfl
theorem r__law_shelf_halves (k : Nat) (x0 x1 x2 : D) (g : Hh) : Ev.run Ds (k + 1) "_law_shelf_halves" [x0, x1, x2] g = outR (c__law_shelf_halves (Ev.run Ds k) [some x0, some x1, some x2, none, none, none, none, none, none] g) := by kernel_rfl
theorem r__law_shelf_rising (k : Nat) (x0 x1 : D) (g : Hh) : Ev.run Ds (k + 1) "_law_shelf_rising" [x0, x1] g = outR (c__law_shelf_rising (Ev.run Ds k) [some x0, some x1, none, none, none, none] g) := by kernel_rfl
theorem r__law_shelf_forks (k : Nat) (x0 x1 : D) (g : Hh) : Ev.run Ds (k + 1) "_law_shelf_forks" [x0, x1] g = outR (c__law_shelf_forks (Ev.run Ds k) [some x0, some x1, none, none, none, none, none, none, none, none, none, none] g) := by kernel_rfl
theorem r__law_halves_cheap (k : Nat) (x0 x1 x2 : D) (g : Hh) : Ev.run Ds (k + 1) "_law_halves_cheap" [x0, x1, x2] g = outR (c__law_halves_cheap (Ev.run Ds k) [some x0, some x1, some x2, none, none, none, none, none] g) := by kernel_rfl
theorem r__law_known (k : Nat) (x0 : D) (g : Hh) : Ev.run Ds (k + 1) "_law_known" [x0] g = outR (c__law_known (Ev.run Ds k) [some x0, none, none, none, none, none, none, none, none, none, none, none, none] g) := by kernel_rfl
theorem r__law_facts_of (k : Nat) (x0 x1 : D) (g : Hh) : Ev.run Ds (k + 1) "_law_facts_of" [x0, x1] g = outR (c__law_facts_of (Ev.run Ds k) [some x0, some x1, none, none, none, none, none, none, none, none, none, none, none, none, none, none] g) := by kernel_rfl
theorem r__law_called (k : Nat) (x0 x1 : D) (g : Hh) : Ev.run Ds (k + 1) "_law_called" [x0, x1] g = outR (c__law_called (Ev.run Ds k) [some x0, some x1, none, none, none, none, none, none, none, none, none, none, none] g) := by kernel_rfl
theorem r_law (k : Nat) (x0 : D) (g : Hh) : Ev.run Ds (k + 1) "law" [x0] g = outR (c_law (Ev.run Ds k) [some x0, none, none, none, none, none, none, none, none, none, none, none] g) := by kernel_rfl
theorem okAll : ∀ d ∈ Ds, DnOk tab d := by
  intro d hd
  unfold Ds at hd
  rcases List.mem_cons.mp hd with e | hd
  · rw [e]; exact ok0
  rcases List.mem_cons.mp hd with e | hd
  · rw [e]; exact ok1
  rcases List.mem_cons.mp hd with e | hd
  · rw [e]; exact ok2
  rcases List.mem_cons.mp hd with e | hd
  · rw [e]; exact ok3
  rcases List.mem_cons.mp hd with e | hd
  · rw [e]; exact ok4
  rcases List.mem_cons.mp hd with e | hd
  · rw [e]; exact ok5
  rcases List.mem_cons.mp hd with e | hd
  · rw [e]; exact ok6
  rcases List.mem_cons.mp hd with e | hd
  · rw [e]; exact ok7
  rcases List.mem_cons.mp hd with e | hd
  · rw [e]; exact ok8
  rcases List.mem_cons.mp hd with e | hd
  · rw [e]; exact ok9
  rcases List.mem_cons.mp hd with e | hd
  · rw [e]; exact ok10
  rcases List.mem_cons.mp hd with e | hd
  · rw [e]; exact ok11
  rcases List.mem_cons.mp hd with e | hd
  · rw [e]; exact ok12
  rcases List.mem_cons.mp hd with e | hd
  · rw [e]; exact ok13
  rcases List.mem_cons.mp hd with e | hd
  · rw [e]; exact ok14
  rcases List.mem_cons.mp hd with e | hd
  · rw [e]; exact ok15
  rcases List.mem_cons.mp hd with e | hd
  · rw [e]; exact ok16
  rcases List.mem_cons.mp hd with e | hd
  · rw [e]; exact ok17
  rcases List.mem_cons.mp hd with e | hd
  · rw [e]; exact ok18
  rcases List.mem_cons.mp hd with e | hd
  · rw [e]; exact ok19
  rcases List.mem_cons.mp hd with e | hd
  · rw [e]; exact ok20
  rcases List.mem_cons.mp hd with e | hd
  · rw [e]; exact ok21
  rcases List.mem_cons.mp hd with e | hd
  · rw [e]; exact ok22
  rcases List.mem_cons.mp hd with e | hd
  · rw [e]; exact ok23
  rcases List.mem_cons.mp hd with e | hd
  · rw [e]; exact ok24
  rcases List.mem_cons.mp hd with e | hd
  · rw [e]; exact ok25
  rcases List.mem_cons.mp hd with e | hd
  · rw [e]; exact ok26
  rcases List.mem_cons.mp hd with e | hd
  · rw [e]; exact ok27
  rcases List.mem_cons.mp hd with e | hd
  · rw [e]; exact ok28
  rcases List.mem_cons.mp hd with e | hd
  · rw [e]; exact ok29
  rcases List.mem_cons.mp hd with e | hd
  · rw [e]; exact ok30
  rcases List.mem_cons.mp hd with e | hd
  · rw [e]; exact ok31
  rcases List.mem_cons.mp hd with e | hd
  · rw [e]; exact ok32
  rcases List.mem_cons.mp hd with e | hd
  · rw [e]; exact ok33
  rcases List.mem_cons.mp hd with e | hd
  · rw [e]; exact ok34
  rcases List.mem_cons.mp hd with e | hd
  · rw [e]; exact ok35
  rcases List.mem_cons.mp hd with e | hd
  · rw [e]; exact ok36
  rcases List.mem_cons.mp hd with e | hd
  · rw [e]; exact ok37
  rcases List.mem_cons.mp hd with e | hd
  · rw [e]; exact ok38
  cases hd
theorem kwOk : ∀ f ks ix, (f, ks, ix) ∈ tab.kws → ∀ d, findD Ds f = some d → ∀ (kV doc pm : Value) (an : Option Addr) (cdv ct : Value) (ws : List Value), ws.length = ks.length →
    bindArgs (PySem.W.fnOf d.d.name d.d.qual d.d.params d.d.body d.d.scope .none kV doc pm an cdv ct) ⟨[], ks.zip ws⟩ = pure (d.ps.zip (ordK ix ws)) := by
  intro f ks ix hm d hd kV doc pm an cdv ct ws hl
  have hm : (f, ks, ix) ∈ ([("rule_facts", ["number", "priced"], [1, 0])] : List (Str × List Str × List Nat)) := hm
  rcases List.mem_cons.mp hm with e | hm
  · cases e
    have e : findD Ds "rule_facts" = some n9 := by kernel_rfl
    rw [e] at hd
    cases hd
    exact match ws, hl with | [_, _], _ => rfl
  cases hm
abbrev R : PySem.W.OpenRow := PySem.W.OpenLaw.row lawT
abbrev hk : PySem.W.Hook := He.hookD 5 fa fn
def ob (s : PySem.W.SharedT) : He.AlD := He.obsDG 5 fa fn (HandSHeadRun.getT s)
theorem ob_eq (s : PySem.W.SharedT) : ob s = hk.obs s.abs := He.obsDG_eq (HandSHeadRun.getT_eq s)
theorem runs (w : World) : HandSHeadRun.RunEq R (PySem.W.view R.prog [45]) hk ob 3000 loose w := by
  intro os
  kernel_rfl
theorem facts {K : PySem.W.Frag} {h : Heap} {mg : Str → Option Value} (X : K.In h) (G : h.Ns mainGlobals mg) (c : He.SaysD fa fn K) : Facts K mg tab Ds :=
  facts_of X G c rfl okAll (by decide +kernel) kwOk
theorem glaw {K : PySem.W.Frag} {h : Heap} {mg : Str → Option Value} (X : K.In h) (G : h.Ns mainGlobals mg) (c : He.SaysD fa fn K) : mg ("law" : Str) = some (.ref (He.ga K "law")) :=
  He.glo_ok X G (has_glo c (by decide +kernel))
end T
namespace T
open PySem PySem.Spec PyProof.Rows L2 Ev
local macro_rules | `(tactic| walk_at "ev") => `(tactic| try simp only [Tr_bind, Tr_ok, Tr_err, Tr_of, TO_some, TO_none, TS_seq, TS_if, TS_for, TS_par, TS_out, TS_outB, TS_outT, TS_nx, TS_ret, TS_bk, TS_ct, TS_err, Tr_outR, Tr_if, TO_if, TO_map,
  eVar, eC, eOp, eUn, eIf, aNil, aCons, eTup, eLst, new_t0, new_t1, new_t2, new_t3, new_t4, new_t6, new_l0, wipeD, yes_ok, pl_ok, tup_t, src_t, truE_ok, tru_bl, isi_tt, isi_it, isi_st, isi_is, isi_ss, isi_ii, isi_ib, is_in, is_sn, is_ib, is_sb, eAnd, eOr, Bool.not_true, Bool.not_false, Bool.false_eq_true, tAndE, tOrE, tNotE, tVal, eNot, eCall, b1, b2, eOwn, sAsg, sRet, sExpr, sPass, sAug, gNm, gsNil, gsCons, gTp, gSb,
  gt_i, lt_i, le_i, ge_i, eq_i, ne_i, add_i, iadd_i, sub_i, neg_i, int_i, abs_i, len_t,
  List.getElem?_cons_zero, List.getElem?_cons_succ, List.set_cons_zero, List.set_cons_succ, List.length_cons, List.length_nil, if_true, if_false, if_pos, List.zip_cons_cons, List.zip_nil_left, List.foldl_cons, List.foldl_nil, Nat.reduceAdd, reduceIte])

/-- the dealing thing: its list n, its cells c -/
structure Dc (n c : Nat) (g : Hh) (cells : List Int) (mix : Int) : Prop where
  ne : n ≠ c
  n_ : g[n]? = some (.lst [.ref c, .int mix])
  c_ : g[c]? = some (.lst (cells.map .int))
  pos : ∀ x ∈ cells, 0 ≤ x
  m0 : 0 ≤ mix
  m1 : mix < 2147483647
  len : cells.length ≤ 63
def Dl (n c : Nat) (g : Hh) : Prop := ∃ cells mix, Dc n c g cells mix
theorem Dc.put {n c : Nat} {g : Hh} {cells cells' : List Int} {mix : Int} (D : Dc n c g cells mix) (h : ∀ x ∈ cells', 0 ≤ x) (hl : cells'.length ≤ 63) : Dc n c (g.set c (.lst (cells'.map .int))) cells' mix :=
  ⟨D.ne, by rw [List.getElem?_set_ne (Ne.symm D.ne)]; exact D.n_, get_set (lt_of_get D.c_), h, D.m0, D.m1, hl⟩
theorem last_int (l : List Int) (h : l ≠ []) : atI (l.map D.int) (-1) = some (.int (l.getLast h)) := by
  have hl := List.length_pos_iff.mpr h
  unfold atI ixN
  rw [List.length_map, if_neg (by omega), if_pos (by omega)]
  show (l.map D.int)[_]? = _
  rw [List.getElem?_map, show ((-1 : Int) + (l.length : Int)).toNat = l.length - 1 by omega, ← List.getLast?_eq_getElem?, List.getLast?_eq_some_getLast h]
  rfl
theorem any_ok {k n c : Nat} {g : Hh} {b : Int} (hd : Dl n c g) (hb : 0 < b) (hb2 : b < 1000) :
    Tr (run Ds (k + 1) "_law_any" [.ref n, .int b] g) fun d g' => ∃ r, d = .int r ∧ 0 ≤ r ∧ r < b ∧ Kp [n, c] g g' ∧ Dl n c g' := by
  obtain ⟨cells, mix, D⟩ := hd
  rw [r__law_any, Tr_outR]
  unfold c__law_any
  rw [TS_seq]
  refine while_ok (fun m ρ g' => ∃ cells, m = cells.length ∧ ρ = [some (.ref n), some (.int b), none] ∧ Dc n c g' cells mix ∧ Kp [n, c] g g') cells.length (by have := D.len; omega) ?_ ⟨cells, rfl, rfl, D, .refl⟩
  clear D cells
  rintro m ρ g1 ⟨cells, rfl, rfl, D, K⟩
  have back : Tr (tAndE (tVal (eOp dGt (eCall (b1 dLen) (aCons (eOp dIx (eVar 0) (eC (.int 0))) aNil)) (eC (.int 0)))) (tVal (eOp dEq (eOp dIx (eOp dIx (eVar 0) (eC (.int 0))) (eUn dNeg (eC (.int 1)))) (eC (.int 0)))) (run Ds k) [some (.ref n), some (.int b), none] g1)
      fun q g' => g' = g1 ∧ (q = true → cells ≠ []) := by
    walk_at "ev"
    simp only [ix_l D.n_ at0, len_l D.c_, List.length_map]
    walk_at "ev"
    by_cases hl : cells = []
    · subst hl
      simp
    · have hp := List.length_pos_iff.mpr hl
      rw [if_pos (by simpa using hp)]
      simp only [ix_l D.n_ at0]
      simp only [ix_l D.c_ (last_int cells hl)]
      walk_at "ev"
      exact ⟨trivial, fun _ => hl⟩
  refine back.mono fun q g2 ⟨e, hq⟩ => ?_
  subst e
  cases q with
  | true =>
    rw [if_pos rfl]
    obtain ⟨l, z, e⟩ : ∃ l z, cells = l ++ [z] := ⟨_, _, (List.dropLast_concat_getLast (hq rfl)).symm⟩
    subst e
    have hc := D.c_
    rw [List.map_append] at hc
    walk_at "ev"
    refine tr_mth bm_pop ?_
    walk_at "ev"
    simp only [ix_l D.n_ at0]
    refine ⟨ty_l D.c_, ?_⟩
    rw [pop_l hc]
    exact ⟨l.length, by simp, l, rfl, ⟨⟩, D.put (fun x hx => D.pos x (by simp [hx])) (by have := D.len; simp at this; omega), K.trans (Kp.set (by simp))⟩
  | false =>
    rw [if_neg Bool.false_ne_true]
    clear hq back
    walk_at "ev"
    simp only [ix_l D.n_ at0, len_l D.c_, List.length_map]
    walk_at "ev"
    by_cases hl : cells = []
    · subst hl
      rw [if_neg (by simp)]
      simp only [ix_l D.n_ at1]
      have m0 := D.m0
      have m1 := D.m1
      have q0 : (mix * 48271 + 31).fmod 2147483647 = (mix * 48271 + 31) % 2147483647 := Int.fmod_eq_emod_of_nonneg _ (by omega)
      rw [mul_i (by omega) (by decide)]
      walk_at "ev"
      rw [mod_i (by omega)]
      have st : dSet (.ref n) (.int 1) (.int ((mix * 48271 + 31).fmod 2147483647)) g2 = some (g2.set n (.lst [.ref c, .int ((mix * 48271 + 31).fmod 2147483647)])) := set_l (k := 1) D.n_ rfl
      rw [st]
      walk_at "ev"
      have D' : Dc n c (g2.set n (.lst [.ref c, .int ((mix * 48271 + 31).fmod 2147483647)])) [] ((mix * 48271 + 31).fmod 2147483647) :=
        ⟨D.ne, get_set (lt_of_get D.n_), by rw [List.getElem?_set_ne D.ne]; exact D.c_, (fun _ h => nomatch h), by omega, by omega, by decide⟩
      rw [ix_l D'.n_ at1, div_i (by omega) (by decide)]
      walk_at "ev"
      rw [mod_i (by omega)]
      exact ⟨_, rfl, Int.fmod_nonneg_of_pos _ hb, Int.fmod_lt_of_pos _ hb, K.trans (Kp.set (by simp)), _, _, D'⟩
    · have hp := List.length_pos_iff.mpr hl
      rw [if_pos (by simpa using hp)]
      obtain ⟨l, z, e⟩ : ∃ l z, cells = l ++ [z] := ⟨_, _, (List.dropLast_concat_getLast hl).symm⟩
      subst e
      have hc := D.c_
      rw [List.map_append] at hc
      have z0 : 0 ≤ z := D.pos z (by simp)
      have ll := D.len
      simp at ll
      refine tr_mth bm_pop ?_
      walk_at "ev"
      simp only [ix_l D.n_ at0]
      refine ⟨ty_l D.c_, ?_⟩
      rw [pop_l hc]
      walk_at "ev"
      have D' : Dc n c (g2.set c (.lst (l.map .int))) l mix := D.put (fun x hx => D.pos x (by simp [hx])) (by omega)
      refine tr_mth bm_append ?_
      walk_at "ev"
      simp only [ix_l D'.n_ at0]
      refine ⟨ty_l D'.c_, ?_⟩
      rw [div_i (by omega) (by omega)]
      rw [app_l D'.c_ (by rw [List.length_map, sizeLine_eq]; omega)]
      rw [mod_i (by omega)]
      have D2 := D'.put (cells' := l ++ [z.fdiv b]) (fun x hx => by
        rcases List.mem_append.mp hx with h | h
        · exact D'.pos x h
        · rw [List.mem_singleton.mp h]; exact Int.fdiv_nonneg z0 (by omega)) (by simp; omega)
      rw [List.map_append] at D2
      exact ⟨_, rfl, Int.fmod_nonneg_of_pos _ hb, Int.fmod_lt_of_pos _ hb, (K.trans (Kp.set (by simp))).trans (Kp.set (by simp)), _, _, D2⟩

/-! names a, b, .. -/
def letter (i : Nat) : Str := ⟨#[97 + i]⟩
def letters (n : Nat) : List Str := (List.range n).map letter
theorem abc_at {i : Nat} (h : i < 26) : atI (Str.cps ("abcdefghijklmnopqrstuvwxyz" : Str)).toList (i : Int) = some (97 + i) := by
  have : ∀ i : _root_.Fin 26, atI (Str.cps ("abcdefghijklmnopqrstuvwxyz" : Str)).toList ((i.val : Nat) : Int) = some (97 + i.val) := by decide +kernel
  exact this ⟨i, h⟩
theorem str_app0 (c : Nat) : (⟨#[c]⟩ : Str) ++ ("" : Str) = ⟨#[c]⟩ := by
  show Str.mk (#[c] ++ (Str.cps ("" : Str))) = _
  rfl
theorem name_ok {k i : Nat} {g : Hh} (h : i < 26) : run Ds (k + 1) "number_name" [.int i] g = .ok (.str (letter i)) g := by
  suffices h : Tr (run Ds (k + 1) "number_name" [.int i] g) fun d g' => d = .str (letter i) ∧ g' = g by
    revert h
    cases run Ds (k + 1) "number_name" [.int i] g with
    | ok d g' => rintro ⟨rfl, rfl⟩; rfl
    | _ => exact fun h => h.elim
  rw [r_number_name]
  unfold c_number_name
  walk_at "ev"
  refine while_ok (fun m ρ g' => g' = g ∧ ((m = 1 ∧ ρ = [some (.int i), some (.str ""), some (.int (i + 1))]) ∨ (m = 0 ∧ ρ = [some (.int i), some (.str (letter i)), some (.int 0)]))) 1 (by decide) ?_ ⟨rfl, .inl ⟨rfl, rfl⟩⟩
  rintro m ρ g1 ⟨rfl, ⟨rfl, rfl⟩ | ⟨rfl, rfl⟩⟩
  · walk_at "ev"
    rw [if_pos (by simp)]
    have l26 : (dLen (.str "abcdefghijklmnopqrstuvwxyz") g1) = some (.int 26, g1) := by
      have hl : Str.length ("abcdefghijklmnopqrstuvwxyz" : Str) ≤ sizeLine := by decide +kernel
      have e : lenD g1 (.str "abcdefghijklmnopqrstuvwxyz") = some 26 := by
        show (if Str.length ("abcdefghijklmnopqrstuvwxyz" : Str) ≤ sizeLine then some (Str.length ("abcdefghijklmnopqrstuvwxyz" : Str)) else none) = _
        rw [if_pos hl]
        rfl
      unfold dLen
      rw [e]
      rfl
    simp only [l26, TO_some]
    rw [mod_i (by decide)]
    have e1 : ((i : Int) + 1 - 1).fmod 26 = i := by
      rw [Int.fmod_eq_emod_of_nonneg _ (by decide)]
      omega
    have ix : dIx (.str "abcdefghijklmnopqrstuvwxyz") (.int i) g1 = some (.str ⟨#[97 + i]⟩, g1) := by
      unfold dIx
      dsimp only
      rw [if_pos (by decide +kernel), abc_at h]
      rfl
    rw [e1, ix]
    walk_at "ev"
    have ad : dAdd (.str ⟨#[97 + i]⟩) (.str "") g1 = some (.str ⟨#[97 + i]⟩, g1) := by
      unfold dAdd
      dsimp only
      rw [if_pos (show Str.length ⟨#[97 + i]⟩ + Str.length "" ≤ sizeLine by rw [sizeLine_eq]; exact Nat.le_of_ble_eq_true rfl), str_app0]
    simp only [ad, TO_some, l26]
    walk_at "ev"
    rw [div_i (by decide) (by decide)]
    refine ⟨0, by decide, rfl, .inr ⟨rfl, ?_⟩⟩
    have e2 : ((i : Int) + 1 - 1).fdiv 26 = 0 := by
      rw [Int.fdiv_eq_ediv_of_nonneg _ (by decide)]
      omega
    rw [e2]
    rfl
  · walk_at "ev"
    rw [if_neg (by decide)]
    simp

/-! books -/
structure Bk where
  rel : List Sg
  mks : List Sg
  rl : List Rl
  pr : List (Int × Int)
def bkD (b : Bk) : D := .tup [.tup (b.rel.map sgD), .tup (b.mks.map sgD), .tup (b.rl.map rlD), .tup (b.pr.map prD)]
def BookAt (b : Nat) (B : Bk) (g : Hh) : Prop := g[b]? = some (.ins "Book" [("relations", .tup (B.rel.map sgD)), ("makers", .tup (B.mks.map sgD)), ("rules", .tup (B.rl.map rlD))])
def PbAt (p b : Nat) (B : Bk) (g : Hh) : Prop := g[p]? = some (.ins "PricedBook" [("book", .ref b), ("prices", .tup (B.pr.map prD))]) ∧ BookAt b B g
theorem lk_mk {a b d : D} : List.lookup ("makers" : Str) [(("relations" : Str), a), ("makers", b), ("rules", d)] = some b := rfl
theorem lk_rl {a b d : D} : List.lookup ("rules" : Str) [(("relations" : Str), a), ("makers", b), ("rules", d)] = some d := rfl
theorem lk_bk {a b : D} : List.lookup ("book" : Str) [(("book" : Str), a), ("prices", b)] = some a := rfl
theorem lk_pr {a b : D} : List.lookup ("prices" : Str) [(("book" : Str), a), ("prices", b)] = some b := rfl
/-- the first n letters that are no maker -/
def plain (mk : List Sg) (n : Nat) : List Str := (letters n).filter fun x => decide (x ∉ mk.map (·.1))
theorem letters_succ (n : Nat) : letters (n + 1) = letters n ++ [letter n] := by
  unfold letters
  rw [List.range_succ, List.map_append]
  rfl
theorem letter_inj {i j : Nat} (h : letter i = letter j) : i = j := by
  have : (#[97 + i] : Array Nat) = #[97 + j] := congrArg Str.cps h
  simpa using this
theorem letters_nodup (n : Nat) : (letters n).Nodup := by
  unfold letters List.Nodup
  rw [List.pairwise_map]
  exact (List.nodup_range (n := n)).imp fun h e => h (letter_inj e)
theorem letters_len (n : Nat) : (letters n).length = n := by simp [letters]
theorem filter_out (l : List Str) (hl : l.Nodup) : ∀ ms : List Str, l.length ≤ (l.filter fun x => decide (x ∉ ms)).length + ms.length
  | [] => by
    have e : (l.filter fun x => decide (x ∉ ([] : List Str))) = l := List.filter_eq_self.mpr fun x _ => by simp
    rw [e]
    exact Nat.le_refl _
  | a :: ms => by
    have ih := filter_out l hl ms
    have e : (l.filter fun x => decide (x ∉ a :: ms)) = (l.filter fun x => decide (x ∉ ms)).filter fun x => decide (x ≠ a) := by
      rw [List.filter_filter]
      congr 1
      funext x
      simp only [List.mem_cons, not_or, Bool.decide_and]
    have one : ∀ m : List Str, m.Nodup → m.length ≤ (m.filter fun x => decide (x ≠ a)).length + 1 := by
      intro m
      induction m with
      | nil => intro _; simp
      | cons y m ih2 =>
        intro hn
        have hn := List.nodup_cons.mp hn
        by_cases hy : y = a
        · subst hy
          have e2 : (m.filter fun x => decide (x ≠ y)) = m := List.filter_eq_self.mpr fun x hx => decide_eq_true fun z => hn.1 (z ▸ hx)
          rw [List.filter_cons, if_neg (by simp), e2]
          exact Nat.le_refl _
        · have := ih2 hn.2
          rw [List.filter_cons, if_pos (decide_eq_true hy)]
          simp only [List.length_cons]
          omega
    have h1 := one _ (hl.filter fun x => decide (x ∉ ms))
    rw [e, List.length_cons]
    omega
theorem plain_succ (mk : List Sg) (n : Nat) : plain mk (n + 1) = if letter n ∈ mk.map (·.1) then plain mk n else plain mk n ++ [letter n] := by
  unfold plain
  rw [letters_succ, List.filter_append]
  by_cases h : letter n ∈ mk.map (·.1)
  · rw [if_pos h]
    simp [h]
  · rw [if_neg h]
    simp [h]
theorem plain_pre (mk : List Sg) {i n : Nat} (h : i ≤ n) : plain mk i = (plain mk n).take (plain mk i).length := by
  obtain ⟨e, rfl⟩ := Nat.exists_eq_add_of_le h
  clear h
  induction e with
  | zero => simp
  | succ e ih =>
    rw [show i + (e + 1) = i + e + 1 from rfl, plain_succ]
    split
    · exact ih
    · rw [List.take_append_of_le_length]
      · exact ih
      · rw [ih]
        exact List.length_take_le' ..
theorem plain_ge (mk : List Sg) (n : Nat) : n ≤ (plain mk n).length + mk.length := by
  have := filter_out (letters n) (letters_nodup n) (mk.map (·.1))
  rw [letters_len, List.length_map] at this
  exact this
theorem plain_le (mk : List Sg) (n : Nat) : (plain mk n).length ≤ n := by
  have : (plain mk n).length ≤ (letters n).length := List.length_filter_le ..
  rwa [letters_len] at this
theorem ok_letter {i : Nat} (h : i < 26) : PyData.strOk (letter i) = true := by
  have : ∀ i : _root_.Fin 26, PyData.strOk (letter i.val) = true := by decide +kernel
  exact this ⟨i, h⟩
theorem names_ok {k b m : Nat} {B : Bk} {g : Hh} (hb : BookAt b B g) (hmk : B.mks.length ≤ 4) (hs : ∀ s ∈ B.mks, PyData.strOk s.1 = true) (hm : m ≤ 8) :
    Tr (run Ds (k + 2) "plain_names" [.ref b, .int m] g) fun d g' => ∃ n, d = .ref n ∧ Kp [] g g' ∧ g'[n]? = some (.lst (((plain B.mks 16).take m).map .str)) := by
  rw [r_plain_names, Tr_outR]
  unfold c_plain_names
  walk_at "ev"
  refine lc_ok (fun d => match d with
    | .tup (a :: _) => some a
    | _ => none) ?_
  walk_at "ev"
  refine fld_ok ?_
  walk_at "ev"
  refine ⟨b, _, _, _, rfl, hb, by decide, lk_mk, ?_⟩
  walk_at "ev"
  refine ⟨by rw [List.length_map]; exact small_le (by omega), rfl, fun d hd g' kp => ?_, fun g1 kp hg1 => ?_⟩
  · obtain ⟨s, hs, rfl⟩ := List.mem_map.mp hd
    unfold sgD
    walk_at "ev"
    exact ⟨.refl, .refl, .refl, ⟨⟩⟩
  · have hmks : (B.mks.map sgD).filterMap (fun d => match d with
      | .tup (a :: _) => some a
      | _ => none) = B.mks.map fun s => D.str s.1 := by
      rw [List.filterMap_map]
      exact filterMap_all fun s _ => rfl
    rw [hmks] at hg1
    walk_at "ev"
    refine while_ok (fun μ ρ g2 => ∃ i x, i ≤ 16 ∧ μ = 16 - i ∧ Kp [] g1 g2 ∧ ρ = [some (.ref b), some (.int m), x, none, some (.ref g.length), some (.ref g1.length), some (.int i)] ∧
      g2[g1.length]? = some (.lst ((plain B.mks i).map .str)) ∧ (plain B.mks i).length ≤ m) 16 (by decide) ?_ ⟨0, none, by decide, rfl, Kp.app _, rfl, get_new, by simp [plain, letters]⟩
    rintro μ ρ g2 ⟨i, x, hi, rfl, kp2, rfl, hf, hl⟩
    walk_at "ev"
    rw [len_l hf]
    walk_at "ev"
    rw [List.length_map]
    have pg := plain_ge B.mks i
    have hlt := lt_of_get hf
    by_cases hlm : (plain B.mks i).length < m
    · rw [if_pos (decide_eq_true (by omega))]
      rw [name_ok (k := k) (by omega)]
      walk_at "ev"
      have mk2 := kp2.get hg1 (by simp)
      rw [notin_l (n := 0) (d := .str (letter i)) (by decide) mk2 (ok_letter (i := i) (by omega)) (fun y hy => by
        obtain ⟨s, h, rfl⟩ := List.mem_map.mp hy
        exact hs s h)]
      walk_at "ev"
      have key : decide (D.str (letter i) ∈ B.mks.map fun s => D.str s.1) = decide (letter i ∈ B.mks.map (·.1)) := by
        have e : (B.mks.map fun s => D.str s.1) = (B.mks.map (·.1)).map D.str := by rw [List.map_map]; rfl
        rw [e]
        have : (D.str (letter i) ∈ (B.mks.map (·.1)).map D.str) ↔ letter i ∈ B.mks.map (·.1) := by
          rw [List.mem_map]
          exact ⟨fun ⟨z, h, e⟩ => by cases e; exact h, fun h => ⟨_, h, rfl⟩⟩
        simp only [this]
      rw [key]
      by_cases hin : letter i ∈ B.mks.map (·.1)
      · rw [if_neg (by simp only [hin]; simp)]
        have e := plain_succ B.mks i
        rw [if_pos hin] at e
        exact ⟨16 - (i + 1), by omega, i + 1, _, by omega, rfl, kp2, rfl, by rw [e]; exact hf, by rw [e]; exact hl⟩
      · rw [if_pos (by simp only [hin]; simp)]
        have e := plain_succ B.mks i
        rw [if_neg hin] at e
        refine tr_mth bm_append ?_
        walk_at "ev"
        refine ⟨ty_l hf, ?_⟩
        rw [app_l hf (by rw [List.length_map, sizeLine_eq]; omega)]
        refine ⟨16 - (i + 1), by omega, i + 1, _, by omega, rfl, ((kp2.nil (S := [g1.length])).trans (Kp.set (by simp))).new (fun i hi => .inr (by rw [List.mem_singleton.mp hi]; exact Nat.le_refl _)), rfl, ?_, ?_⟩
        · rw [e, List.map_append]
          exact get_set hlt
        · rw [e, List.length_append]
          exact hlm
    · rw [if_neg (by simp; omega)]
      refine ⟨g1.length, rfl, ?_, ?_⟩
      · exact kp.trans kp2
      · have e : (plain B.mks 16).take m = plain B.mks i := by
          have := plain_pre B.mks hi
          rw [this]
          have : (plain B.mks i).length = m := by omega
          rw [this]
        rw [e]
        exact hf

/-! the variables of a rule -/
def addF (f : List Str) (x : Str) : List Str := if x ∈ f then f else f ++ [x]
def ded (l : List Str) : List Str := l.foldl addF []
def scanT (f : List Str) (t : Tem) : List Str := f ++ t.filterMap fun s => if s.2 = -1 ∧ s.1 ∉ f then some s.1 else none
def scanL (f : List Str) (l : Ln) : List Str := l.2.foldl scanT f
def scanR (r : Rl) : List Str := (r.1 ++ [r.2]).foldl scanL []
structure LnOk (l : Ln) : Prop where
  s : lnOk l = true
  n : l.2.length ≤ 8
  t : ∀ t ∈ l.2, t.length ≤ 8 ∧ ∀ s ∈ t, s.2 = -1 ∨ 0 ≤ s.2
structure RlOk (r : Rl) : Prop where
  n : r.1.length ≤ 8
  l : ∀ l ∈ r.1 ++ [r.2], LnOk l
theorem lnOk_s {l : Ln} (h : lnOk l = true) : PyData.strOk l.1 = true ∧ ∀ t ∈ l.2, ∀ s ∈ t, PyData.strOk s.1 = true := by
  unfold lnOk at h
  rw [Bool.and_eq_true, List.all_eq_true] at h
  exact ⟨h.1, fun t ht => List.all_eq_true.mp (h.2 t ht)⟩
theorem str_mem {x : Str} {l : List Str} : (D.str x ∈ l.map D.str) ↔ x ∈ l := by
  rw [List.mem_map]
  exact ⟨fun ⟨z, h, e⟩ => by cases e; exact h, fun h => ⟨_, h, rfl⟩⟩
theorem scanT_len (f : List Str) (t : Tem) : (scanT f t).length ≤ f.length + t.length := by
  unfold scanT
  rw [List.length_append]
  have := List.length_filterMap_le (fun s : Sg => if s.2 = -1 ∧ s.1 ∉ f then some s.1 else none) t
  omega
theorem scanT_ok {f : List Str} {t : Tem} (hf : ∀ x ∈ f, PyData.strOk x = true) (ht : ∀ s ∈ t, PyData.strOk s.1 = true) : ∀ x ∈ scanT f t, PyData.strOk x = true := by
  intro x hx
  rcases List.mem_append.mp hx with h | h
  · exact hf x h
  · obtain ⟨s, hs, e⟩ := List.mem_filterMap.mp h
    split at e
    · cases e; exact ht s hs
    · cases e
/-- the names of a term that are new -/
def newV (f : List Str) : D → Option D
  | .tup [.str x, .int i] => if i = -1 ∧ x ∉ f then some (D.str x) else none
  | _ => none
theorem term_lc {f : List Str} {t : Tem} : (t.map sgD).filterMap (newV f) = (t.filterMap fun s => if s.2 = -1 ∧ s.1 ∉ f then some s.1 else none).map D.str := by
  rw [List.filterMap_map, List.map_filterMap]
  congr 1
  funext s
  simp only [Function.comp, sgD, newV]
  split <;> rfl
theorem unlike_ok {k n : Nat} {g : Hh} {l : List Str} (h : g[n]? = some (.lst (l.map .str))) (hs : ∀ x ∈ l, PyData.strOk x = true) (hl : l.length ≤ 1000) :
    Tr (run Ds (k + 1) "unlike_things" [.ref n] g) fun d g' => d = .tup ((ded l).map .str) ∧ Kp [] g g' := by
  rw [r_unlike_things, Tr_outR]
  unfold c_unlike_things
  walk_at "ev"
  rw [src_l (by rw [List.getElem?_append_left (lt_of_get h)]; exact h)]
  have hn := lt_of_get h
  refine for_ok (fun r ρ g' => ∃ done left x, l = done ++ left ∧ r = left.map D.str ∧ ρ = [some (.ref n), some (.ref g.length), x] ∧ Kp [g.length] g g' ∧ g'[g.length]? = some (.lst ((ded done).map .str)) ∧ (∀ x ∈ ded done, PyData.strOk x = true) ∧ (ded done).length ≤ done.length) (fun r ρ g' ⟨_, _, _, _, _, _, kp, _⟩ => ?_) ?_ ?_ _ _ _ ⟨[], l, none, rfl, rfl, rfl, Kp.app _, get_new, (fun x hx => nomatch hx), by simp [ded]⟩
  · exact stable_one (kp.get h (by rw [List.mem_singleton]; omega))
  · rintro d r ρ g' ⟨done, left, x, e, er, rfl, kp, hg, ok, len⟩
    cases left with
    | nil => cases er
    | cons y left =>
      cases er
      walk_at "ev"
      have hy : PyData.strOk y = true := hs y (by rw [e]; simp)
      rw [notin_l (n := 0) (d := .str y) (by decide) hg hy (fun z hz => by
        obtain ⟨s, h, rfl⟩ := List.mem_map.mp hz
        exact ok s h)]
      walk_at "ev"
      have e1 : ded (done ++ [y]) = addF (ded done) y := by simp [ded, List.foldl_append]
      have dl : done.length < l.length := by rw [e]; simp
      have key : decide (D.str y ∈ (ded done).map D.str) = decide (y ∈ ded done) := by simp only [str_mem]
      rw [key]
      by_cases hin : y ∈ ded done
      · rw [if_neg (by simp only [hin]; simp)]
        have e2 : ded (done ++ [y]) = ded done := by rw [e1, addF, if_pos hin]
        exact ⟨done ++ [y], left, _, by simp [e], rfl, rfl, kp, by rw [e2]; exact hg, by rw [e2]; exact ok, by rw [e2, List.length_append]; omega⟩
      · rw [if_pos (by simp only [hin]; simp)]
        have e2 : ded (done ++ [y]) = ded done ++ [y] := by rw [e1, addF, if_neg hin]
        refine tr_mth bm_append ?_
        walk_at "ev"
        refine ⟨ty_l hg, ?_⟩
        rw [app_l hg (by rw [List.length_map]; exact small_lt (by omega))]
        refine ⟨done ++ [y], left, _, by simp [e], rfl, rfl, kp.trans (Kp.set (by simp)), by rw [e2, List.map_append]; exact get_set (lt_of_get hg), ?_, by rw [e2, List.length_append, List.length_append]; simp; omega⟩
        rw [e2]
        intro z hz
        rcases List.mem_append.mp hz with h | h
        · exact ok z h
        · rw [List.mem_singleton.mp h]; exact hy
  · rintro ρ g' ⟨done, left, x, e, er, rfl, kp, hg, ok, len⟩
    cases left with
    | cons _ _ => cases er
    | nil =>
      rw [List.append_nil] at e
      subst e
      walk_at "ev"
      rw [tup_l hg]
      exact ⟨rfl, kp.new fun i hi => .inr (by rw [List.mem_singleton.mp hi]; exact Nat.le_refl _)⟩

theorem int_m1 {s : Sg} (h : s.2 = -1 ∨ 0 ≤ s.2) : (s.2 < 0) ↔ s.2 = -1 := by omega
theorem scanL_len (l : Ln) (h : LnOk l) (f : List Str) : (scanL f l).length ≤ f.length + 64 := by
  have : ∀ (ts : List Tem) (f : List Str), (∀ t ∈ ts, t.length ≤ 8) → (ts.foldl scanT f).length ≤ f.length + 8 * ts.length := by
    intro ts
    induction ts with
    | nil => intro f _; simp
    | cons t ts ih =>
      intro f ht
      have h1 := ih (scanT f t) fun u hu => ht u (List.mem_cons_of_mem _ hu)
      have h2 := scanT_len f t
      have h3 := ht t List.mem_cons_self
      simp only [List.foldl_cons, List.length_cons]
      omega
  have h1 := this l.2 f fun t ht => (h.t t ht).1
  have h2 := h.n
  unfold scanL
  omega
theorem scanL_ok (l : Ln) (h : LnOk l) : ∀ (f : List Str), (∀ x ∈ f, PyData.strOk x = true) → ∀ x ∈ scanL f l, PyData.strOk x = true := by
  have hs := (lnOk_s h.s).2
  unfold scanL
  revert hs
  generalize l.2 = ts
  intro hs
  induction ts with
  | nil => exact fun f hf => hf
  | cons t ts ih => exact fun f hf => ih (fun u hu => hs u (List.mem_cons_of_mem _ hu)) _ (scanT_ok hf (hs t List.mem_cons_self))
theorem scan_all : ∀ (ls : List Ln), (∀ l ∈ ls, LnOk l) → ∀ (f : List Str), (∀ x ∈ f, PyData.strOk x = true) → (ls.foldl scanL f).length ≤ f.length + 64 * ls.length ∧ ∀ x ∈ ls.foldl scanL f, PyData.strOk x = true
  | [], _, f, hf => ⟨by simp, hf⟩
  | l :: ls, h, f, hf => by
    have h1 := scanL_len l (h l List.mem_cons_self) f
    obtain ⟨h2, h3⟩ := scan_all ls (fun u hu => h u (List.mem_cons_of_mem _ hu)) (scanL f l) (scanL_ok l (h l List.mem_cons_self) f hf)
    refine ⟨?_, h3⟩
    simp only [List.foldl_cons, List.length_cons]
    omega
theorem scanR_ok {r : Rl} (h : RlOk r) : (scanR r).length ≤ 576 ∧ ∀ x ∈ scanR r, PyData.strOk x = true := by
  obtain ⟨h1, h2⟩ := scan_all (r.1 ++ [r.2]) h.l [] (fun x hx => nomatch hx)
  refine ⟨?_, h2⟩
  have := h.n
  rw [List.length_append] at h1
  simp only [List.length_nil, List.length_cons] at h1
  show ((r.1 ++ [r.2]).foldl scanL []).length ≤ _
  omega
theorem ext_l {g : Hh} {n k : Nat} {xs ys : List D} {Q : D → Hh → Prop} (h1 : g[n]? = some (.lst xs)) (h2 : g[k]? = some (.lst ys)) (h : xs.length + ys.length ≤ sizeLine) : TO (mExtend (.ref n) [.ref k] g) Q = Q .non (g.set n (.lst (xs ++ ys))) := by
  simp only [mExtend, h1, h2, if_pos h]; rfl
theorem foldl_nested {α β : Type} {f : β → α → β} (a : β) (xs : List α) (x : α) (ys : List α) (h : xs ++ x :: ys = xs ++ [x] ++ ys) : (xs ++ [x]).foldl f a = f (xs.foldl f a) x := by
  simp [List.foldl_append]
theorem variables_ok {k : Nat} {g : Hh} {r : Rl} (hr : RlOk r) : Tr (run Ds (k + 2) "variables_of_rule" [rlD r] g) fun d g' => d = .tup ((ded (scanR r)).map .str) ∧ Kp [] g g' := by
  rw [r_variables_of_rule, Tr_outR]
  unfold c_variables_of_rule
  have hn := hr.n
  obtain ⟨sl, so⟩ := scanR_ok hr
  unfold rlD
  walk_at "ev"
  rw [ix_t at0, ix_t at1]
  walk_at "ev"
  rw [add_t (small_le (by simp; omega))]
  walk_at "ev"
  have all : r.1.map lnD ++ [lnD r.2] = (r.1 ++ [r.2]).map lnD := by simp
  rw [all]
  refine for_ok (fun q ρ g' => ∃ done left x2 x3, r.1 ++ [r.2] = done ++ left ∧ q = left.map lnD ∧ ρ = [some (.tup [.tup (r.1.map lnD), lnD r.2]), some (.ref g.length), x2, x3, none, none] ∧ Kp [g.length] g g' ∧ g'[g.length]? = some (.lst ((done.foldl scanL []).map .str))) (fun q ρ g' _ => rfl) ?_ ?_ _ _ _
    ⟨[], r.1 ++ [r.2], none, none, rfl, rfl, rfl, Kp.app _, get_new⟩
  · rintro d q ρ g1 ⟨done, left, x2, x3, e, eq, rfl, kp, hg⟩
    cases left with
    | nil => cases eq
    | cons l left =>
      cases eq
      have lo : LnOk l := hr.l l (by rw [e]; simp)
      have dok : ∀ u ∈ done, LnOk u := fun u hu => hr.l u (by rw [e]; simp [hu])
      have dl : done.length ≤ 8 := by
        have := congrArg List.length e
        simp at this
        omega
      obtain ⟨f1, f2⟩ := scan_all done dok [] (fun x hx => nomatch hx)
      rw [List.length_nil] at f1
      have hts := lo.t
      have htn := lo.n
      have hss := (lnOk_s lo.s).2
      unfold lnD
      walk_at "ev"
      rw [ix_t at1]
      walk_at "ev"
      refine for_ok (fun q2 ρ g' => ∃ ds ls x3, l.2 = ds ++ ls ∧ q2 = ls.map tmD ∧ ρ = [some (.tup [.tup (r.1.map lnD), lnD r.2]), some (.ref g.length), some (.tup [.str l.1, .tup (l.2.map tmD)]), x3, none, none] ∧ Kp [g.length] g g' ∧ g'[g.length]? = some (.lst ((ds.foldl scanT (done.foldl scanL [])).map .str)) ∧
        (ds.foldl scanT (done.foldl scanL [])).length ≤ 512 + 8 * ds.length ∧ ∀ x ∈ ds.foldl scanT (done.foldl scanL []), PyData.strOk x = true) (fun q ρ g' _ => rfl) ?_ ?_ _ _ _ ⟨[], l.2, _, rfl, rfl, rfl, kp, hg, by simp only [List.foldl_nil, List.length_nil]; omega, f2⟩
      · rintro d q2 ρ g2 ⟨ds, ls, x3, e2, eq2, rfl, kp2, hg2, len2, ok2⟩
        cases ls with
        | nil => cases eq2
        | cons t ls =>
          cases eq2
          have ht := hts t (by rw [e2]; simp)
          have hst := hss t (by rw [e2]; simp)
          have dl2 : ds.length < l.2.length := by rw [e2]; simp
          walk_at "ev"
          refine tr_mth bm_extend ?_
          walk_at "ev"
          refine ⟨ty_l hg2, ?_⟩
          refine lc_ok (newV (ds.foldl scanT (done.foldl scanL []))) ?_
          unfold tmD
          walk_at "ev"
          refine ⟨by rw [List.length_map]; exact small_le (by omega), rfl, fun d hd g' kp3 => ?_, fun g3 kp3 hg3 => ?_⟩
          · obtain ⟨s, hs, rfl⟩ := List.mem_map.mp hd
            unfold sgD
            walk_at "ev"
            refine ⟨.refl, ?_⟩
            by_cases h1 : s.2 = -1
            · rw [if_pos (by simp [h1])]
              have hg4 := kp3.get hg2 (by rw [List.mem_singleton]; exact Nat.ne_of_lt (lt_of_get hg2))
              rw [notin_l (n := 0) (d := .str s.1) (by decide) hg4 (hst s hs) (fun z hz => by
                obtain ⟨s, h, rfl⟩ := List.mem_map.mp hz
                exact ok2 s h)]
              walk_at "ev"
              refine ⟨.refl, ?_⟩
              by_cases h2 : s.1 ∈ ds.foldl scanT (done.foldl scanL [])
              · rw [if_neg (by simp only [str_mem, h2]; simp)]
                simp [newV, h2]
              · rw [if_pos (by simp only [str_mem, h2]; simp)]
                exact ⟨.refl, by simp [newV, h1, h2]⟩
            · rw [if_neg (by simp [h1])]
              refine ⟨.refl, ?_⟩
              simp [newV, h1]
          · walk_at "ev"
            rw [term_lc] at hg3
            have hg4 := kp3.get hg2 (by simp)
            have sl2 := scanT_len (ds.foldl scanT (done.foldl scanL [])) t
            have e3 : (ds ++ [t]).foldl scanT (done.foldl scanL []) = scanT (ds.foldl scanT (done.foldl scanL [])) t := by simp [List.foldl_append]
            rw [ext_l hg4 hg3 (small_le (by
              rw [List.length_map, List.length_map]
              have := List.length_filterMap_le (fun s : Sg => if s.2 = -1 ∧ s.1 ∉ ds.foldl scanT (done.foldl scanL []) then some s.1 else none) t
              omega))]
            refine ⟨ds ++ [t], ls, _, by simp [e2], rfl, rfl, (kp2.trans kp3.nil).trans (Kp.set (by simp)), ?_, ?_, ?_⟩
            · rw [e3, scanT, List.map_append]
              exact get_set (lt_of_get hg4)
            · rw [e3, List.length_append]
              simp
              omega
            · rw [e3]
              exact scanT_ok ok2 hst
      · rintro ρ g2 ⟨ds, ls, x3, e2, eq2, rfl, kp2, hg2, _⟩
        cases ls with
        | cons _ _ => cases eq2
        | nil =>
          rw [List.append_nil] at e2
          subst e2
          refine ⟨done ++ [l], left, _, _, by simp [e], rfl, rfl, kp2, ?_⟩
          rw [List.foldl_append]
          exact hg2
  · rintro ρ g1 ⟨done, left, x2, x3, e, eq, rfl, kp, hg⟩
    cases left with
    | cons _ _ => cases eq
    | nil =>
      rw [List.append_nil] at e
      walk_at "ev"
      refine (unlike_ok (k := k) (l := scanR r) ?_ so (by omega)).mono fun d g2 ⟨e1, kp2⟩ => ⟨e1, (kp.trans kp2.nil).new fun i hi => .inr (by rw [List.mem_singleton.mp hi]; exact Nat.le_refl _)⟩
      rw [← e] at hg
      exact hg

theorem list_t {g : Hh} {xs : List D} {Q : D → Hh → Prop} : TO (dList (.tup xs) g) Q = Q (.ref g.length) (g ++ [.lst xs]) := rfl
theorem list_d {g : Hh} {n : Nat} {kvs : List (D × D)} {Q : D → Hh → Prop} (h : g[n]? = some (.dct kvs)) : TO (dList (.ref n) g) Q = Q (.ref g.length) (g ++ [.lst (kvs.map (·.1))]) := by
  simp only [dList, h]; rfl
theorem dict_l {g : Hh} {n : Nat} {xs : List D} {ps : List (D × D)} {Q : D → Hh → Prop} (h : g[n]? = some (.lst xs)) (hp : pairsD xs = some ps) : TO (dDict (.ref n) g) Q = Q (.ref g.length) (g ++ [.dct (mergeD ps)]) := by
  simp only [dDict, h, hp]; rfl
theorem pairs_map {α : Type} {f : α → Str} {v : α → D} : ∀ l : List α, pairsD (l.map fun a => D.tup [.str (f a), v a]) = some (l.map fun a => (D.str (f a), v a))
  | [] => rfl
  | a :: l => by
    rw [List.map_cons, pairsD, if_pos (show isKey (D.str (f a)) = true from rfl), pairs_map l]
    rfl
theorem putD_keys (kvs : List (D × D)) (ks : List Str) (h : kvs.map (·.1) = ks.map D.str) (x : Str) (v : D) : (putD kvs (.str x) v).map (·.1) = (addF ks x).map D.str := by
  have hany : (kvs.any fun p => decide (p.1 = D.str x)) = decide (x ∈ ks) := by
    have : (kvs.any fun p => decide (p.1 = D.str x)) = (kvs.map (·.1)).any fun d => decide (d = D.str x) := by rw [List.any_map]; rfl
    rw [this, h, List.any_map, Bool.eq_iff_iff]
    simp only [List.any_eq_true, Function.comp, decide_eq_true_eq]
    exact ⟨fun ⟨y, hy, e⟩ => by cases e; exact hy, fun hx => ⟨x, hx, rfl⟩⟩
  unfold putD addF
  rw [hany]
  by_cases hx : x ∈ ks
  · rw [if_pos (decide_eq_true hx), if_pos hx, ← h, List.map_map]
    refine List.map_congr_left fun p _ => ?_
    show (if p.1 = D.str x then (p.1, v) else p).1 = p.1
    split <;> rfl
  · rw [if_neg (by simp [hx]), if_neg hx, List.map_append, List.map_append, h]
    rfl
theorem merge_keys {α : Type} {f : α → Str} {v : α → D} : ∀ (l : List α) (kvs : List (D × D)) (ks : List Str), kvs.map (·.1) = ks.map D.str →
    ((l.map fun a => (D.str (f a), v a)).foldl (fun acc p => putD acc p.1 p.2) kvs).map (·.1) = ((l.map f).foldl addF ks).map D.str
  | [], _, _, h => h
  | a :: l, kvs, ks, h => merge_keys l _ _ (putD_keys kvs ks h (f a) (v a))
theorem lawvars_ok {k : Nat} {g : Hh} {r : Rl} (hr : RlOk r) : Tr (run Ds (k + 1) "_law_variables" [rlD r] g) fun d g' => ∃ n, d = .ref n ∧ g'[n]? = some (.lst ((ded (scanR r)).map .str)) ∧ Kp [] g g' := by
  rw [r__law_variables, Tr_outR]
  unfold c__law_variables
  have hn := hr.n
  obtain ⟨sl, so⟩ := scanR_ok hr
  unfold rlD
  walk_at "ev"
  rw [ix_t at0]
  rw [list_t]
  walk_at "ev"
  rw [ix_t at1, new_l (small_le (by simp))]
  have G1 : (g ++ [Ob.lst []] ++ [Ob.lst (r.1.map lnD)] ++ [Ob.lst [lnD r.2]])[(g ++ [Ob.lst []]).length]? = some (.lst (r.1.map lnD)) := by
    rw [List.getElem?_append_left (by simp)]
    exact get_new
  rw [add_l G1 get_new (small_le (by simp; omega))]
  rw [src_l get_new]
  have all : r.1.map lnD ++ [lnD r.2] = (r.1 ++ [r.2]).map lnD := by simp
  rw [all]
  generalize hG : g ++ [Ob.lst []] ++ [Ob.lst (r.1.map lnD)] ++ [Ob.lst [lnD r.2]] = G
  have KG : Kp [] g G := by rw [← hG]; exact ((Kp.app _).trans (Kp.app _)).trans (Kp.app _)
  have GF : G[g.length]? = some (.lst []) := by
    rw [← hG, List.getElem?_append_left (by simp), List.getElem?_append_left (by simp)]
    exact get_new
  clear hG G1
  refine for_ok (fun q ρ g' => ∃ done left n x2 x3, r.1 ++ [r.2] = done ++ left ∧ q = left.map lnD ∧ ρ = [some (.tup [.tup (r.1.map lnD), lnD r.2]), some (.ref n), x2, x3, none, none] ∧ Kp [] (G ++ [Ob.lst ((r.1 ++ [r.2]).map lnD)]) g' ∧ g'[n]? = some (.lst ((done.foldl scanL []).map .str)))
    (fun q ρ g' ⟨_, _, _, _, _, _, _, _, kp, _⟩ => stable_one (kp.get get_new (by simp))) ?_ ?_ _ _ _ ⟨[], r.1 ++ [r.2], g.length, none, none, rfl, rfl, rfl, .refl, by rw [List.getElem?_append_left (lt_of_get GF)]; exact GF⟩
  · rintro d q ρ g1 ⟨done, left, n, x2, x3, e, eq, rfl, kp, hg⟩
    cases left with
    | nil => cases eq
    | cons l left =>
      cases eq
      have lo : LnOk l := hr.l l (by rw [e]; simp)
      have dok : ∀ u ∈ done, LnOk u := fun u hu => hr.l u (by rw [e]; simp [hu])
      have dl : done.length ≤ 8 := by
        have := congrArg List.length e
        simp at this
        omega
      obtain ⟨f1, f2⟩ := scan_all done dok [] (fun x hx => nomatch hx)
      rw [List.length_nil] at f1
      have hts := lo.t
      have htn := lo.n
      have hss := (lnOk_s lo.s).2
      unfold lnD
      walk_at "ev"
      rw [ix_t at1]
      walk_at "ev"
      refine for_ok (fun q2 ρ g' => ∃ ds ls n x3, l.2 = ds ++ ls ∧ q2 = ls.map tmD ∧ ρ = [some (.tup [.tup (r.1.map lnD), lnD r.2]), some (.ref n), some (.tup [.str l.1, .tup (l.2.map tmD)]), x3, none, none] ∧ Kp [] (G ++ [Ob.lst ((r.1 ++ [r.2]).map lnD)]) g' ∧ g'[n]? = some (.lst ((ds.foldl scanT (done.foldl scanL [])).map .str)) ∧
        (ds.foldl scanT (done.foldl scanL [])).length ≤ 512 + 8 * ds.length ∧ ∀ x ∈ ds.foldl scanT (done.foldl scanL []), PyData.strOk x = true) (fun q ρ g' _ => rfl) ?_ ?_ _ _ _ ⟨[], l.2, n, _, rfl, rfl, rfl, kp, hg, by simp only [List.foldl_nil, List.length_nil]; omega, f2⟩
      · rintro d q2 ρ g2 ⟨ds, ls, n, x3, e2, eq2, rfl, kp2, hg2, len2, ok2⟩
        cases ls with
        | nil => cases eq2
        | cons t ls =>
          cases eq2
          have ht := hts t (by rw [e2]; simp)
          have hst := hss t (by rw [e2]; simp)
          have dl2 : ds.length < l.2.length := by rw [e2]; simp
          walk_at "ev"
          refine lc_ok (newV (ds.foldl scanT (done.foldl scanL []))) ?_
          unfold tmD
          walk_at "ev"
          refine ⟨by rw [List.length_map]; exact small_le (by omega), rfl, fun d hd g' kp3 => ?_, fun g3 kp3 hg3 => ?_⟩
          · obtain ⟨s, hs, rfl⟩ := List.mem_map.mp hd
            have sg := int_m1 (ht.2 s hs)
            unfold sgD
            walk_at "ev"
            refine ⟨.refl, ?_⟩
            by_cases h1 : s.2 = -1
            · rw [if_pos (by simp [h1])]
              have hg4 := kp3.get hg2 (by rw [List.mem_singleton]; exact Nat.ne_of_lt (lt_of_get hg2))
              rw [notin_l (n := 0) (d := .str s.1) (by decide) hg4 (hst s hs) (fun z hz => by
                obtain ⟨s, h, rfl⟩ := List.mem_map.mp hz
                exact ok2 s h)]
              walk_at "ev"
              refine ⟨.refl, ?_⟩
              by_cases h2 : s.1 ∈ ds.foldl scanT (done.foldl scanL [])
              · rw [if_neg (by simp only [str_mem, h2]; simp)]
                simp [newV, h2]
              · rw [if_pos (by simp only [str_mem, h2]; simp)]
                exact ⟨.refl, by simp [newV, h1, h2]⟩
            · rw [if_neg (by simp only [sg]; simp [h1])]
              refine ⟨.refl, ?_⟩
              simp [newV, h1]
          · rw [term_lc] at hg3
            have hg4 := kp3.get hg2 (by simp)
            have sl2 := scanT_len (ds.foldl scanT (done.foldl scanL [])) t
            have e3 : (ds ++ [t]).foldl scanT (done.foldl scanL []) = scanT (ds.foldl scanT (done.foldl scanL [])) t := by simp [List.foldl_append]
            rw [add_l hg4 hg3 (small_le (by
              rw [List.length_map, List.length_map]
              have := List.length_filterMap_le (fun s : Sg => if s.2 = -1 ∧ s.1 ∉ ds.foldl scanT (done.foldl scanL []) then some s.1 else none) t
              omega))]
            walk_at "ev"
            refine ⟨ds ++ [t], ls, _, _, by simp [e2], rfl, rfl, (kp2.trans kp3).trans (Kp.app _), ?_, ?_, ?_⟩
            · rw [e3, scanT, List.map_append]
              exact get_new
            · rw [e3, List.length_append]
              simp
              omega
            · rw [e3]
              exact scanT_ok ok2 hst
      · rintro ρ g2 ⟨ds, ls, n, x3, e2, eq2, rfl, kp2, hg2, _⟩
        cases ls with
        | cons _ _ => cases eq2
        | nil =>
          rw [List.append_nil] at e2
          subst e2
          refine ⟨done ++ [l], left, n, _, _, by simp [e], rfl, rfl, kp2, ?_⟩
          rw [List.foldl_append]
          exact hg2
  · rintro ρ g1 ⟨done, left, n, x2, x3, e, eq, rfl, kp, hg⟩
    cases left with
    | cons _ _ => cases eq
    | nil =>
      rw [List.append_nil] at e
      rw [← e] at hg
      replace hg : g1[n]? = some (.lst ((scanR r).map .str)) := hg
      walk_at "ev"
      refine lc_ok (fun d => some (.tup [d, .bl true])) ?_
      walk_at "ev"
      rw [src_l hg]
      refine ⟨by rw [List.length_map]; exact small_le (by omega), stable_one hg, fun d hd g' kp3 => ?_, fun g3 kp3 hg3 => ?_⟩
      · walk_at "ev"
        exact ⟨.refl, .refl, .refl, trivial⟩
      · have e1 : ((scanR r).map D.str).filterMap (fun d => some (D.tup [d, .bl true])) = (scanR r).map fun x => D.tup [.str x, .bl true] := by
          rw [List.filterMap_map]
          exact filterMap_all fun x _ => rfl
        rw [e1] at hg3
        rw [dict_l hg3 (pairs_map (f := fun x => x) (v := fun _ => .bl true) _)]
        rw [list_d get_new]
        refine ⟨_, rfl, ?_, ((KG.trans ((Kp.app _).trans kp)).trans kp3).trans ((Kp.app _).trans (Kp.app _))⟩
        rw [get_new]
        have := merge_keys (f := fun x : Str => x) (v := fun _ => D.bl true) (scanR r) [] [] rfl
        unfold mergeD
        rw [this]
        simp [ded]

/-! variables made plain names -/
def fillT (ν : Str → Str) (t : Tem) : Tem := t.map fun s => if s.2 = -1 then (ν s.1, 0) else s
def fillL (ν : Str → Str) (l : Ln) : Ln := (l.1, l.2.map (fillT ν))
theorem ix_d {g : Hh} {n : Nat} {kvs : List (D × D)} {x : Str} {d : D} {Q : D → Hh → Prop} (h : g[n]? = some (.dct kvs)) (e : getK kvs (.str x) = some d) : TO (dIx (.ref n) (.str x) g) Q = Q d g := by
  simp only [dIx, h, e]; rfl
def fillS (ν : Str → Str) : D → Option D
  | .tup [.str x, .int i] => some (if i = -1 then .tup [.str (ν x), .int 0] else .tup [.str x, .int i])
  | _ => none
def fillE (ν : Str → Str) : D → Option D
  | .tup ds => some (.tup (ds.filterMap (fillS ν)))
  | _ => none
theorem fillS_map (ν : Str → Str) (t : Tem) : (t.map sgD).filterMap (fillS ν) = (fillT ν t).map sgD := by
  rw [List.filterMap_map]
  unfold fillT
  rw [List.map_map]
  refine filterMap_all fun s _ => ?_
  simp only [Function.comp, sgD, fillS]
  split <;> rfl
theorem fillE_map (ν : Str → Str) (l : List Tem) : (l.map tmD).filterMap (fillE ν) = (l.map (fillT ν)).map tmD := by
  rw [List.filterMap_map, List.map_map]
  refine filterMap_all fun t _ => ?_
  simp only [Function.comp, tmD, fillE, fillS_map]
theorem line_ok {k n : Nat} {g : Hh} {l : Ln} {ν : Str → Str} {kvs : List (D × D)} (hl : LnOk l) (hn : g[n]? = some (.dct kvs)) (hk : ∀ t ∈ l.2, ∀ s ∈ t, s.2 = -1 → getK kvs (.str s.1) = some (.str (ν s.1))) :
    Tr (run Ds (k + 1) "plain_line" [lnD l, .ref n] g) fun d g' => d = lnD (fillL ν l) ∧ Kp [] g g' := by
  rw [r_plain_line, Tr_outR]
  unfold c_plain_line
  have hts := hl.t
  have hln := hl.n
  unfold lnD
  walk_at "ev"
  refine lc_ok (fillE ν) ?_
  walk_at "ev"
  rw [ix_t at1]
  walk_at "ev"
  refine ⟨by rw [List.length_map]; exact small_le (by omega), rfl, fun d hd g1 kp1 => ?_, fun g1 kp1 hg1 => ?_⟩
  · obtain ⟨t, ht, rfl⟩ := List.mem_map.mp hd
    have hlt := (hts t ht).1
    walk_at "ev"
    refine ⟨.refl, .refl, ?_⟩
    refine lc_ok (fillS ν) ?_
    unfold tmD
    walk_at "ev"
    refine ⟨by rw [List.length_map]; exact small_le (by omega), rfl, fun d hd g2 kp2 => ?_, fun g2 kp2 hg2 => ?_⟩
    · obtain ⟨s, hs, rfl⟩ := List.mem_map.mp hd
      have hn2 := (kp1.get hn (by rw [List.mem_singleton]; exact Nat.ne_of_lt (lt_of_get hn)))
      have hn3 := kp2.get hn2 (by rw [List.mem_singleton]; exact Nat.ne_of_lt (lt_of_get hn2))
      unfold sgD
      walk_at "ev"
      refine ⟨.refl, .refl, ?_⟩
      by_cases h1 : s.2 = -1
      · rw [if_pos (by simp [h1]), ix_d hn3 (hk t ht s hs h1)]
        walk_at "ev"
        exact ⟨.refl, by simp [fillS, h1]⟩
      · rw [if_neg (by simp [h1])]
        exact ⟨.refl, by simp [fillS, h1]⟩
    · rw [tup_l hg2]
      exact ⟨kp2, rfl⟩
  · walk_at "ev"
    rw [ix_t at0]
    walk_at "ev"
    rw [tup_l hg1]
    rw [fillE_map]
    exact ⟨rfl, kp1⟩
theorem fill_ok {k n : Nat} {g : Hh} {t : Tem} {ν : Str → Str} {kvs : List (D × D)} (hl : t.length ≤ 8) (hs : ∀ s ∈ t, s.2 = -1 ∨ 0 ≤ s.2) (hn : g[n]? = some (.dct kvs)) (hk : ∀ s ∈ t, s.2 = -1 → getK kvs (.str s.1) = some (tmD [(ν s.1, 0)])) :
    Tr (run Ds (k + 1) "_law_fill" [tmD t, .ref n] g) fun d g' => d = tmD (fillT ν t) ∧ g' = g := by
  rw [r__law_fill, Tr_outR]
  unfold c__law_fill
  unfold tmD at *
  walk_at "ev"
  refine for_ok (fun q ρ g' => ∃ done left x3, t = done ++ left ∧ q = left.map sgD ∧ ρ = [some (.tup (t.map sgD)), some (.ref n), some (.tup ((fillT ν done).map sgD)), x3] ∧ g' = g) (fun _ _ _ _ => rfl) ?_ ?_ _ _ _ ⟨[], t, none, rfl, rfl, rfl, rfl⟩
  · rintro d q ρ g1 ⟨done, left, x3, e, eq, rfl, rfl⟩
    cases left with
    | nil => cases eq
    | cons s left =>
      cases eq
      have hm : s ∈ t := by rw [e]; simp
      have sg := int_m1 (hs s hm)
      have dl : done.length < t.length := by rw [e]; simp
      have e1 : fillT ν (done ++ [s]) = fillT ν done ++ fillT ν [s] := by simp [fillT]
      have lf : (fillT ν done).length = done.length := by simp [fillT]
      unfold sgD
      walk_at "ev"
      rw [ix_t at1]
      walk_at "ev"
      by_cases h1 : s.2 = -1
      · rw [if_pos (by simp [h1]), ix_t at0, ix_d hn (hk s hm h1)]
        rw [add_t (small_le (by simp; omega))]
        refine ⟨done ++ [s], left, some (.tup [.str s.1, .int s.2]), by simp [e], rfl, ?_, rfl⟩
        rw [e1, List.map_append]
        simp [fillT, h1, sgD]
      · rw [if_neg (by simp only [sg]; simp [h1])]
        rw [add_t (small_le (by simp; omega))]
        refine ⟨done ++ [s], left, some (.tup [.str s.1, .int s.2]), by simp [e], rfl, ?_, rfl⟩
        rw [e1, List.map_append]
        simp [fillT, h1, sgD]
  · rintro ρ g1 ⟨done, left, x3, e, eq, rfl, rfl⟩
    cases left with
    | cons _ _ => cases eq
    | nil =>
      rw [List.append_nil] at e
      subst e
      walk_at "ev"
      exact ⟨trivial, trivial⟩

/-! which name stands for which variable -/
def nu (V P : List Str) (x : Str) : Str := ((V.zip P).lookup x).getD ""
theorem ded_nodup (l : List Str) : (ded l).Nodup := by
  have : ∀ (l f : List Str), f.Nodup → (l.foldl addF f).Nodup := by
    intro l
    induction l with
    | nil => exact fun f h => h
    | cons x l ih =>
      intro f h
      refine ih _ ?_
      unfold addF
      split
      · exact h
      · rename_i hx
        rw [List.nodup_append]
        exact ⟨h, by simp, fun a ha b hb e => hx (by rw [List.mem_singleton.mp hb] at e; exact e ▸ ha)⟩
  exact this l [] List.nodup_nil
theorem mem_ded {x : Str} {l : List Str} : x ∈ ded l ↔ x ∈ l := by
  have : ∀ (l f : List Str), x ∈ l.foldl addF f ↔ x ∈ f ∨ x ∈ l := by
    intro l
    induction l with
    | nil => intro f; simp
    | cons y l ih =>
      intro f
      rw [List.foldl_cons, ih]
      have : x ∈ addF f y ↔ x ∈ f ∨ x = y := by
        unfold addF
        split
        · rename_i hy
          exact ⟨.inl, fun h => h.elim id fun e => e ▸ hy⟩
        · simp
      rw [this, List.mem_cons]
      exact or_assoc
  rw [ded, this]
  simp
theorem scanT_mem {f : List Str} {t : Tem} {x : Str} : x ∈ scanT f t ↔ x ∈ f ∨ ∃ s ∈ t, s.2 = -1 ∧ s.1 = x := by
  unfold scanT
  rw [List.mem_append, List.mem_filterMap]
  refine ⟨fun h => h.elim .inl fun ⟨s, hs, e⟩ => ?_, fun h => ?_⟩
  · split at e
    · rename_i hh
      cases e
      exact .inr ⟨s, hs, hh.1, rfl⟩
    · cases e
  · by_cases hx : x ∈ f
    · exact .inl hx
    · rcases h with h | ⟨s, hs, h1, rfl⟩
      · exact .inl h
      · exact .inr ⟨s, hs, by rw [if_pos ⟨h1, hx⟩]⟩
theorem scanL_mem {l : Ln} {x : Str} : ∀ {f : List Str}, x ∈ scanL f l ↔ x ∈ f ∨ ∃ t ∈ l.2, ∃ s ∈ t, s.2 = -1 ∧ s.1 = x := by
  unfold scanL
  generalize l.2 = ts
  induction ts with
  | nil => intro f; simp
  | cons t ts ih =>
    intro f
    rw [List.foldl_cons, ih, scanT_mem]
    simp only [List.mem_cons, exists_eq_or_imp]
    exact or_assoc
theorem scan_mem {ls : List Ln} {x : Str} : ∀ {f : List Str}, x ∈ ls.foldl scanL f ↔ x ∈ f ∨ ∃ l ∈ ls, ∃ t ∈ l.2, ∃ s ∈ t, s.2 = -1 ∧ s.1 = x := by
  induction ls with
  | nil => intro f; simp
  | cons l ls ih =>
    intro f
    rw [List.foldl_cons, ih, scanL_mem]
    simp only [List.mem_cons, exists_eq_or_imp]
    exact or_assoc
theorem mem_vars {r : Rl} {l : Ln} (hl : l ∈ r.1 ++ [r.2]) {t : Tem} (ht : t ∈ l.2) {s : Sg} (hs : s ∈ t) (h : s.2 = -1) : s.1 ∈ ded (scanR r) := mem_ded.mpr (scan_mem.mpr (.inr ⟨l, hl, t, ht, s, hs, h, rfl⟩))
theorem merge_nodup : ∀ (ps acc : List (D × D)), ((acc ++ ps).map (·.1)).Nodup → ps.foldl (fun acc p => putD acc p.1 p.2) acc = acc ++ ps
  | [], acc, _ => by simp
  | p :: ps, acc, h => by
    have hn : ¬ (acc.any fun q => decide (q.1 = p.1)) = true := fun q => by
      obtain ⟨y, hy, e⟩ := List.any_eq_true.mp q
      have e := of_decide_eq_true e
      rw [List.map_append, List.nodup_append] at h
      exact h.2.2 y.1 (List.mem_map.mpr ⟨y, hy, rfl⟩) p.1 (by simp) e
    have e1 : putD acc p.1 p.2 = acc ++ [p] := by
      unfold putD
      rw [if_neg hn]
    rw [List.foldl_cons, e1, merge_nodup ps (acc ++ [p]) (by simpa using h)]
    simp
theorem zip_keys {α : Type} : ∀ {V : List Str} {P : List α}, (V.zip P).map (·.1) = V.take P.length
  | [], _ => by simp
  | _ :: _, [] => by simp
  | v :: V, p :: P => by simp [zip_keys (V := V) (P := P)]
theorem getK_zip {α : Type} {h : α → D} {x : Str} : ∀ {V : List Str} {P : List α}, getK ((V.zip P).map fun p => (D.str p.1, h p.2)) (.str x) = ((V.zip P).lookup x).map h
  | [], _ => rfl
  | _ :: _, [] => rfl
  | v :: V, p :: P => by
    have ih := getK_zip (h := h) (x := x) (V := V) (P := P)
    unfold getK at ih ⊢
    simp only [List.zip_cons_cons, List.map_cons, List.find?_cons, List.lookup_cons]
    by_cases e : v = x
    · subst e
      simp
    · have e2 : ¬ D.str v = D.str x := fun z => e (by cases z; rfl)
      have e3 : (x == v) = false := beq_eq_false_iff_ne.mpr fun z => e z.symm
      rw [decide_eq_false e2, e3]
      exact ih
theorem look_some {α : Type} {x : Str} : ∀ {V : List Str} {P : List α}, x ∈ V → V.length ≤ P.length → ∃ p, (V.zip P).lookup x = some p
  | v :: V, [], _, h => absurd h (by simp)
  | v :: V, p :: P, hx, h => by
    simp only [List.zip_cons_cons, List.lookup_cons]
    by_cases e : x = v
    · subst e
      exact ⟨p, by simp⟩
    · have e3 : (x == v) = false := beq_eq_false_iff_ne.mpr e
      rw [e3]
      exact look_some ((List.mem_cons.mp hx).resolve_left e) (by simpa using h)
theorem zip_take' {α : Type} : ∀ {V : List Str} {P : List α}, V.zip (P.take V.length) = V.zip P
  | [], _ => rfl
  | v :: V, [] => rfl
  | v :: V, p :: P => by simp [zip_take' (V := V) (P := P)]
/-- what a dict of names gives -/
theorem dict_nu {V P : List Str} (hV : V.Nodup) (hl : V.length ≤ P.length) (h : Str → D) :
    mergeD ((V.zip P).map fun p => (D.str p.1, h p.2)) = (V.zip P).map (fun p => (D.str p.1, h p.2)) ∧ ∀ x ∈ V, getK ((V.zip P).map fun p => (D.str p.1, h p.2)) (.str x) = some (h (nu V P x)) := by
  refine ⟨?_, fun x hx => ?_⟩
  · unfold mergeD
    have := merge_nodup ((V.zip P).map fun p => (D.str p.1, h p.2)) [] (by
      rw [List.nil_append, List.map_map]
      have e : (V.zip P).map ((fun p : D × D => p.1) ∘ fun p => (D.str p.1, h p.2)) = ((V.zip P).map (·.1)).map D.str := by rw [List.map_map]; rfl
      rw [e, zip_keys]
      unfold List.Nodup
      rw [List.pairwise_map]
      exact (hV.sublist (List.take_sublist _ _)).imp fun hne e => hne (by cases e; rfl))
    rw [this]
    rfl
  · obtain ⟨p, e⟩ := look_some hx hl
    rw [getK_zip, e]
    unfold nu
    rw [e]
    rfl

theorem dz_ok {g : Hh} {n : Nat} {xs ys : List D} {Q : D → Hh → Prop} (h : g[n]? = some (.lst ys)) (hk : xs.all isKey = true) (hl : xs.length ≤ 1000) : TO (dDictZip (.tup xs) (.ref n) g) Q = Q (.ref g.length) (g ++ [.dct (mergeD (xs.zip ys))]) := by
  have : decide (xs.length ≤ sizeLine) = true := decide_eq_true (small_le hl)
  simp only [dDictZip, seqD, h, hk, this, Bool.and_self, if_true]; rfl
theorem ss_ok {g : Hh} {n : Nat} {ds : List D} {Q : D → Hh → Prop} (h : g[n]? = some (.lst ds)) (hk : (srtOk ds && ds.all isCons) = true) : TO (dSrtSet (.ref n) g) Q = Q (.ref g.length) (g ++ [.lst (srtD (ddp ds))]) := by
  simp only [dSrtSet, h, hk, if_true]; rfl
def premD (ν : Str → Str) (r : Rl) : List D := (r.1.map (fillL ν)).map lnD
def factsOf (ν : Str → Str) (r : Rl) : List D := srtD (ddp (premD ν r))
def cntD (ν : Str → Str) (r : Rl) : List D := (factsOf ν r).map fun f => D.int ((premD ν r).countP fun y => decide (y = f) : Nat)
def nuR (mks : List Sg) (r : Rl) : Str → Str := nu (ded (scanR r)) (plain mks 16)
def factD (mks : List Sg) (r : Rl) (p : Int × Int) : D := .tup [.tup (factsOf (nuR mks r) r), lnD (fillL (nuR mks r) r.2), .tup [prD p, .tup (cntD (nuR mks r) r)]]
theorem ok_plain {mks : List Sg} {x : Str} (h : x ∈ plain mks 16) : PyData.strOk x = true := by
  have := (List.mem_filter.mp h).1
  obtain ⟨i, hi, rfl⟩ := List.mem_map.mp this
  have := List.mem_range.mp hi
  exact ok_letter (by omega)
theorem look_mem {α : Type} {x : Str} {p : α} : ∀ {V : List Str} {P : List α}, (V.zip P).lookup x = some p → p ∈ P
  | [], _, h => by cases h
  | _ :: _, [], h => by cases h
  | v :: V, q :: P, h => by
    simp only [List.zip_cons_cons, List.lookup_cons] at h
    split at h
    · cases h; exact List.mem_cons_self
    · exact List.mem_cons_of_mem _ (look_mem h)
theorem ok_nu (mks : List Sg) (r : Rl) (x : Str) : PyData.strOk (nuR mks r x) = true := by
  unfold nuR nu
  cases h : ((ded (scanR r)).zip (plain mks 16)).lookup x with
  | none => exact (by decide +kernel : PyData.strOk "" = true)
  | some p => exact ok_plain (look_mem h)
theorem ok_fill {mks : List Sg} {r : Rl} {l : Ln} (h : lnOk l = true) : lnOk (fillL (nuR mks r) l) = true := by
  obtain ⟨h1, h2⟩ := lnOk_s h
  unfold lnOk fillL
  rw [Bool.and_eq_true, List.all_eq_true]
  refine ⟨h1, fun t ht => ?_⟩
  obtain ⟨t0, ht0, rfl⟩ := List.mem_map.mp ht
  rw [List.all_eq_true]
  intro s hs
  obtain ⟨s0, hs0, rfl⟩ := List.mem_map.mp hs
  split
  · exact ok_nu mks r s0.1
  · exact h2 t0 ht0 s0 hs0
theorem prem_gd {mks : List Sg} {r : Rl} (hr : RlOk r) : (∀ d ∈ premD (nuR mks r) r, gdD 4 d = true) ∧ (srtOk (premD (nuR mks r) r) && (premD (nuR mks r) r).all isCons) = true := by
  refine ⟨fun d hd => ?_, srtOk_ln ?_ ?_⟩
  · obtain ⟨l, hl, rfl⟩ := List.mem_map.mp hd
    obtain ⟨l, hl0, rfl⟩ := List.mem_map.mp hl
    exact gd_ln (ok_fill (hr.l l (List.mem_append_left _ hl0)).s)
  · rw [List.length_map]
    have := hr.n
    omega
  · intro l hl
    obtain ⟨l, hl0, rfl⟩ := List.mem_map.mp hl
    exact ok_fill (hr.l l (List.mem_append_left _ hl0)).s
theorem facts_mem {ν : Str → Str} {r : Rl} {d : D} (h : d ∈ factsOf ν r) : d ∈ premD ν r := mem_ddp.mp ((List.mergeSort_perm ..).mem_iff.mp h)
theorem ddp_len : ∀ ds : List D, (ddp ds).length ≤ ds.length
  | [] => Nat.le_refl _
  | d :: ds => by
    unfold ddp
    have := ddp_len ds
    split
    · rw [List.length_cons]; omega
    · rw [List.length_cons, List.length_cons]; omega
theorem facts_len {ν : Str → Str} {r : Rl} : (factsOf ν r).length ≤ r.1.length := by
  unfold factsOf srtD
  rw [List.length_mergeSort]
  have := ddp_len (premD ν r)
  unfold premD at this
  rw [List.length_map, List.length_map] at this
  exact this
structure MkOk (mks : List Sg) (r : Rl) : Prop where
  n : mks.length ≤ 4
  s : ∀ s ∈ mks, PyData.strOk s.1 = true
  v : (ded (scanR r)).length ≤ 8
theorem plain_len {mks : List Sg} (h : mks.length ≤ 4) : 12 ≤ (plain mks 16).length := by
  have := plain_ge mks 16
  omega
theorem facts_ok {k p b i : Nat} {B : Bk} {g : Hh} {r : Rl} {q : Int × Int} (hb : PbAt p b B g) (hi : B.rl[i]? = some r) (hp : B.pr[i]? = some q) (hr : RlOk r) (hm : MkOk B.mks r) :
    Tr (run Ds (k + 3) "rule_facts" [.ref p, .int i] g) fun d g' => d = factD B.mks r q ∧ Kp [] g g' := by
  rw [r_rule_facts, Tr_outR]
  unfold c_rule_facts
  have hn := hr.n
  have hv := hm.v
  have hpl := plain_len hm.n
  walk_at "ev"
  refine fld_ok ?_
  refine fld_ok ?_
  walk_at "ev"
  refine ⟨p, _, _, _, rfl, hb.1, by decide, lk_bk, ?_⟩
  refine ⟨b, _, _, _, rfl, hb.2, by decide, lk_rl, ?_⟩
  rw [ix_t (atN (k := i) (a := rlD r) (by rw [List.getElem?_map, hi]; rfl))]
  walk_at "ev"
  refine (variables_ok (k := k) hr).mono fun d g1 ⟨e1, kp1⟩ => ?_
  subst e1
  walk_at "ev"
  refine fld_ok ?_
  walk_at "ev"
  refine ⟨p, _, _, _, rfl, kp1.get hb.1 (by simp), by decide, lk_bk, ?_⟩
  rw [List.length_map]
  refine (names_ok (k := k) (B := B) (kp1.get hb.2 (by simp)) hm.n hm.s hv).mono fun d g2 ⟨n, e2, kp2, hg2⟩ => ?_
  subst e2
  rw [dz_ok hg2 (by rw [List.all_map]; exact List.all_eq_true.mpr fun _ _ => rfl) (by rw [List.length_map]; omega)]
  have ez : ((ded (scanR r)).map D.str).zip (((plain B.mks 16).take (ded (scanR r)).length).map D.str) = ((ded (scanR r)).zip (plain B.mks 16)).map fun p => (D.str p.1, D.str p.2) := by
    rw [List.zip_map, zip_take']
    rfl
  obtain ⟨em, hk⟩ := dict_nu (ded_nodup (scanR r)) (by omega : (ded (scanR r)).length ≤ (plain B.mks 16).length) D.str
  rw [ez, em]
  have hgd : (g2 ++ [Ob.dct (((ded (scanR r)).zip (plain B.mks 16)).map fun p => (D.str p.1, D.str p.2))])[g2.length]? = some (.dct (((ded (scanR r)).zip (plain B.mks 16)).map fun p => (D.str p.1, D.str p.2))) := get_new
  have kp3 : Kp [] g (g2 ++ [Ob.dct (((ded (scanR r)).zip (plain B.mks 16)).map fun p => (D.str p.1, D.str p.2))]) := (kp1.trans kp2).trans (Kp.app _)
  revert hgd kp3
  generalize (g2 ++ [Ob.dct (((ded (scanR r)).zip (plain B.mks 16)).map fun p => (D.str p.1, D.str p.2))]) = G
  intro hgd kp3
  walk_at "ev"
  refine lc_ok (fun d => (r.1.find? fun l => decide (lnD l = d)).map fun l => lnD (fillL (nuR B.mks r) l)) ?_
  unfold rlD
  walk_at "ev"
  rw [ix_t at0]
  walk_at "ev"
  refine ⟨by rw [List.length_map]; exact small_le (by omega), rfl, fun d hd g4 kp4 => ?_, fun g4 kp4 hg4 => ?_⟩
  · obtain ⟨l, hl, rfl⟩ := List.mem_map.mp hd
    have hl' : l ∈ r.1 ++ [r.2] := by simp [hl]
    walk_at "ev"
    refine ⟨.refl, .refl, ?_⟩
    refine (line_ok (k := k + 1) (ν := nuR B.mks r) (hr.l l hl') (kp4.get hgd (by rw [List.mem_singleton]; exact Nat.ne_of_lt (lt_of_get hgd))) fun t ht s hs h => hk s.1 (mem_vars hl' ht hs h)).mono fun d g5 ⟨e5, kp5⟩ => ⟨kp5, ?_⟩
    subst e5
    cases hf : r.1.find? fun m => decide (lnD m = lnD l) with
    | none => exact absurd (List.find?_eq_none.mp hf l hl) (by simp)
    | some m =>
      have := lnD_inj (of_decide_eq_true (p := lnD m = lnD l) (by have := List.find?_some hf; exact this))
      rw [this]
      rfl
  · have e4 : (r.1.map lnD).filterMap (fun d => (r.1.find? fun l => decide (lnD l = d)).map fun l => lnD (fillL (nuR B.mks r) l)) = premD (nuR B.mks r) r := by
      unfold premD
      rw [List.filterMap_map, List.map_map]
      refine filterMap_all fun l hl => ?_
      show (r.1.find? fun m => decide (lnD m = lnD l)).map _ = _
      cases hf : r.1.find? fun m => decide (lnD m = lnD l) with
      | none => exact absurd (List.find?_eq_none.mp hf l hl) (by simp)
      | some m =>
        have := lnD_inj (of_decide_eq_true (p := lnD m = lnD l) (by have := List.find?_some hf; exact this))
        rw [this]
        rfl
    rw [e4] at hg4
    obtain ⟨pg, ps⟩ := prem_gd (mks := B.mks) hr
    walk_at "ev"
    rw [ss_ok hg4 ps, tup_l get_new]
    have hg5 : (g4 ++ [Ob.lst (srtD (ddp (premD (nuR B.mks r) r)))])[G.length]? = some (.lst (premD (nuR B.mks r) r)) := by
      rw [List.getElem?_append_left (lt_of_get hg4)]
      exact hg4
    have kp5 : Kp [] G (g4 ++ [Ob.lst (srtD (ddp (premD (nuR B.mks r) r)))]) := kp4.trans (Kp.app _)
    revert hg5 kp5
    generalize g4 ++ [Ob.lst (srtD (ddp (premD (nuR B.mks r) r)))] = G5
    intro hg5 kp5
    walk_at "ev"
    rw [ix_t at1]
    refine (line_ok (k := k + 1) (ν := nuR B.mks r) (hr.l r.2 (by simp)) (kp5.get hgd (by simp)) fun t ht s hs h => hk s.1 (mem_vars (by simp) ht hs h)).mono fun d g6 ⟨e6, kp6⟩ => ?_
    subst e6
    walk_at "ev"
    refine fld_ok ?_
    walk_at "ev"
    have kp7 : Kp [] g g6 := (kp3.trans kp5).trans kp6
    refine ⟨p, _, _, _, rfl, kp7.get hb.1 (by simp), by decide, lk_pr, ?_⟩
    rw [ix_t (atN (k := i) (a := prD q) (by rw [List.getElem?_map, hp]; rfl))]
    have hg6 := kp6.get hg5 (by simp)
    refine lc_ok (fun d => some (D.int ((premD (nuR B.mks r) r).countP fun y => decide (y = d) : Nat))) ?_
    walk_at "ev"
    have fl := facts_len (ν := nuR B.mks r) (r := r)
    refine ⟨small_le (by show (factsOf _ _).length ≤ _; omega), rfl, fun d hd g7 kp8 => ?_, fun g7 kp8 hg7 => ?_⟩
    · walk_at "ev"
      refine ⟨.refl, .refl, ?_⟩
      refine tr_mth bm_count ?_
      walk_at "ev"
      have hg8 := kp8.get hg6 (by rw [List.mem_singleton]; exact Nat.ne_of_lt (lt_of_get hg6))
      refine ⟨ty_l hg8, ?_⟩
      rw [count_l (n := 4) (by decide) hg8 (pg d (facts_mem hd)) pg]
      exact ⟨.refl, rfl⟩
    · rw [tup_l hg7]
      walk_at "ev"
      refine ⟨?_, kp7.trans kp8⟩
      have e7 : (srtD (ddp (premD (nuR B.mks r) r))).filterMap (fun d => some (D.int ((premD (nuR B.mks r) r).countP fun y => decide (y = d) : Nat))) = cntD (nuR B.mks r) r := filterMap_all fun _ _ => rfl
      rw [e7]
      rfl

theorem zp_ok {ra rb : Exp} {c : Cal} {ρ : Env'} {g : Hh} {Q : Src → Hh → Prop} : Tr (iZp ra rb c ρ g) Q = Tr (ra c ρ g) fun x g => Tr (rb c ρ g) fun y g => match srcOf g x, srcOf g y with
    | some s, some t => Q ⟨s.keep ++ t.keep, List.zipWith (fun a b => D.tup [a, b]) s.items t.items⟩ g
    | _, _ => False := by
  unfold iZp
  rw [Tr_bind]
  congr 1
  funext x g
  rw [Tr_bind]
  congr 1
  funext y g
  cases srcOf g x <;> cases srcOf g y <;> rfl
theorem lawplain_eq {k : Nat} {g : Hh} {x : Str} : run Ds (k + 1) "_law_plain" [.str x] g = .ok (tmD [(x, 0)]) g := by
  suffices h : Tr (run Ds (k + 1) "_law_plain" [.str x] g) fun d g' => d = tmD [(x, 0)] ∧ g' = g by
    revert h
    cases run Ds (k + 1) "_law_plain" [.str x] g with
    | ok d g' => rintro ⟨rfl, rfl⟩; rfl
    | _ => exact fun h => h.elim
  rw [r__law_plain, Tr_outR]
  unfold c__law_plain
  walk_at "ev"
  exact ⟨rfl, trivial⟩
theorem abc16 : Ev.signs "abcdefghijklmnop" = (letters 16).map D.str := by decide +kernel
def zipF : D → Option D
  | .tup [.str x, .str y] => some (.tup [.str x, tmD [(y, 0)]])
  | _ => none
def linF (ν : Str → Str) : D → Option D
  | .tup [.str x, .tup ts] => some (.tup [.str x, .tup (ts.filterMap (fillE ν))])
  | _ => none
theorem linF_map (ν : Str → Str) (ls : List Ln) : (ls.map lnD).filterMap (linF ν) = (ls.map (fillL ν)).map lnD := by
  rw [List.filterMap_map, List.map_map]
  refine filterMap_all fun l _ => ?_
  simp only [Function.comp, lnD, linF, fillE_map, fillL]
def notF (mks : List Sg) : D → Option D
  | .str x => if x ∈ mks.map (·.1) then none else some (.str x)
  | _ => none
theorem zip_strs {V P : List Str} : List.zipWith (fun a b => D.tup [a, b]) (V.map D.str) (P.map D.str) = (V.zip P).map fun p => D.tup [.str p.1, .str p.2] := by
  rw [List.zipWith_map, List.zip, List.map_zipWith]
theorem notF_str {mks : List Sg} {x : Str} : notF mks (.str x) = if x ∈ mks.map (·.1) then none else some (.str x) := rfl
theorem fillE_tm (ν : Str → Str) (t : Tem) : fillE ν (tmD t) = some (tmD (fillT ν t)) := by
  show some (D.tup ((t.map sgD).filterMap (fillS ν))) = _
  rw [fillS_map]
  rfl
theorem notF_map (mks : List Sg) : ((letters 16).map D.str).filterMap (notF mks) = (plain mks 16).map D.str := by
  unfold plain
  generalize letters 16 = l
  induction l with
  | nil => rfl
  | cons x l ih =>
    rw [List.map_cons, List.filter_cons]
    by_cases h : x ∈ mks.map (·.1)
    · rw [List.filterMap_cons_none (by rw [notF_str, if_pos h]), ih, if_neg (by simp only [h]; simp)]
    · rw [List.filterMap_cons_some (b := D.str x) (by rw [notF_str, if_neg h]), ih, if_pos (by simp only [h]; simp)]
      rfl
/-- the terms of a line, filled -/
theorem terms_ok {k n : Nat} {c : Cal} (hc : c = run Ds (k + 1)) {vs : List Nat} {i : Nat} {it : Itx} {ρ : Env'} {g : Hh} {l : Ln} {ν : Str → Str} {kvs : List (D × D)} {Q : D → Hh → Prop} (hl : LnOk l) (hn : g[n]? = some (.dct kvs))
    (hk : ∀ t ∈ l.2, ∀ s ∈ t, s.2 = -1 → getK kvs (.str s.1) = some (tmD [(ν s.1, 0)])) (hit : it c ρ g = .ok ⟨[], l.2.map tmD⟩ g) (hi : i < (wipeD ρ vs).length) (h8 : i ≠ 8) (hρ : (wipeD ρ vs)[8]? = some (some (.ref n)))
    (hq : ∀ g', Kp [] g g' → Q (.tup ((l.2.map (fillT ν)).map tmD)) g') :
    Tr (eLc vs it (gNm i) tYesE (eOwn "_law_fill" 2 (aCons (eVar i) (aCons (eVar 8) aNil))) c ρ g) fun x g => TO (dTuple x g) Q := by
  subst hc
  refine lc_ok (fillE ν) ?_
  rw [hit]
  walk_at "ev"
  have hts := hl.t
  have hln := hl.n
  refine ⟨by rw [List.length_map]; exact small_le (by omega), rfl, fun d hd g1 kp1 => ?_, fun g1 kp1 hg1 => ?_⟩
  · obtain ⟨t, ht, rfl⟩ := List.mem_map.mp hd
    refine ⟨.refl, .refl, ?_⟩
    rw [List.getElem?_set_self hi]
    walk_at "ev"
    rw [List.getElem?_set_ne h8, hρ]
    walk_at "ev"
    refine (fill_ok (k := k) (ν := ν) (hts t ht).1 (hts t ht).2 (kp1.get hn (by rw [List.mem_singleton]; exact Nat.ne_of_lt (lt_of_get hn))) (hk t ht)).mono fun d g2 ⟨e, e2⟩ => ?_
    subst e e2
    refine ⟨.refl, ?_⟩
    exact fillE_tm ν t
  · rw [fillE_map] at hg1
    rw [tup_l hg1]
    exact hq g1 kp1
theorem lawfacts_ok {k i : Nat} {B : Bk} {g : Hh} {r : Rl} {q : Int × Int} (hi : B.rl[i]? = some r) (hp : B.pr[i]? = some q) (hr : RlOk r) (hm : MkOk B.mks r) :
    Tr (run Ds (k + 2) "_law_facts_of" [bkD B, .int i] g) fun d g' => d = factD B.mks r q ∧ Kp [] g g' := by
  rw [r__law_facts_of, Tr_outR]
  unfold c__law_facts_of
  have hn := hr.n
  have hv := hm.v
  have hmn := hm.n
  have hpl := plain_len hm.n
  unfold bkD
  walk_at "ev"
  rw [ix_t at2]
  rw [ix_t (atN (k := i) (a := rlD r) (by rw [List.getElem?_map, hi]; rfl))]
  refine lc_ok (fun d => match d with
    | .tup (a :: _) => some a
    | _ => none) ?_
  walk_at "ev"
  rw [ix_t at1]
  walk_at "ev"
  refine ⟨by rw [List.length_map]; exact small_le (by omega), rfl, fun d hd g' kp => ?_, fun g1 kp1 hg1 => ?_⟩
  · obtain ⟨s, hs, rfl⟩ := List.mem_map.mp hd
    unfold sgD
    walk_at "ev"
    exact ⟨.refl, .refl, .refl, ⟨⟩⟩
  have hmks : (B.mks.map sgD).filterMap (fun d => match d with
    | .tup (a :: _) => some a
    | _ => none) = (B.mks.map (·.1)).map D.str := by
    rw [List.filterMap_map, List.map_map]
    exact filterMap_all fun s _ => rfl
  rw [hmks] at hg1
  walk_at "ev"
  refine lc_ok (notF B.mks) ?_
  walk_at "ev"
  have sr : srcOf g1 (.str "abcdefghijklmnop") = some ⟨[], (letters 16).map D.str⟩ := by rw [← abc16]; rfl
  rw [sr]
  refine ⟨by rw [List.length_map, letters_len]; exact small_le (by decide), rfl, fun d hd g' kp => ?_, fun g2 kp2 hg2 => ?_⟩
  · obtain ⟨x, hx, rfl⟩ := List.mem_map.mp hd
    have okx : PyData.strOk x = true := by
      obtain ⟨j, hj, rfl⟩ := List.mem_map.mp hx
      exact ok_letter (by have := List.mem_range.mp hj; omega)
    walk_at "ev"
    refine ⟨.refl, ?_⟩
    have hg3 := kp.get hg1 (by rw [List.mem_singleton]; exact Nat.ne_of_lt (lt_of_get hg1))
    rw [notin_l (n := 0) (d := .str x) (by decide) hg3 okx (fun z hz => by
      obtain ⟨s, h, rfl⟩ := List.mem_map.mp hz
      obtain ⟨s0, h0, rfl⟩ := List.mem_map.mp h
      exact hm.s s0 h0)]
    walk_at "ev"
    refine ⟨.refl, ?_⟩
    by_cases h : x ∈ B.mks.map (·.1)
    · rw [if_neg (by simp only [str_mem, h]; simp)]
      rw [notF_str, if_pos h]
    · rw [if_pos (by simp only [str_mem, h]; simp)]
      refine ⟨.refl, ?_⟩
      rw [notF_str, if_neg h]
  rw [notF_map] at hg2
  walk_at "ev"
  refine lc_ok zipF ?_
  rw [zp_ok]
  walk_at "ev"
  refine (lawvars_ok (k := k) hr).mono fun d g3 ⟨n3, e3, hg3, kp3⟩ => ?_
  subst e3
  walk_at "ev"
  have hg2' := kp3.get hg2 (by simp)
  rw [src_l hg3, src_l hg2']
  dsimp only
  rw [zip_strs]
  refine ⟨by rw [List.length_map, List.length_zip]; exact small_le (by omega), by simp [stable, hg3, hg2'], fun d hd g' kp => ?_, fun g4 kp4 hg4 => ?_⟩
  · obtain ⟨p, hp, rfl⟩ := List.mem_map.mp hd
    walk_at "ev"
    refine ⟨.refl, .refl, ?_⟩
    rw [lawplain_eq (k := k)]
    walk_at "ev"
    exact ⟨.refl, rfl⟩
  have e4 : ((((ded (scanR r)).zip (plain B.mks 16)).map fun p => D.tup [.str p.1, .str p.2]).filterMap zipF) = ((ded (scanR r)).zip (plain B.mks 16)).map fun p => D.tup [.str p.1, tmD [(p.2, 0)]] := by
    rw [List.filterMap_map]
    exact filterMap_all fun p _ => rfl
  rw [e4] at hg4
  rw [dict_l hg4 (pairs_map (f := fun p : Str × Str => p.1) (v := fun p => tmD [(p.2, 0)]) _)]
  obtain ⟨em, hk⟩ := dict_nu (ded_nodup (scanR r)) (by omega : (ded (scanR r)).length ≤ (plain B.mks 16).length) (fun y => tmD [(y, 0)])
  rw [em]
  generalize hkvs : ((ded (scanR r)).zip (plain B.mks 16)).map (fun p => (D.str p.1, tmD [(p.2, 0)])) = kvs at hk ⊢
  have hgd : (g4 ++ [Ob.dct kvs])[g4.length]? = some (.dct kvs) := get_new
  have kpG : Kp [] g (g4 ++ [Ob.dct kvs]) := (((kp1.trans kp2).trans kp3).trans kp4).trans (Kp.app _)
  revert hgd kpG
  generalize g4 ++ [Ob.dct kvs] = G
  intro hgd kpG
  refine lc_ok (linF (nuR B.mks r)) ?_
  unfold rlD
  walk_at "ev"
  rw [ix_t at0]
  walk_at "ev"
  refine ⟨by rw [List.length_map]; exact small_le (by omega), rfl, fun d hd g' kp => ?_, fun g5 kp5 hg5 => ?_⟩
  · obtain ⟨l, hl, rfl⟩ := List.mem_map.mp hd
    have hl' : l ∈ r.1 ++ [r.2] := List.mem_append_left _ hl
    unfold lnD
    walk_at "ev"
    refine ⟨.refl, .refl, ?_⟩
    refine terms_ok (k := k) rfl (l := l) (ν := nuR B.mks r) (hr.l l hl') (kp.get hgd (by rw [List.mem_singleton]; exact Nat.ne_of_lt (lt_of_get hgd))) (fun t ht s hs h => hk s.1 (mem_vars hl' ht hs h)) rfl (by simp [wipeD]) (by decide) rfl fun g6 kp6 => ?_
    walk_at "ev"
    refine ⟨kp6, ?_⟩
    show some (D.tup [.str l.1, .tup ((l.2.map tmD).filterMap (fillE (nuR B.mks r)))]) = _
    rw [fillE_map]
  rw [linF_map] at hg5
  have hg5 : g5[G.length]? = some (.lst (premD (nuR B.mks r) r)) := hg5
  obtain ⟨pg, ps⟩ := prem_gd (mks := B.mks) hr
  rw [ss_ok hg5 ps, tup_l get_new]
  have hg6 : (g5 ++ [Ob.lst (srtD (ddp (premD (nuR B.mks r) r)))])[G.length]? = some (.lst (premD (nuR B.mks r) r)) := by
    rw [List.getElem?_append_left (lt_of_get hg5)]
    exact hg5
  have kp6 : Kp [] G (g5 ++ [Ob.lst (srtD (ddp (premD (nuR B.mks r) r)))]) := kp5.trans (Kp.app _)
  revert hg6 kp6
  generalize g5 ++ [Ob.lst (srtD (ddp (premD (nuR B.mks r) r)))] = G6
  intro hg6 kp6
  rw [ix_t at1]
  unfold lnD
  rw [ix_t at0]
  refine terms_ok (k := k) rfl (l := r.2) (ν := nuR B.mks r) (hr.l r.2 (by simp)) (kp6.get hgd (by simp)) (fun t ht s hs h => hk s.1 (mem_vars (l := r.2) (by simp) ht hs h)) rfl (by simp [wipeD]) (by decide) rfl fun g7 kp7 => ?_
  rw [ix_t at3]
  rw [ix_t (atN (k := i) (a := prD q) (by rw [List.getElem?_map, hp]; rfl))]
  have hg7 := kp7.get hg6 (by simp)
  refine lc_ok (fun d => some (D.int ((premD (nuR B.mks r) r).countP fun y => decide (y = d) : Nat))) ?_
  walk_at "ev"
  have fl := facts_len (ν := nuR B.mks r) (r := r)
  refine ⟨small_le (by show (factsOf _ _).length ≤ _; omega), rfl, fun d hd g8 kp8 => ?_, fun g8 kp8 hg8 => ?_⟩
  · walk_at "ev"
    refine ⟨.refl, .refl, ?_⟩
    have hg9 := kp8.get hg7 (by rw [List.mem_singleton]; exact Nat.ne_of_lt (lt_of_get hg7))
    have hd4 := pg d (facts_mem hd)
    refine lc_ok (fun y => if y = d then some y else none) ?_
    walk_at "ev"
    rw [src_l hg9]
    refine ⟨by unfold premD; rw [List.length_map, List.length_map]; exact small_le (by omega), stable_one hg9, fun y hy g9 kp9 => ?_, fun g9 kp9 hg10 => ?_⟩
    · walk_at "ev"
      rw [eq_gd (n := 4) (by decide) (pg y hy) hd4]
      walk_at "ev"
      refine ⟨.refl, .refl, ?_⟩
      by_cases h : y = d
      · rw [if_pos (decide_eq_true h)]
        exact ⟨.refl, by rw [if_pos h]⟩
      · rw [if_neg (by simp [h])]
        rw [if_neg h]
    · rw [len_l hg10]
      refine ⟨kp9, ?_⟩
      rw [List.countP_eq_length_filter]
      congr 3
      generalize premD (nuR B.mks r) r = l
      induction l with
      | nil => rfl
      | cons z l ih =>
        by_cases h : z = d
        · rw [List.filterMap_cons_some (b := z) (by rw [if_pos h]), List.filter_cons, if_pos (decide_eq_true h), List.length_cons, List.length_cons, ih]
        · rw [List.filterMap_cons_none (by rw [if_neg h]), List.filter_cons, if_neg (by simp [h]), ih]
  · rw [tup_l hg8]
    walk_at "ev"
    refine ⟨?_, ((kpG.trans kp6).trans kp7).trans kp8⟩
    have e7 : (srtD (ddp (premD (nuR B.mks r) r))).filterMap (fun d => some (D.int ((premD (nuR B.mks r) r).countP fun y => decide (y = d) : Nat))) = cntD (nuR B.mks r) r := filterMap_all fun _ _ => rfl
    rw [e7]
    rfl

/-- no tuple is long -/
def wdD : Nat → D → Bool
  | 0, _ => true
  | n + 1, .tup ds => decide (ds.length ≤ 1000) && ds.all (wdD n)
  | _ + 1, _ => true
theorem same_int {k : Nat} {i : Int} {g : Hh} : Tr (run Ds (k + 1) "_law_same" [.int i, .int i] g) fun x g' => x = .bl true ∧ Kp [] g g' := by
  rw [r__law_same, Tr_outR]
  unfold c__law_same
  walk_at "ev"
  exact ⟨rfl, .refl⟩
theorem same_str {k : Nat} {x : Str} {g : Hh} (h : PyData.strOk x = true) : Tr (run Ds (k + 1) "_law_same" [.str x, .str x] g) fun x g' => x = .bl true ∧ Kp [] g g' := by
  rw [r__law_same, Tr_outR]
  unfold c__law_same
  walk_at "ev"
  rw [eq_gd (n := 0) (d := .str x) (e := .str x) (by decide) h h, decide_eq_true rfl]
  exact ⟨rfl, .refl⟩
theorem ne_same {g : Hh} {i : Int} {Q : D → Hh → Prop} : TO (dNe (.int i) (.int i) g) Q = Q (.bl false) g := by
  rw [ne_i]
  have : decide (i = i) = true := decide_eq_true_iff.mpr (Eq.refl i)
  rw [this]
  exact (rfl)
theorem same_tup {k : Nat} {ds : List D} {g : Hh} (hl : ds.length ≤ 1000) (ih : ∀ d ∈ ds, ∀ g, Tr (run Ds k "_law_same" [d, d] g) fun x g' => x = .bl true ∧ Kp [] g g') : Tr (run Ds (k + 1) "_law_same" [.tup ds, .tup ds] g) fun x g' => x = .bl true ∧ Kp [] g g' := by
  rw [r__law_same, Tr_outR]
  revert ih
  generalize run Ds k = c
  intro ih
  unfold c__law_same
  rw [TS_seq]
  refine TS.mono (P := ⟨fun _ _ => False, fun d g' => d = .bl true ∧ Kp [] g g', fun _ _ => False, fun _ _ => False⟩) ?_ (fun _ _ h => h.elim) (fun _ _ h => h) (fun _ _ h => h) (fun _ _ h => h)
  rw [TS_if, truE_ok]
  simp only [eCall, aCons, aNil, eVar, eC, Tr_bind, Tr_ok, Tr_of, b2, List.getElem?_cons_zero, List.getElem?_cons_succ]
  rw [isi_tt]
  simp only [tru_bl, if_true]
  rw [TS_seq, TS_if]
  simp only [tOrE, tNotE, truE_ok, tVal, eOp, eCall, aCons, aNil, eVar, eC, Tr_bind, Tr_ok, Tr_of, b1, b2, List.getElem?_cons_zero, List.getElem?_cons_succ]
  rw [isi_tt]
  simp only [tru_bl, Bool.not_true, Bool.false_eq_true, if_false, Tr_ok, Tr_bind, Tr_of]
  rw [len_t, len_t]
  refine TO.mono (Q := fun d g' => d = .bl false ∧ g' = g) (by rw [ne_same]; exact ⟨rfl, rfl⟩) fun d g' ⟨e1, e2⟩ => ?_
  subst e1 e2
  simp only [Bool.not_true, Bool.false_eq_true, if_false, Tr_ok, sPass, TS_nx, sRet, TS_out, eOp, Tr_bind, eCall, aCons, aNil, Tr_of, b1, eC, TS_ret]
  refine lc_ok (fun _ => none) ?_
  refine rg1_ok hl ?_
  walk_at "ev"
  refine ⟨trivial, by rw [List.length_map, List.length_range]; exact small_le hl, rfl, fun d hd g' kp => ?_, fun g1 kp1 hg1 => ?_⟩
  · obtain ⟨i, hi, rfl⟩ := List.mem_map.mp hd
    have hi := List.mem_range.mp hi
    walk_at "ev"
    rw [ix_t (atN (k := i) (List.getElem?_eq_getElem hi))]
    rw [ix_t (atN (k := i) (List.getElem?_eq_getElem hi))]
    refine ⟨.refl, ?_⟩
    refine (ih ds[i] (List.getElem_mem hi) g').mono fun x g2 ⟨e, kp2⟩ => ?_
    subst e
    walk_at "ev"
    exact ⟨kp2, trivial⟩
  · rw [len_l hg1]
    walk_at "ev"
    have : (((List.range ds.length).map fun i => D.int ((i : Nat) : Int)).filterMap fun _ => (none : Option D)) = [] := by
      generalize (List.range ds.length).map _ = l
      induction l with
      | nil => rfl
      | cons a l ih => rw [List.filterMap_cons_none rfl, ih]
    rw [this]
    exact ⟨rfl, kp1⟩
theorem same_ok : ∀ (n : Nat) {k : Nat} {d : D}, gdD n d = true → wdD n d = true → ∀ g, Tr (run Ds (k + n + 1) "_law_same" [d, d] g) fun x g' => x = .bl true ∧ Kp [] g g'
  | 0, _, .int _, _, _, _ => same_int
  | 0, _, .str _, h, _, _ => same_str h
  | _ + 1, _, .int _, _, _, _ => same_int
  | _ + 1, _, .str _, h, _, _ => same_str h
  | n + 1, k, .tup ds, h, w, g => by
    have h : ds.all (gdD n) = true := h
    have w : (decide (ds.length ≤ 1000) && ds.all (wdD n)) = true := w
    rw [Bool.and_eq_true, decide_eq_true_eq] at w
    rw [List.all_eq_true] at h
    exact same_tup w.1 fun d hd g => same_ok n (k := k) (h d hd) (List.all_eq_true.mp w.2 d hd) g

/-! what the law draws with -/
theorem tr_eq {x : Res D} {d : D} {g : Hh} (h : Tr x fun d' g' => d' = d ∧ g' = g) : x = .ok d g := by
  revert h
  cases x with
  | ok d' g' => rintro ⟨rfl, rfl⟩; rfl
  | _ => exact fun h => h.elim
theorem var_eq {k : Nat} {g : Hh} {x : Str} : run Ds (k + 1) "_law_var" [.str x] g = .ok (tmD [(x, -1)]) g := by
  refine tr_eq ?_
  rw [r__law_var, Tr_outR]
  unfold c__law_var
  walk_at "ev"
  exact ⟨rfl, trivial⟩
theorem made_eq {k : Nat} {g : Hh} {x : Str} {t : Tem} (ht : t.length ≤ 20) : run Ds (k + 1) "_law_made" [.str x, tmD t] g = .ok (tmD ((x, 1) :: t)) g := by
  refine tr_eq ?_
  rw [r__law_made, Tr_outR]
  unfold c__law_made
  unfold tmD
  walk_at "ev"
  rw [add_t (small_le (by simp; omega))]
  exact ⟨rfl, rfl⟩
theorem at_eq {k : Nat} {g : Hh} {x : Str} {t : Tem} : run Ds (k + 1) "_law_at" [.str x, tmD t] g = .ok (lnD (x, [t])) g := by
  refine tr_eq ?_
  rw [r__law_at, Tr_outR]
  unfold c__law_at
  walk_at "ev"
  exact ⟨rfl, trivial⟩
theorem Dl.lt {n c : Nat} {g : Hh} (h : Dl n c g) : n < g.length ∧ c < g.length := by
  obtain ⟨_, _, D⟩ := h
  exact ⟨lt_of_get D.n_, lt_of_get D.c_⟩
theorem Dl.kp {n c : Nat} {g g' : Hh} (h : Dl n c g) (k : Kp [] g g') : Dl n c g' := by
  obtain ⟨cells, mix, D⟩ := h
  exact ⟨cells, mix, D.ne, k.get D.n_ (by simp), k.get D.c_ (by simp), D.pos, D.m0, D.m1, D.len⟩
theorem of_ok {k n c m : Nat} {g : Hh} {xs : List D} (hd : Dl n c g) (hm : g[m]? = some (.lst xs)) (h1 : m ≠ n) (h2 : m ≠ c) (hx : xs ≠ []) (hl : xs.length < 1000) :
    Tr (run Ds (k + 2) "_law_of" [.ref n, .ref m] g) fun d g' => d ∈ xs ∧ Kp [n, c] g g' ∧ Dl n c g' := by
  rw [r__law_of, Tr_outR]
  unfold c__law_of
  walk_at "ev"
  rw [len_l hm]
  have hp := List.length_pos_iff.mpr hx
  refine (any_ok (k := k) hd (by omega) (by omega)).mono fun d g' ⟨r, e, r0, r1, kp, hd'⟩ => ?_
  subst e
  have hm' := kp.get hm (by simp [h1, h2])
  obtain ⟨i, rfl⟩ : ∃ i : Nat, r = i := ⟨r.toNat, by omega⟩
  have hi : i < xs.length := by omega
  rw [ix_l hm' (atN (List.getElem?_eq_getElem hi))]
  exact ⟨List.getElem_mem hi, kp, hd'⟩

def prices9 : List (Int × Int) := [(0, 1), (1, 1), (1, 1), (2, 1), (3, 1), (5, 1), (1, 2), (3, 2), (7, 3)]
theorem kp_app_dl {n c : Nat} {g : Hh} {e : Hh} (h : Dl n c g) : Dl n c (g ++ e) := h.kp (Kp.app _)
theorem price_ok {k n c : Nat} {g : Hh} (hd : Dl n c g) : Tr (run Ds (k + 3) "_law_price" [.ref n] g) fun d g' => ∃ p ∈ prices9, d = prD p ∧ Kp [n, c] g g' ∧ Dl n c g' := by
  rw [r__law_price, Tr_outR]
  unfold c__law_price
  walk_at "ev"
  rw [new_l (small_le (Nat.le_of_ble_eq_true rfl))]
  have l := Dl.lt hd
  refine (of_ok (k := k) (kp_app_dl hd) get_new (by omega) (by omega) (by simp) (by simp)).mono fun d g' ⟨hm, kp, hd'⟩ => ?_
  have e : [D.tup [.int 0, .int 1], D.tup [.int 1, .int 1], D.tup [.int 1, .int 1], D.tup [.int 2, .int 1], D.tup [.int 3, .int 1], D.tup [.int 5, .int 1], D.tup [.int 1, .int 2], D.tup [.int 3, .int 2], D.tup [.int 7, .int 3]] = prices9.map Ev.prD := rfl
  rw [e] at hm
  obtain ⟨p, hp, rfl⟩ := List.mem_map.mp hm
  exact ⟨p, hp, rfl, (Kp.app _).nil.trans kp, hd'⟩

end T
namespace T
open PySem PySem.Spec PyProof.Rows L2 Ev
local macro_rules | `(tactic| walk_at "ev") => `(tactic| try simp only [Tr_bind, Tr_ok, Tr_err, Tr_of, TO_some, TO_none, TS_seq, TS_if, TS_for, TS_par, TS_out, TS_outB, TS_outT, TS_nx, TS_ret, TS_bk, TS_ct, TS_err, Tr_outR, Tr_if, TO_if, TO_map,
  eVar, eC, eOp, eUn, eIf, aNil, aCons, eTup, eLst, new_t0, new_t1, new_t2, new_t3, new_t4, new_t6, new_l0, wipeD, yes_ok, pl_ok, tup_t, src_t, truE_ok, tru_bl, isi_tt, isi_it, isi_st, isi_is, isi_ss, isi_ii, isi_ib, is_in, is_sn, is_ib, is_sb, eAnd, eOr, Bool.not_true, Bool.not_false, Bool.false_eq_true, tAndE, tOrE, tNotE, tVal, eNot, eCall, b1, b2, eOwn, sAsg, sRet, sExpr, sPass, sAug, gNm, gsNil, gsCons, gTp, gSb,
  gt_i, lt_i, le_i, ge_i, eq_i, ne_i, add_i, iadd_i, sub_i, neg_i, int_i, abs_i, len_t, sl_ok, no_ok, pS_ok, new_ok, ownK_ok, TS_fld, sl_t,
  List.getElem?_cons_zero, List.getElem?_cons_succ, List.set_cons_zero, List.set_cons_succ, List.length_cons, List.length_nil, if_true, if_false, if_pos, List.zip_cons_cons, List.zip_nil_left, List.foldl_cons, List.foldl_nil, Nat.reduceAdd, reduceIte])
local macro_rules | `(tactic| walk_at "ks") => `(tactic| (intro i hi; simp only [List.mem_cons, List.not_mem_nil, or_false] at hi ⊢; omega))
local macro_rules | `(tactic| walk_at "tg") => `(tactic| simp only [Tr_bind, Tr_ok, Tr_err, Tr_if, gNm, gsNil, gsCons, gTp, List.set_cons_zero, List.set_cons_succ, List.length_cons, List.length_nil, if_true, if_false, Nat.reduceAdd, reduceIte])
local macro_rules | `(tactic| walk_at "hp") => `(tactic| try simp only [List.append_assoc, List.cons_append, List.nil_append, List.length_append, List.length_cons, List.length_nil, Nat.add_assoc, Nat.reduceAdd, Nat.add_zero, Nat.zero_add])

/-! books that are well formed -/
def vrs : List Str := ["x", "y", "z"]
def sgChk (mk : List Str) (s : Sg) : Bool := PyData.strOk s.1 && ((decide (s.2 = -1) && decide (s.1 ∈ vrs)) || (decide (s.2 = 1) && decide (s.1 ∈ mk)))
def tmChk (mk : List Str) (t : Tem) : Bool := decide (t.length ≤ 8) && t.all (sgChk mk)
def lnChk (mk : List Str) (l : Ln) : Bool := PyData.strOk l.1 && (decide (l.2.length ≤ 8) && l.2.all (tmChk mk))
def rlChk (mk : List Str) (r : Rl) : Bool := decide (r.1.length ≤ 8) && (r.1 ++ [r.2]).all (lnChk mk)
structure BkOk (B : Bk) : Prop where
  mn : B.mks.length ≤ 3
  ms : ∀ s ∈ B.mks, PyData.strOk s.1 = true
  rn : B.rl.length ≤ 8
  rp : B.rl.length = B.pr.length
  rl : ∀ r ∈ B.rl, rlChk (B.mks.map (·.1)) r = true
structure BkNd (B : Bk) : Prop extends BkOk B where
  nd : (B.mks.map (·.1)).Nodup
theorem sgChk_ok {mk : List Str} {s : Sg} (h : sgChk mk s = true) : PyData.strOk s.1 = true ∧ ((s.2 = -1 ∧ s.1 ∈ vrs) ∨ (s.2 = 1 ∧ s.1 ∈ mk)) := by
  unfold sgChk at h
  simp only [Bool.and_eq_true, Bool.or_eq_true, decide_eq_true_eq] at h
  exact h
theorem tmChk_ok {mk : List Str} {t : Tem} (h : tmChk mk t = true) : t.length ≤ 8 ∧ ∀ s ∈ t, sgChk mk s = true := by
  unfold tmChk at h
  rw [Bool.and_eq_true, decide_eq_true_eq, List.all_eq_true] at h
  exact h
theorem lnChk_ok {mk : List Str} {l : Ln} (h : lnChk mk l = true) : PyData.strOk l.1 = true ∧ l.2.length ≤ 8 ∧ ∀ t ∈ l.2, tmChk mk t = true := by
  unfold lnChk at h
  rw [Bool.and_eq_true, Bool.and_eq_true, decide_eq_true_eq, List.all_eq_true] at h
  exact h
theorem rlChk_ok {mk : List Str} {r : Rl} (h : rlChk mk r = true) : r.1.length ≤ 8 ∧ ∀ l ∈ r.1 ++ [r.2], lnChk mk l = true := by
  unfold rlChk at h
  rw [Bool.and_eq_true, decide_eq_true_eq, List.all_eq_true] at h
  exact h
theorem ln_of_chk {mk : List Str} {l : Ln} (h : lnChk mk l = true) : LnOk l := by
  obtain ⟨a, b, c⟩ := lnChk_ok h
  refine ⟨?_, b, fun t ht => ⟨(tmChk_ok (c t ht)).1, fun s hs => ?_⟩⟩
  · unfold lnOk
    rw [a, Bool.true_and, List.all_eq_true]
    exact fun t ht => List.all_eq_true.mpr fun s hs => (sgChk_ok ((tmChk_ok (c t ht)).2 s hs)).1
  · rcases (sgChk_ok ((tmChk_ok (c t ht)).2 s hs)).2 with h | h
    · exact .inl h.1
    · exact .inr (by rw [h.1]; decide)
theorem rl_of_chk {mk : List Str} {r : Rl} (h : rlChk mk r = true) : RlOk r := ⟨(rlChk_ok h).1, fun l hl => ln_of_chk ((rlChk_ok h).2 l hl)⟩
theorem nodup_len {l ms : List Str} (hl : l.Nodup) (h : ∀ x ∈ l, x ∈ ms) : l.length ≤ ms.length := by
  have := filter_out l hl ms
  have e : (l.filter fun x => decide (x ∉ ms)) = [] := List.filter_eq_nil_iff.mpr fun x hx => by simp [h x hx]
  rw [e] at this
  simpa using this
theorem BkOk.mk_ {B : Bk} (h : BkOk B) {r : Rl} (hr : r ∈ B.rl) : MkOk B.mks r := by
  refine ⟨Nat.le_trans h.mn (by decide), h.ms, ?_⟩
  have : (ded (scanR r)).length ≤ vrs.length := nodup_len (ded_nodup _) fun x hx => by
    rcases scan_mem.mp (mem_ded.mp hx) with h0 | ⟨l, hl, t, ht, s, hs, e, rfl⟩
    · cases h0
    · have := (lnChk_ok ((rlChk_ok (h.rl r hr)).2 l hl)).2.2 t ht
      rcases (sgChk_ok ((tmChk_ok this).2 s hs)).2 with q | q
      · exact q.2
      · exact absurd (e.symm.trans q.1) (by decide)
  exact Nat.le_trans this (by decide)
/-! draws -/
theorem kdl {n c : Nat} {g g' : Hh} (k : Kp [] g g') (h : Dl n c g) : Dl n c g' := h.kp k
theorem any_r {k n c : Nat} {g : Hh} {b : Int} {Q : D → Hh → Prop} (hd : Dl n c g) (hb : 0 < b) (hb2 : b < 1000) (q : ∀ (r : Nat) (g' : Hh), (r : Int) < b → Kp [n, c] g g' → Dl n c g' → Q (.int r) g') :
    Tr (run Ds (k + 1) "_law_any" [.ref n, .int b] g) Q := by
  refine (any_ok (k := k) hd hb hb2).mono fun d g' ⟨r, e, h0, h1, kp, hd'⟩ => ?_
  obtain ⟨m, rfl⟩ := Int.eq_ofNat_of_zero_le h0
  subst e
  exact q m g' h1 kp hd'
theorem of_r {α : Type} {k n c m : Nat} {g : Hh} {e : α → D} {xs : List α} {Q : D → Hh → Prop} (hd : Dl n c g) (hm : g[m]? = some (.lst (xs.map e))) (h1 : m ≠ n) (h2 : m ≠ c) (hx : xs ≠ []) (hl : xs.length < 1000)
    (q : ∀ a ∈ xs, ∀ g', Kp [n, c] g g' → Dl n c g' → Q (e a) g') : Tr (run Ds (k + 2) "_law_of" [.ref n, .ref m] g) Q := by
  refine (of_ok (k := k) hd hm h1 h2 (by simpa using hx) (by simpa using hl)).mono fun d g' ⟨hm, kp, hd'⟩ => ?_
  obtain ⟨a, ha, rfl⟩ := List.mem_map.mp hm
  exact q a ha g' kp hd'
theorem price_r {k n c : Nat} {g : Hh} {Q : D → Hh → Prop} (hd : Dl n c g) (q : ∀ p ∈ prices9, ∀ g', Kp [n, c] g g' → Dl n c g' → Q (prD p) g') : Tr (run Ds (k + 3) "_law_price" [.ref n] g) Q :=
  (price_ok (k := k) hd).mono fun d g' ⟨p, hp, e, kp, hd'⟩ => by rw [e]; exact q p hp g' kp hd'
theorem init_bk {k b : Nat} {x y z : D} {g : Hh} {P : D → Hh → Prop} (h : g[b]? = some (.ins "Book" [])) (q : P .non (g.set b (.ins "Book" [("relations", x), ("makers", y), ("rules", z)]))) : Tr (run Ds (k + 1) "Book.__init__" [.ref b, x, y, z] g) P := by
  have hb := lt_of_get h
  rw [r_Book___init__, Tr_outR]
  unfold c_Book___init__
  walk_at "ev"
  rw [h]
  dsimp only
  rw [if_pos ⟨by decide, Nat.le_of_ble_eq_true rfl⟩]
  walk_at "ev"
  rw [get_set hb]
  dsimp only
  rw [if_pos ⟨by decide, Nat.le_of_ble_eq_true rfl⟩]
  walk_at "ev"
  rw [get_set (by rw [List.length_set]; exact hb)]
  dsimp only
  rw [if_pos ⟨by decide, Nat.le_of_ble_eq_true rfl⟩, List.set_set, List.set_set]
  exact q
theorem init_pb {k b : Nat} {x y : D} {g : Hh} {P : D → Hh → Prop} (h : g[b]? = some (.ins "PricedBook" [])) (q : P .non (g.set b (.ins "PricedBook" [("book", x), ("prices", y)]))) : Tr (run Ds (k + 1) "PricedBook.__init__" [.ref b, x, y] g) P := by
  have hb := lt_of_get h
  rw [r_PricedBook___init__, Tr_outR]
  unfold c_PricedBook___init__
  walk_at "ev"
  rw [h]
  dsimp only
  rw [if_pos ⟨by decide, Nat.le_of_ble_eq_true rfl⟩]
  walk_at "ev"
  rw [get_set hb]
  dsimp only
  rw [if_pos ⟨by decide, Nat.le_of_ble_eq_true rfl⟩, List.set_set]
  exact q
theorem set_app {g : Hh} {o o' : Ob} : (g ++ [o]).set g.length o' = g ++ [o'] := by simp
theorem handed_ok {k : Nat} {B : Bk} {g : Hh} : Tr (run Ds (k + 2) "_law_handed" [bkD B] g) fun d g' => ∃ p b, d = .ref p ∧ PbAt p b B g' ∧ Kp [] g g' := by
  rw [r__law_handed, Tr_outR]
  unfold c__law_handed bkD
  walk_at "ev"
  rw [ix_t at0, ix_t at1, ix_t at2]
  refine init_bk (k := k) get_new ?_
  rw [set_app, if_pos rfl, ix_t at3]
  refine init_pb (k := k) get_new ?_
  rw [set_app, if_pos rfl]
  refine ⟨_, _, rfl, ⟨get_new, ?_⟩, (Kp.app _).trans (Kp.app _)⟩
  show (_ ++ _)[g.length]? = _
  rw [List.getElem?_append_left (by simp)]
  exact get_new
theorem Dl.set {n c i : Nat} {g : Hh} {o : Ob} (h : Dl n c g) (a : i ≠ n) (b : i ≠ c) : Dl n c (g.set i o) := by
  obtain ⟨cells, mix, D⟩ := h
  exact ⟨cells, mix, D.ne, by rw [List.getElem?_set_ne a]; exact D.n_, by rw [List.getElem?_set_ne b]; exact D.c_, D.pos, D.m0, D.m1, D.len⟩

/-! a drawn book of one place -/
def xT : Tem := [("x", -1)]
def spotsOf (m : Str) : List Tem := [xT, [(m, 1), ("x", -1)]]
theorem chk_spot {mk : List Str} {m nm : Str} {t : Tem} (hm : m ∈ mk) (hs : PyData.strOk m = true) (hn : PyData.strOk nm = true) (ht : t ∈ spotsOf m) : lnChk mk (nm, [t]) = true := by
  have hx : PyData.strOk ("x" : Str) = true := by decide +kernel
  have hv : ("x" : Str) ∈ vrs := by decide
  simp only [spotsOf, List.mem_cons, List.not_mem_nil, or_false] at ht
  rcases ht with rfl | rfl
  · simp [lnChk, tmChk, sgChk, xT, hx, hv, hn]
  · simp [lnChk, tmChk, sgChk, hx, hv, hn, hm, hs]
/-- a drawn line -/
theorem line_r {k n c a s : Nat} {g : Hh} {names : List Str} {m : Str} {Q : D → Hh → Prop} (hd : Dl n c g) (ha : g[a]? = some (.lst (names.map D.str))) (hs : g[s]? = some (.lst ((spotsOf m).map tmD)))
    (h1 : a ≠ n ∧ a ≠ c) (h2 : s ≠ n ∧ s ≠ c) (hx : names ≠ []) (hl : names.length < 1000)
    (q : ∀ nm ∈ names, ∀ t ∈ spotsOf m, ∀ g', Kp [n, c] g g' → Dl n c g' → Q (lnD (nm, [t])) g') :
    Tr (run Ds (k + 2) "_law_of" [.ref n, .ref a] g) fun x g1 => Tr (run Ds (k + 2) "_law_of" [.ref n, .ref s] g1) fun y g2 => Tr (run Ds (k + 2) "_law_at" [x, y] g2) Q := by
  refine of_r (k := k) hd ha h1.1 h1.2 hx hl fun nm hnm g1 kp1 hd1 => ?_
  refine of_r (k := k) hd1 (kp1.get hs (by simp [h2])) h2.1 h2.2 (by simp [spotsOf]) (by simp [spotsOf]) fun t ht g2 kp2 hd2 => ?_
  rw [at_eq (k := k + 1)]
  exact q nm hnm t ht g2 (kp1.trans kp2) hd2
theorem names_strs (xs : List Str) (k : Nat) : cutD (xs.map D.str) none (some (k : Int)) = (xs.take k).map D.str := by
  rw [cut_to, List.map_take]
theorem pqrs_ok : ∀ x ∈ (["p", "q", "r", "s"] : List Str), PyData.strOk x = true := by decide +kernel
theorem fg_nd : (["f", "g"] : List Str).Nodup := by decide +kernel
theorem fg_ok : ∀ x ∈ (["f", "g"] : List Str), PyData.strOk x = true := by decide +kernel
/-- the rules that the loop has told so far -/
structure OneI (n c a m rs ps : Nat) (names mks : List Str) (R : List Rl) (P : List (Int × Int)) (g0 g : Hh) : Prop where
  kp : Kp [n, c, rs, ps] g0 g
  dl : Dl n c g
  hr : g[rs]? = some (.lst (R.map rlD))
  hp : g[ps]? = some (.lst (P.map prD))
  len : R.length = P.length
  ok : ∀ r ∈ R, rlChk mks r = true
theorem one_place_ok {k n c : Nat} {g : Hh} (hd : Dl n c g) : Tr (run Ds (k + 4) "_law_one_place" [.ref n, .int 3, .int 3] g) fun d g' => ∃ B, d = bkD B ∧ BkNd B ∧ Kp [n, c] g g' ∧ Dl n c g' := by
  rw [r__law_one_place, Tr_outR]
  unfold c__law_one_place
  walk_at "ev"
  rw [new_l (small_le (by decide))]
  have l0 := Dl.lt hd
  refine any_r (k := k + 2) (kp_app_dl hd) (by decide) (by decide) fun r0 g1 hr0 kp1 hd1 => ?_
  walk_at "ev"
  have hn1 : g1[g.length]? = some (.lst ((["p", "q", "r", "s"] : List Str).map D.str)) := kp1.get get_new (by simp; omega)
  have e0 : (2 : Int) + (r0 : Int) = ((2 + r0 : Nat) : Int) := by omega
  rw [e0, sl_l hn1, names_strs]
  have l1 := Dl.lt hd1
  have lg1 := lt_of_get hn1
  have kpg1 : Kp [n, c] g (g1 ++ [.lst (((["p", "q", "r", "s"] : List Str).take (2 + r0)).map D.str)]) := ((Kp.app _).trans kp1).trans (Kp.app _)
  have hA : (g1 ++ [.lst (((["p", "q", "r", "s"] : List Str).take (2 + r0)).map D.str)])[g1.length]? = some (.lst (((["p", "q", "r", "s"] : List Str).take (2 + r0)).map D.str)) := get_new
  have hd2 := kp_app_dl (e := [.lst (((["p", "q", "r", "s"] : List Str).take (2 + r0)).map D.str)]) hd1
  have pN : ((["p", "q", "r", "s"] : List Str).take (2 + r0)) ≠ [] ∧ ((["p", "q", "r", "s"] : List Str).take (2 + r0)).length ≤ 4 ∧ ∀ x ∈ ((["p", "q", "r", "s"] : List Str).take (2 + r0)), PyData.strOk x = true := by
    exact ⟨by simp, by simp; omega, fun x hx => pqrs_ok x (List.mem_of_mem_take hx)⟩
  revert kpg1 hA hd2 pN
  generalize ((["p", "q", "r", "s"] : List Str).take (2 + r0)) = names
  generalize ga : g1.length = a
  generalize g1 ++ [Ob.lst (names.map D.str)] = g2
  intro kpg1 hA hd2 ⟨nN, lN, sN⟩
  have an : a ≠ n ∧ a ≠ c := ⟨by omega, by omega⟩
  walk_at "ev"
  rw [new_l (small_le (by decide))]
  refine any_r (k := k + 2) (kp_app_dl hd2) (by decide) (by decide) fun r1 g3 hr1 kp3 hd3 => ?_
  walk_at "ev"
  have l2 := Dl.lt hd2
  have hn3 : g3[g2.length]? = some (.lst ((["f", "g"] : List Str).map D.str)) := kp3.get get_new (by simp; omega)
  have e1 : (1 : Int) + (r1 : Int) = ((1 + r1 : Nat) : Int) := by omega
  rw [e1, sl_l hn3, names_strs]
  have l3 := Dl.lt hd3
  have lg3 := lt_of_get hn3
  have hA3 : g3[a]? = some (.lst (names.map D.str)) := kp3.get (by rw [List.getElem?_append_left (lt_of_get hA)]; exact hA) (by simp [an])
  have kpg3 : Kp [n, c] g (g3 ++ [.lst (((["f", "g"] : List Str).take (1 + r1)).map D.str)]) := (kpg1.trans ((Kp.app _).trans kp3)).trans (Kp.app _)
  have hM : (g3 ++ [.lst (((["f", "g"] : List Str).take (1 + r1)).map D.str)])[g3.length]? = some (.lst (((["f", "g"] : List Str).take (1 + r1)).map D.str)) := get_new
  have hA4 : (g3 ++ [.lst (((["f", "g"] : List Str).take (1 + r1)).map D.str)])[a]? = some (.lst (names.map D.str)) := by rw [List.getElem?_append_left (lt_of_get hA3)]; exact hA3
  have hd4 := kp_app_dl (e := [.lst (((["f", "g"] : List Str).take (1 + r1)).map D.str)]) hd3
  have pM : ((["f", "g"] : List Str).take (1 + r1)) ≠ [] ∧ ((["f", "g"] : List Str).take (1 + r1)).length ≤ 2 ∧ ((["f", "g"] : List Str).take (1 + r1)).Nodup ∧ ∀ x ∈ ((["f", "g"] : List Str).take (1 + r1)), PyData.strOk x = true := by
    exact ⟨by simp, by simp; omega, fg_nd.sublist (List.take_sublist _ _), fun x hx => fg_ok x (List.mem_of_mem_take hx)⟩
  have al3 := lt_of_get hA3
  revert kpg3 hM hA4 hd4 pM
  generalize ((["f", "g"] : List Str).take (1 + r1)) = mks
  generalize gm : g3.length = m
  generalize g3 ++ [Ob.lst (mks.map D.str)] = g4
  intro kpg3 hM hA4 hd4 ⟨nM, lM, ndM, sM⟩
  have mn : m ≠ n ∧ m ≠ c := ⟨by omega, by omega⟩
  walk_at "ev"
  have l4 := Dl.lt hd4
  have lA4 := lt_of_get hA4
  have lM4 := lt_of_get hM
  -- the two empty lists
  have kp5 : Kp [] g4 (g4 ++ [Ob.lst []] ++ [Ob.lst []]) := (Kp.app _).trans (Kp.app _)
  have hR : (g4 ++ [Ob.lst []] ++ [Ob.lst []])[g4.length]? = some (.lst []) := by
    rw [List.getElem?_append_left (by simp)]
    exact get_new
  have hP : (g4 ++ [Ob.lst []] ++ [Ob.lst []])[(g4 ++ [Ob.lst []]).length]? = some (.lst []) := get_new
  have eP : (g4 ++ [Ob.lst []]).length = g4.length + 1 := by simp
  rw [eP] at hP ⊢
  refine rg1_ex ?_
  walk_at "ev"
  refine any_r (k := k + 2) (hd4.kp kp5) (by decide) (by decide) fun r2 g6 hr2 kp6 hd6 => ?_
  have e2 : (2 : Int) + (r2 : Int) = ((2 + r2 : Nat) : Int) := by omega
  rw [add_i, e2]
  refine ⟨2 + r2, by omega, rfl, ?_⟩
  have kp7 := kp5.nil (S := [n, c]) |>.trans kp6
  have hA6 : g6[a]? = some (.lst (names.map D.str)) := kp7.get hA4 (by simp [an])
  have hM6 : g6[m]? = some (.lst (mks.map D.str)) := kp7.get hM (by simp [mn])
  have hR6 := kp6.get hR (by simp; omega)
  have hP6 := kp6.get hP (by simp; omega)
  have kg6 := kpg3.trans kp7
  have l6 := Dl.lt hd6
  have lA6 := lt_of_get hA6
  have lM6 := lt_of_get hM6
  have lR6 := lt_of_get hR6
  have lP6 := lt_of_get hP6
  have rs : g4.length ≠ a ∧ g4.length ≠ m ∧ g4.length ≠ n ∧ g4.length ≠ c ∧ g4.length + 1 ≠ a ∧ g4.length + 1 ≠ m ∧ g4.length + 1 ≠ n ∧ g4.length + 1 ≠ c := by omega
  have g0l : g.length ≤ g4.length := kpg3.len
  revert rs g0l hR6 hP6
  generalize g4.length = rs_
  intro hR6 hP6 rs g0l
  refine for_ok (fun l ρ g' => ∃ R P x7 x8 x9 x10 x11, l.length + R.length = 2 + r2 ∧ ρ = [some (.ref n), some (.int 3), some (.int 3), some (.ref a), some (.ref m), some (.ref rs_), some (.ref (rs_ + 1)), x7, x8, x9, x10, x11, none] ∧ OneI n c a m rs_ (rs_ + 1) names mks R P g6 g')
    (fun _ _ _ _ => rfl) ?_ ?_ _ _ _ ⟨[], [], none, none, none, none, none, by simp, rfl, ⟨.refl, hd6, hR6, hP6, rfl, fun _ h => nomatch h⟩⟩
  · rintro d l ρ g7 ⟨R, P, x7, x8, x9, x10, x11, len, rfl, I⟩
    have ln : R.length < 2 + r2 := by rw [List.length_cons] at len; omega
    walk_at "ev"
    have hM7 := I.kp.get hM6 (by simp; omega)
    have hA7 := I.kp.get hA6 (by simp; omega)
    refine of_r (k := k + 1) I.dl hM7 mn.1 mn.2 nM (by omega) fun mk hmk g8 kp8 hd8 => ?_
    walk_at "ev"
    rw [var_eq (k := k + 2)]
    walk_at "ev"
    rw [var_eq (k := k + 2)]
    walk_at "ev"
    rw [made_eq (k := k + 2) (by decide)]
    walk_at "ev"
    rw [new_l (small_le (by simp))]
    have hS : (g8 ++ [Ob.lst [tmD [("x", -1)], tmD [(mk, 1), ("x", -1)]]])[g8.length]? = some (.lst ((spotsOf mk).map tmD)) := get_new
    have kp9 : Kp [n, c] g7 (g8 ++ [Ob.lst [tmD [("x", -1)], tmD [(mk, 1), ("x", -1)]]]) := kp8.trans (Kp.app _)
    have hd9 := kp_app_dl (e := [Ob.lst [tmD [("x", -1)], tmD [(mk, 1), ("x", -1)]]]) hd8
    have l7 := Dl.lt I.dl
    have l8 := kp8.len
    revert hS kp9 hd9
    generalize (g8 ++ [Ob.lst [tmD [("x", -1)], tmD [(mk, 1), ("x", -1)]]]) = g9
    intro hS kp9 hd9
    have spn : g8.length ≠ n ∧ g8.length ≠ c := by omega
    revert hS spn
    generalize g8.length = sp
    intro hS spn
    refine lc_inv ?_
    refine rg1_ex ?_
    walk_at "ev"
    refine any_r (k := k + 2) hd9 (by decide) (by decide) fun r3 g10 hr3 kp10 hd10 => ?_
    have e3 : (1 : Int) + (r3 : Int) = ((1 + r3 : Nat) : Int) := by omega
    rw [add_i, e3]
    refine ⟨1 + r3, by omega, rfl, fun l ys g' => ∃ L : List Ln, l.length + L.length = 1 + r3 ∧ ys = L.map lnD ∧ (∀ x ∈ L, lnChk mks x = true) ∧ Kp [n, c, g10.length] g10 g' ∧ Dl n c g' ∧ g'[g10.length]? = some (.lst ys), ?_, ?_, ?_, ?_⟩
    · exact ⟨[], by simp, rfl, (fun _ h => nomatch h), Kp.app _, kp_app_dl hd10, get_new⟩
    · rintro l ys g' ⟨L, _, _, _, _, _, h⟩
      exact ⟨rfl, h⟩
    · rintro d l ys g11 ⟨L, hl, rfl, hL, kp11, hd11, h11⟩
      walk_at "ev"
      have kk := (kp9.trans kp10)
      have lg9 := lt_of_get hS
      have g79 := kp9.len
      have g910 := kp10.len
      have l10 := Dl.lt hd10
      have la := lt_of_get hA7
      have hA11 := kp11.get (kk.get hA7 (by simp [an])) (by simp [an]; omega)
      have hS11 := kp11.get (kp10.get hS (by simp [spn])) (by simp [spn]; omega)
      refine line_r (k := k + 1) hd11 hA11 hS11 an spn nN (by omega) fun nm hnm t ht g12 kp12 hd12 => ?_
      have h12 := kp12.get h11 (by simp; omega)
      have l12 := lt_of_get h12
      refine ⟨h12, by rw [List.length_map]; exact small_lt (by omega), L ++ [(nm, [t])], by rw [List.length_append]; simp at hl ⊢; omega, by simp, ?_, ?_, ?_, get_set l12⟩
      · intro x hx
        rcases List.mem_append.mp hx with h | h
        · exact hL x h
        · rw [List.mem_singleton.mp h]
          exact chk_spot hmk (sM mk hmk) (sN nm hnm) ht
      · exact (kp11.trans (kp12.mono (by simp))).trans (Kp.set (by simp))
      · exact hd12.set (by omega) (by omega)
    · rintro ys g11 ⟨L, hl, rfl, hL, kp11, hd11, h11⟩
      walk_at "ev"
      have kk := (kp9.trans kp10)
      have lg9 := lt_of_get hS
      have g79 := kp9.len
      have g910 := kp10.len
      have l10 := Dl.lt hd10
      have la := lt_of_get hA7
      have kp711 : Kp [n, c] g7 g11 := kk.tr kp11 (by simp; omega)
      have hR7 := kp711.get I.hr (by simp; omega)
      refine tr_mth bm_append ?_
      walk_at "ev"
      refine ⟨ty_l hR7, ?_⟩
      rw [tup_l h11]
      have hA11 := kp711.get hA7 (by simp [an])
      have hS11 := kp11.get (kp10.get hS (by simp [spn])) (by simp [spn]; omega)
      refine line_r (k := k + 1) hd11 hA11 hS11 an spn nN (by omega) fun nm hnm t ht g12 kp12 hd12 => ?_
      walk_at "ev"
      have hR12 := kp12.get hR7 (by simp; omega)
      have hP12 := kp12.get (kp711.get I.hp (by simp; omega)) (by simp; omega)
      rw [app_l hR12 (by rw [List.length_map]; exact small_lt (by omega))]
      have lR := lt_of_get hR12
      have lP := lt_of_get hP12
      refine tr_mth bm_append ?_
      walk_at "ev"
      refine ⟨ty_l (by rw [List.getElem?_set_ne (by omega)]; exact hP12), ?_⟩
      refine price_r (k := k) (hd12.set (by omega) (by omega)) fun pr hpr g13 kp13 hd13 => ?_
      have kpa : Kp [n, c, rs_, rs_ + 1] g6 g13 := (((I.kp.tr kp711 (by walk_at "ks")).tr kp12 (by walk_at "ks")).tr (Kp.set (S := [rs_]) (by simp)) (by walk_at "ks")).tr kp13 (by walk_at "ks")
      have hR13 := kp13.get (get_set lR) (by simp; omega)
      have hP13 := kp13.get (show (g12.set rs_ (.lst (R.map rlD ++ [D.tup [D.tup (L.map lnD), lnD (nm, [t])]])))[rs_ + 1]? = some (.lst (P.map prD)) by rw [List.getElem?_set_ne (by omega)]; exact hP12) (by simp; omega)
      have ll := I.len
      rw [app_l hP13 (by rw [List.length_map]; exact small_lt (by omega))]
      have lR3 := lt_of_get hR13
      have lP3 := lt_of_get hP13
      refine ⟨R ++ [(L, (nm, [t]))], P ++ [pr], _, _, _, _, _, ?_, rfl, ⟨kpa.trans (Kp.set (by simp)), hd13.set (by omega) (by omega), ?_, ?_, ?_, ?_⟩⟩
      · simp at len ⊢; omega
      · rw [List.getElem?_set_ne (by omega), hR13, List.map_append]
        rfl
      · rw [get_set lP3, List.map_append]
        rfl
      · rw [List.length_append, List.length_append, ll]; rfl
      · intro r hr
        rcases List.mem_append.mp hr with h | h
        · exact I.ok r h
        · rw [List.mem_singleton.mp h]
          unfold rlChk
          rw [Bool.and_eq_true, decide_eq_true_eq, List.all_eq_true]
          refine ⟨by show L.length ≤ 8; rw [List.length_nil] at hl; omega, fun x hx => ?_⟩
          rcases List.mem_append.mp hx with h | h
          · exact hL x h
          · rw [List.mem_singleton.mp h]
            exact chk_spot hmk (sM mk hmk) (sN nm hnm) ht
  · rintro ρ g7 ⟨R, P, x7, x8, x9, x10, x11, len, rfl, I⟩
    walk_at "ev"
    have l6' := I.kp.len
    have hA7 := I.kp.get hA6 (by simp; omega)
    have hM7 := I.kp.get hM6 (by simp; omega)
    refine lc_ok (fun d => some (.tup [d, .int 1])) ?_
    walk_at "ev"
    rw [src_l hA7]
    refine ⟨by rw [List.length_map]; exact small_le (by omega), stable_one hA7, fun d hd g' kp => ?_, fun g8 kp8 hg8 => ?_⟩
    · walk_at "ev"
      exact ⟨.refl, .refl, .refl, ⟨⟩⟩
    rw [tup_l hg8]
    have hM8 := kp8.get hM7 (by simp)
    refine lc_ok (fun d => some (.tup [d, .int 1])) ?_
    walk_at "ev"
    rw [src_l hM8]
    refine ⟨by rw [List.length_map]; exact small_le (by omega), stable_one hM8, fun d hd g' kp => ?_, fun g9 kp9 hg9 => ?_⟩
    · walk_at "ev"
      exact ⟨.refl, .refl, .refl, ⟨⟩⟩
    rw [tup_l hg9]
    have k79 := kp8.trans kp9
    rw [tup_l (k79.get I.hr (by simp)), tup_l (k79.get I.hp (by simp))]
    have em : ∀ xs : List Str, (xs.map D.str).filterMap (fun d => some (D.tup [d, .int 1])) = (xs.map fun x => ((x, 1) : Sg)).map sgD := fun xs => by
      rw [List.filterMap_map, List.map_map]
      exact filterMap_all fun _ _ => rfl
    rw [em, em]
    have e : (mks.map fun x => ((x, 1) : Sg)).map (·.1) = mks := by
      rw [List.map_map]
      exact List.map_id _
    refine ⟨⟨names.map fun x => (x, 1), mks.map fun x => (x, 1), R, P⟩, rfl, ⟨⟨by simp; omega, ?_, ?_, I.len, ?_⟩, ?_⟩, (kg6.tr I.kp (by walk_at "ks")).trans k79.nil, I.dl.kp k79⟩
    · intro s hs
      obtain ⟨x, hx, rfl⟩ := List.mem_map.mp hs
      exact sM x hx
    · simp only [List.length_nil] at len
      show R.length ≤ 8
      omega
    · intro r hr
      show rlChk ((mks.map fun x => ((x, 1) : Sg)).map (·.1)) r = true
      rw [e]
      exact I.ok r hr
    · show ((mks.map fun x => ((x, 1) : Sg)).map (·.1)).Nodup
      rw [e]
      exact ndM

/-! a drawn book of steps -/
def yT : Tem := [("y", -1)]
def zT : Tem := [("z", -1)]
def gx : Tem := [("g", 1), ("x", -1)]
def gy : Tem := [("g", 1), ("y", -1)]
def stepRules : List Rl := [([("sub", [xT, yT]), ("sub", [yT, zT])], ("sub", [xT, zT])), ([("sub", [xT, yT])], ("sub", [gx, gy])), ([("sub", [xT, yT])], ("sub", [yT, xT])),
  ([("p", [xT]), ("sub", [xT, yT])], ("p", [yT])), ([], ("sub", [xT, xT])), ([("p", [gx])], ("p", [xT]))]
theorem steps_chk : ∀ r ∈ stepRules, rlChk ["g"] r = true := by decide +kernel
theorem nd_one {x : Sg} : (([x] : List Sg).map (·.1)).Nodup := by simp
theorem gs_ok : ∀ s ∈ ([("g", 1)] : List Sg), PyData.strOk s.1 = true := by decide +kernel
theorem steps_ok {k n c : Nat} {g : Hh} (hd : Dl n c g) : Tr (run Ds (k + 4) "_law_steps" [.ref n] g) fun d g' => ∃ B, d = bkD B ∧ BkNd B ∧ Kp [n, c] g g' ∧ Dl n c g' := by
  rw [r__law_steps, Tr_outR]
  unfold c__law_steps
  walk_at "ev"
  rw [var_eq (k := k + 2)]
  walk_at "ev"
  rw [var_eq (k := k + 2)]
  walk_at "ev"
  rw [var_eq (k := k + 2)]
  walk_at "ev"
  rw [made_eq (k := k + 2) (by decide)]
  walk_at "ev"
  rw [made_eq (k := k + 2) (by decide)]
  walk_at "ev"
  refine (new_l (xs := (stepRules.take 3).map rlD) (small_le (by decide))).mpr ?_
  walk_at "ev"
  rw [made_eq (k := k + 2) (by decide)]
  walk_at "ev"
  refine (new_l (xs := (stepRules.drop 3).map rlD) (small_le (by decide))).mpr ?_
  refine (add_l (xs := (stepRules.take 3).map rlD) (ys := (stepRules.drop 3).map rlD) (by rw [List.getElem?_append_left (by simp)]; exact get_new) get_new (small_le (by decide))).mpr ?_
  rw [← List.map_append, List.take_append_drop]
  have kp0 : Kp [] g (g ++ [Ob.lst ((stepRules.take 3).map rlD)] ++ [Ob.lst ((stepRules.drop 3).map rlD)] ++ [Ob.lst (stepRules.map rlD)]) := ((Kp.app _).trans (Kp.app _)).trans (Kp.app _)
  have h0 : (g ++ [Ob.lst ((stepRules.take 3).map rlD)] ++ [Ob.lst ((stepRules.drop 3).map rlD)] ++ [Ob.lst (stepRules.map rlD)])[(g ++ [Ob.lst ((stepRules.take 3).map rlD)] ++ [Ob.lst ((stepRules.drop 3).map rlD)]).length]? = some (.lst (stepRules.map rlD)) := get_new
  revert kp0 h0
  generalize (g ++ [Ob.lst ((stepRules.take 3).map rlD)] ++ [Ob.lst ((stepRules.drop 3).map rlD)]).length = sm
  generalize (g ++ [Ob.lst ((stepRules.take 3).map rlD)] ++ [Ob.lst ((stepRules.drop 3).map rlD)] ++ [Ob.lst (stepRules.map rlD)]) = g0
  intro kp0 h0
  obtain ⟨r0, rs, hrs⟩ : ∃ r0 rs, stepRules = r0 :: rs := ⟨_, _, rfl⟩
  have len6 : stepRules.length = 6 := rfl
  have chk := steps_chk
  have l0 := Dl.lt (hd.kp kp0)
  have l00 := Dl.lt hd
  rw [hrs] at h0 len6 chk
  rw [List.map_cons] at h0
  rw [ix_l h0 at0]
  rw [new_l (small_le (by simp))]
  have s0 : (g0 ++ [Ob.lst [rlD r0]])[sm]? = some (.lst (rlD r0 :: rs.map rlD)) := by rw [List.getElem?_append_left (lt_of_get h0)]; exact h0
  have lr := List.length_cons (a := r0) (as := rs)
  refine lc_inv ?_
  walk_at "ev"
  refine (sl_l s0).mpr ?_
  have ec : cutD (rlD r0 :: rs.map rlD) (some 1) none = rs.map rlD := cut_from _ 1
  rw [ec, src_l get_new]
  have e1 : (g0 ++ [Ob.lst [rlD r0]]).length = g0.length + 1 := by simp
  rw [e1]
  have h1 : (g0 ++ [Ob.lst [rlD r0]] ++ [Ob.lst (rs.map rlD)])[g0.length]? = some (.lst [rlD r0]) := by
    rw [List.getElem?_append_left (by simp)]
    exact get_new
  have h2 : (g0 ++ [Ob.lst [rlD r0]] ++ [Ob.lst (rs.map rlD)])[g0.length + 1]? = some (.lst (rs.map rlD)) := by rw [← e1]; exact get_new
  have kp1 : Kp [] g0 (g0 ++ [Ob.lst [rlD r0]] ++ [Ob.lst (rs.map rlD)]) := (Kp.app _).trans (Kp.app _)
  have le1 : (g0 ++ [Ob.lst [rlD r0]] ++ [Ob.lst (rs.map rlD)]).length = g0.length + 2 := by simp
  revert h1 h2 kp1 le1
  generalize (g0 ++ [Ob.lst [rlD r0]] ++ [Ob.lst (rs.map rlD)]) = g1
  intro h1 h2 kp1 le1
  have hd1 := (hd.kp kp0).kp kp1
  refine ⟨fun l ys g' => ∃ A L : List Rl, l = A.map rlD ∧ ys = L.map rlD ∧ (∀ x ∈ A, x ∈ rs) ∧ (∀ x ∈ L, x ∈ rs) ∧ A.length + L.length ≤ 5 ∧ Kp [n, c, g1.length] g1 g' ∧ Dl n c g' ∧ g'[g1.length]? = some (.lst ys), ?_, ?_, ?_, ?_⟩
  · exact ⟨rs, [], rfl, rfl, fun _ h => h, (fun _ h => nomatch h), by simp; omega, Kp.app _, kp_app_dl hd1, get_new⟩
  · rintro l ys g' ⟨A, L, _, _, _, _, _, kp, _, h⟩
    exact ⟨stable_one (kp.get h2 (by simp; omega)), h⟩
  · rintro d l ys g2 ⟨A, L, eA, rfl, hA, hL, hl, kp2, hd2, h⟩
    cases A with
    | nil => cases eA
    | cons x A =>
      cases eA
      walk_at "ev"
      refine any_r (k := k + 2) hd2 (by decide) (by decide) fun q g3 hq kp3 hd3 => ?_
      walk_at "ev"
      have h3 := kp3.get h (by simp; omega)
      have l3 := lt_of_get h3
      have kp23 : Kp [n, c, g1.length] g1 g3 := kp2.tr kp3 (by walk_at "ks")
      by_cases q0 : (q : Int) = 0
      · rw [if_pos (decide_eq_true q0)]
        refine ⟨h3, by rw [List.length_map]; exact small_lt (by omega), A, L ++ [x], rfl, by simp, fun y hy => hA y (List.mem_cons_of_mem _ hy), fun y hy => ?_, by simp at hl ⊢; omega, kp23.trans (Kp.set (by simp)), hd3.set (by omega) (by omega), get_set l3⟩
        rcases List.mem_append.mp hy with h | h
        · exact hL y h
        · rw [List.mem_singleton.mp h]; exact hA x List.mem_cons_self
      · rw [if_neg (by simp only [q0]; decide)]
        exact ⟨A, L, rfl, rfl, fun y hy => hA y (List.mem_cons_of_mem _ hy), hL, by simp at hl ⊢; omega, kp23, hd3, h3⟩
  · rintro ys g2 ⟨A, L, eA, rfl, hA, hL, hl, kp2, hd2, h⟩
    have h12 := kp2.get h1 (by simp; omega)
    rw [add_l h12 h (small_le (by simp; omega))]
    have e3 : [rlD r0] ++ L.map rlD = (r0 :: L).map rlD := rfl
    rw [e3, tup_l get_new]
    have h3 : (g2 ++ [Ob.lst ((r0 :: L).map rlD)])[g2.length]? = some (.lst ((r0 :: L).map rlD)) := get_new
    have kp3 : Kp [n, c] g (g2 ++ [Ob.lst ((r0 :: L).map rlD)]) := ((kp0.tr kp1 (by simp)).nil.tr kp2 (by have := kp0.len; walk_at "ks")).trans (Kp.app _)
    have hd3 := kp_app_dl (e := [Ob.lst ((r0 :: L).map rlD)]) hd2
    have k2 := kp2.len
    revert h3 kp3 hd3
    have lg2 : n ≠ g2.length ∧ c ≠ g2.length := by have := Dl.lt hd2; omega
    revert lg2
    generalize g2.length = gl
    generalize (g2 ++ [Ob.lst ((r0 :: L).map rlD)]) = g3
    intro lg2 h3 kp3 hd3
    refine lc_inv ?_
    walk_at "ev"
    rw [src_l h3]
    have l3 := Dl.lt hd3
    have lg3 := lt_of_get h3
    refine ⟨fun l ys g' => ∃ P : List (Int × Int), ys = P.map Ev.prD ∧ l.length + P.length = (r0 :: L).length ∧ Kp [n, c, g3.length] g3 g' ∧ Dl n c g' ∧ g'[g3.length]? = some (.lst ys), ?_, ?_, ?_, ?_⟩
    · exact ⟨[], rfl, by simp, Kp.app _, kp_app_dl hd3, get_new⟩
    · rintro l ys g' ⟨P, _, _, kp, _, h⟩
      exact ⟨stable_one (kp.get h3 (by simp; omega)), h⟩
    · rintro d l ys g4 ⟨P, rfl, hl2, kp4, hd4, h⟩
      walk_at "ev"
      refine price_r (k := k) hd4 fun p hp g5 kp5 hd5 => ?_
      have h5 := kp5.get h (by simp; omega)
      have l5 := lt_of_get h5
      simp only [List.length_cons] at hl2
      refine ⟨h5, by rw [List.length_map]; exact small_lt (by omega), P ++ [p], by simp, by simp at hl2 ⊢; omega, (kp4.tr kp5 (by walk_at "ks")).trans (Kp.set (by simp)), hd5.set (by omega) (by omega), get_set l5⟩
    · rintro ys g4 ⟨P, rfl, hl2, kp4, hd4, h⟩
      rw [tup_l h]
      refine ⟨⟨[("p", 1), ("sub", 2)], [("g", 1)], r0 :: L, P⟩, rfl, ⟨⟨by simp, gs_ok, by simp; omega, by simp at hl2 ⊢; omega, fun r hr => ?_⟩, nd_one⟩, kp3.tr kp4 (by have := kp3.len; walk_at "ks"), hd4⟩
      refine chk r ?_
      rcases List.mem_cons.mp hr with h | h
      · rw [h]; exact List.mem_cons_self
      · exact List.mem_cons_of_mem _ (hL r h)

/-! fractions -/
def lowF (t b : Int) : Int × Int := (((if b < 0 then -1 else 1) * t).fdiv (Int.gcd t b : Int), ((if b < 0 then -1 else 1) * b).fdiv (Int.gcd t b : Int))
theorem abs_nat (i : Int) : (if i < 0 then -i else i) = (i.natAbs : Int) := by split <;> omega
theorem fmod_nat (a b : Nat) : (a : Int).fmod (b : Int) = ((a % b : Nat) : Int) := by
  rw [Int.fmod_eq_emod_of_nonneg _ (by omega)]
  exact (Int.natCast_emod a b).symm
theorem lowest_ok {k : Nat} {t b : Int} {g : Hh} (hb : b ≠ 0) (h1 : t.natAbs < 2 ^ 60) (h2 : b.natAbs < 2 ^ 60) : run Ds (k + 1) "_law_lowest" [.int t, .int b] g = .ok (Ev.prD (lowF t b)) g := by
  refine tr_eq ?_
  rw [r__law_lowest, Tr_outR]
  unfold c__law_lowest
  walk_at "ev"
  rw [abs_nat, abs_nat]
  refine while_ok (fun m ρ g' => ∃ x y : Nat, m = y ∧ g' = g ∧ ρ = [some (.int t), some (.int b), some (.int x), some (.int y), none] ∧ Nat.gcd x y = Int.gcd t b) b.natAbs (by omega) ?_ ⟨t.natAbs, b.natAbs, rfl, rfl, rfl, rfl⟩
  rintro m ρ g' ⟨x, y, rfl, rfl, rfl, e⟩
  walk_at "ev"
  by_cases h0 : m = 0
  · subst h0
    rw [if_neg (by simp)]
    rw [Nat.gcd_zero_right] at e
    subst e
    have hg : Int.gcd t b ≠ 0 := fun z => hb (Int.gcd_eq_zero_iff.mp z).2
    have gle : Int.gcd t b ≤ b.natAbs := Nat.le_of_dvd (by omega) (Nat.gcd_dvd_right ..)
    have hs : (if decide (b < 0) = true then (0 : Int) - 1 else 1) = if b < 0 then -1 else 1 := by
      by_cases hb0 : b < 0 <;> simp [hb0]
    by_cases hb0 : b < 0
    · rw [if_pos (decide_eq_true hb0)]
      rw [mul_i (by decide) (by omega), div_i (by omega) (by omega), mul_i (by decide) (by omega), div_i (by omega) (by omega)]
      walk_at "ev"
      unfold lowF
      rw [if_pos hb0]
      exact ⟨rfl, trivial⟩
    · rw [if_neg (by simp only [hb0]; decide)]
      rw [mul_i (by decide) (by omega), div_i (by omega) (by omega), mul_i (by decide) (by omega), div_i (by omega) (by omega)]
      walk_at "ev"
      unfold lowF
      rw [if_neg hb0]
      exact ⟨rfl, trivial⟩
  · rw [if_pos (by simp; omega)]
    rw [mod_i (by omega)]
    walk_at "ev"
    rw [fmod_nat]
    refine ⟨x % m, Nat.mod_lt _ (by omega), m, x % m, rfl, ⟨⟩, rfl, ?_⟩
    rw [← e, Nat.gcd_comm x m, Nat.gcd_rec m x, Nat.gcd_comm]

theorem fdiv_le {x : Int} {d : Nat} (h : (d : Int) ∣ x) (hd : d ≠ 0) : (x.fdiv d).natAbs ≤ x.natAbs ∧ (x ≠ 0 → x.fdiv d ≠ 0) := by
  obtain ⟨q, rfl⟩ := h
  rw [Int.mul_fdiv_cancel_left q (by omega), Int.natAbs_mul, Int.natAbs_natCast]
  refine ⟨Nat.le_mul_of_pos_left _ (by omega), fun hx hq => hx (by rw [hq, Int.mul_zero])⟩
theorem lowF_le {t b : Int} (hb : b ≠ 0) : (lowF t b).1.natAbs ≤ t.natAbs ∧ (lowF t b).2.natAbs ≤ b.natAbs ∧ (lowF t b).2 ≠ 0 := by
  have hg : Int.gcd t b ≠ 0 := fun z => hb (Int.gcd_eq_zero_iff.mp z).2
  have d1 : (Int.gcd t b : Int) ∣ t := Int.gcd_dvd_left ..
  have d2 : (Int.gcd t b : Int) ∣ b := Int.gcd_dvd_right ..
  unfold lowF
  have e1 : (((if b < 0 then -1 else 1) * t : Int)).natAbs = t.natAbs := by split <;> simp
  have e2 : (((if b < 0 then -1 else 1) * b : Int)).natAbs = b.natAbs := by split <;> simp
  have f1 := fdiv_le (x := (if b < 0 then -1 else 1) * t) (Int.dvd_trans d1 (Int.dvd_mul_left _ _)) hg
  have f2 := fdiv_le (x := (if b < 0 then -1 else 1) * b) (Int.dvd_trans d2 (Int.dvd_mul_left _ _)) hg
  rw [e1] at f1
  rw [e2] at f2
  exact ⟨f1.1, f2.1, f2.2 (by omega)⟩
theorem plus_ok {k : Nat} {p q : Int × Int} {g : Hh} (hp : p.2 ≠ 0) (hq : q.2 ≠ 0) (h1 : p.1.natAbs < 2 ^ 28 ∧ p.2.natAbs < 2 ^ 28) (h2 : q.1.natAbs < 2 ^ 28 ∧ q.2.natAbs < 2 ^ 28) :
    run Ds (k + 2) "_law_plus" [Ev.prD p, Ev.prD q] g = .ok (Ev.prD (lowF (p.1 * q.2 + q.1 * p.2) (p.2 * q.2))) g := by
  refine tr_eq ?_
  rw [r__law_plus, Tr_outR]
  unfold c__law_plus Ev.prD
  walk_at "ev"
  rw [ix_t at0, ix_t at1, mul_i (by omega) (by omega), ix_t at0, ix_t at1, mul_i (by omega) (by omega)]
  walk_at "ev"
  rw [ix_t at1, ix_t at1, mul_i (by omega) (by omega)]
  have m1 : (p.1 * q.2).natAbs < 2 ^ 56 := by rw [Int.natAbs_mul]; exact Nat.lt_of_lt_of_eq (Nat.mul_lt_mul'' h1.1 h2.2) (by decide)
  have m2 : (q.1 * p.2).natAbs < 2 ^ 56 := by rw [Int.natAbs_mul]; exact Nat.lt_of_lt_of_eq (Nat.mul_lt_mul'' h2.1 h1.2) (by decide)
  have m3 : (p.2 * q.2).natAbs < 2 ^ 56 := by rw [Int.natAbs_mul]; exact Nat.lt_of_lt_of_eq (Nat.mul_lt_mul'' h1.2 h2.2) (by decide)
  rw [lowest_ok (k := k) (Int.mul_ne_zero hp hq) (by omega) (by omega)]
  exact ⟨rfl, rfl⟩
theorem times_ok {k : Nat} {p q : Int × Int} {g : Hh} (hp : p.2 ≠ 0) (hq : q.2 ≠ 0) (h1 : p.1.natAbs < 2 ^ 28 ∧ p.2.natAbs < 2 ^ 28) (h2 : q.1.natAbs < 2 ^ 28 ∧ q.2.natAbs < 2 ^ 28) :
    run Ds (k + 2) "_law_times" [Ev.prD p, Ev.prD q] g = .ok (Ev.prD (lowF (p.1 * q.1) (p.2 * q.2))) g := by
  refine tr_eq ?_
  rw [r__law_times, Tr_outR]
  unfold c__law_times Ev.prD
  walk_at "ev"
  rw [ix_t at0, ix_t at0, mul_i (by omega) (by omega), ix_t at1, ix_t at1, mul_i (by omega) (by omega)]
  have m1 : (p.1 * q.1).natAbs < 2 ^ 56 := by rw [Int.natAbs_mul]; exact Nat.lt_of_lt_of_eq (Nat.mul_lt_mul'' h1.1 h2.1) (by decide)
  have m3 : (p.2 * q.2).natAbs < 2 ^ 56 := by rw [Int.natAbs_mul]; exact Nat.lt_of_lt_of_eq (Nat.mul_lt_mul'' h1.2 h2.2) (by decide)
  rw [lowest_ok (k := k) (Int.mul_ne_zero hp hq) (by omega) (by omega)]
  exact ⟨rfl, rfl⟩
theorem above_ok {k : Nat} {p q : Int × Int} {g : Hh} (h1 : p.1.natAbs < 2 ^ 100 ∧ p.2.natAbs < 2 ^ 100) (h2 : q.1.natAbs < 2 ^ 100 ∧ q.2.natAbs < 2 ^ 100) :
    run Ds (k + 1) "_law_above" [Ev.prD p, Ev.prD q] g = .ok (.bl (decide (q.1 * p.2 < p.1 * q.2))) g := by
  refine tr_eq ?_
  rw [r__law_above, Tr_outR]
  unfold c__law_above Ev.prD
  walk_at "ev"
  rw [ix_t at0, ix_t at1, mul_i (by omega) (by omega), ix_t at0, ix_t at1, mul_i (by omega) (by omega)]
  walk_at "ev"
  exact ⟨trivial, trivial⟩
/-- a fraction of small numbers -/
def Frs (m : Nat) (p : Int × Int) : Prop := p.2 ≠ 0 ∧ p.1.natAbs < 2 ^ m ∧ p.2.natAbs < 2 ^ m
theorem Frs.plus {a b m : Nat} {p q : Int × Int} (hp : Frs a p) (hq : Frs b q) (h : a + b + 1 ≤ m) : Frs m (lowF (p.1 * q.2 + q.1 * p.2) (p.2 * q.2)) := by
  obtain ⟨l1, l2, l3⟩ := lowF_le (t := p.1 * q.2 + q.1 * p.2) (Int.mul_ne_zero hp.1 hq.1)
  have m1 : (p.1 * q.2).natAbs < 2 ^ (a + b) := by rw [Int.natAbs_mul, Nat.pow_add]; exact Nat.mul_lt_mul'' hp.2.1 hq.2.2
  have m2 : (q.1 * p.2).natAbs < 2 ^ (a + b) := by rw [Int.natAbs_mul, Nat.pow_add, Nat.mul_comm]; exact Nat.mul_lt_mul'' hp.2.2 hq.2.1
  have m3 : (p.2 * q.2).natAbs < 2 ^ (a + b) := by rw [Int.natAbs_mul, Nat.pow_add]; exact Nat.mul_lt_mul'' hp.2.2 hq.2.2
  have e : 2 ^ (a + b + 1) = 2 ^ (a + b) * 2 := Nat.pow_succ 2 (a + b)
  have e2 : 2 ^ (a + b + 1) ≤ 2 ^ m := Nat.pow_le_pow_right (by decide) h
  exact ⟨l3, by omega, by omega⟩
theorem Frs.times {a b m : Nat} {p q : Int × Int} (hp : Frs a p) (hq : Frs b q) (h : a + b ≤ m) : Frs m (lowF (p.1 * q.1) (p.2 * q.2)) := by
  obtain ⟨l1, l2, l3⟩ := lowF_le (t := p.1 * q.1) (Int.mul_ne_zero hp.1 hq.1)
  have m1 : (p.1 * q.1).natAbs < 2 ^ (a + b) := by rw [Int.natAbs_mul, Nat.pow_add]; exact Nat.mul_lt_mul'' hp.2.1 hq.2.1
  have m3 : (p.2 * q.2).natAbs < 2 ^ (a + b) := by rw [Int.natAbs_mul, Nat.pow_add]; exact Nat.mul_lt_mul'' hp.2.2 hq.2.2
  have e2 : 2 ^ (a + b) ≤ 2 ^ m := Nat.pow_le_pow_right (by decide) h
  exact ⟨l3, by omega, by omega⟩
theorem Frs.up {a m : Nat} {p : Int × Int} (hp : Frs a p) (h : a ≤ m) : Frs m p := by
  have e2 : 2 ^ a ≤ 2 ^ m := Nat.pow_le_pow_right (by decide) h
  exact ⟨hp.1, Nat.lt_of_lt_of_le hp.2.1 e2, Nat.lt_of_lt_of_le hp.2.2 e2⟩
theorem frs9 : ∀ p ∈ prices9, Frs 3 p := by
  unfold Frs
  decide +kernel

/-! known books -/
def fx : Tem := [("f", 1), ("x", -1)]
def l1 (r : Str) (t : Tem) : Ln := (r, [t])
def detRules : List Rl := [([l1 "p" xT], l1 "q" fx), ([l1 "q" fx], l1 "r" xT), ([l1 "p" xT], l1 "r" xT)]
def pqr1 : List Sg := [("p", 1), ("q", 1), ("r", 1)]
theorem detour_eq {k : Nat} {a b e : Int × Int} {g : Hh} : run Ds (k + 2) "_law_shelf_detour" [Ev.prD a, Ev.prD b, Ev.prD e] g = .ok (bkD ⟨pqr1, [("f", 1)], detRules, [a, b, e]⟩) g := by
  refine tr_eq ?_
  rw [r__law_shelf_detour, Tr_outR]
  unfold c__law_shelf_detour
  walk_at "ev"
  rw [var_eq (k := k)]
  walk_at "ev"
  rw [var_eq (k := k)]
  walk_at "ev"
  rw [made_eq (k := k) (by decide)]
  walk_at "ev"
  simp only [at_eq (k := k), Tr_ok]
  walk_at "ev"
  exact ⟨rfl, trivial⟩
theorem twice_eq {k : Nat} {a b e : Int × Int} {g : Hh} : run Ds (k + 3) "_law_shelf_twice" [Ev.prD a, Ev.prD b, Ev.prD e] g = .ok (bkD ⟨pqr1, [("f", 1)], detRules.take 2 ++ [([l1 "p" xT, l1 "p" xT], l1 "r" xT)], [a, b, e]⟩) g := by
  refine tr_eq ?_
  rw [r__law_shelf_twice, Tr_outR]
  unfold c__law_shelf_twice
  walk_at "ev"
  rw [detour_eq (k := k)]
  walk_at "ev"
  rw [var_eq (k := k + 1)]
  walk_at "ev"
  rw [at_eq (k := k + 1)]
  unfold bkD
  walk_at "ev"
  rw [ix_t at0, ix_t at1, ix_t at2]
  walk_at "ev"
  rw [var_eq (k := k + 1)]
  walk_at "ev"
  rw [at_eq (k := k + 1)]
  walk_at "ev"
  refine (add_t (small_le (by decide))).mpr ?_
  rw [ix_t at3]
  walk_at "ev"
  exact ⟨rfl, trivial⟩
def rsRules : List Rl := [([("sub", [xT, yT]), ("sub", [yT, zT])], ("sub", [xT, zT])), ([("sub", [xT, yT])], ("sub", [gx, gy]))]
theorem rising_eq {k : Nat} {a b : Int × Int} {g : Hh} : run Ds (k + 2) "_law_shelf_rising" [Ev.prD a, Ev.prD b] g = .ok (bkD ⟨[("sub", 2)], [("g", 1)], rsRules, [a, b]⟩) g := by
  refine tr_eq ?_
  rw [r__law_shelf_rising, Tr_outR]
  unfold c__law_shelf_rising
  walk_at "ev"
  simp only [var_eq (k := k), Tr_ok]
  walk_at "ev"
  rw [made_eq (k := k) (by decide)]
  walk_at "ev"
  rw [made_eq (k := k) (by decide)]
  walk_at "ev"
  exact ⟨rfl, trivial⟩
def hvRules (m n : Nat) : List Rl := [([l1 "u" xT, l1 "v" xT], l1 "q" fx), ([l1 "q" fx], l1 "r" xT), (List.replicate m (l1 "u" xT), l1 "r" xT), (List.replicate n (l1 "v" xT), l1 "r" xT)]
theorem rep_one (n : Nat) (d : D) : (List.replicate n [d]).flatten = List.replicate n d := by
  induction n with
  | zero => rfl
  | succ n ih => rw [List.replicate_succ, List.flatten_cons, ih, List.replicate_succ]; rfl
theorem halves_eq {k m n a : Nat} {P : List (Int × Int)} {g : Hh} (hm : 1 ≤ m ∧ m ≤ 8) (hn : 1 ≤ n ∧ n ≤ 8) (ha : g[a]? = some (.lst (P.map Ev.prD))) : run Ds (k + 2) "_law_shelf_halves" [.int m, .int n, .ref a] g = .ok (bkD ⟨[("q", 1), ("r", 1), ("u", 1), ("v", 1)], [("f", 1)], hvRules m n, P⟩) g := by
  refine tr_eq ?_
  rw [r__law_shelf_halves, Tr_outR]
  unfold c__law_shelf_halves
  walk_at "ev"
  rw [var_eq (k := k)]
  walk_at "ev"
  rw [var_eq (k := k)]
  walk_at "ev"
  rw [made_eq (k := k) (by decide)]
  walk_at "ev"
  simp only [at_eq (k := k), Tr_ok]
  walk_at "ev"
  rw [mul_t hm.1 (by omega) (by simp) (by decide)]
  walk_at "ev"
  rw [mul_t hn.1 (by omega) (by simp) (by decide)]
  walk_at "ev"
  rw [tup_l ha, rep_one, rep_one]
  walk_at "ev"
  refine ⟨?_, trivial⟩
  unfold bkD hvRules
  have e : ∀ (j : Nat) (l : Ln), (List.replicate j l).map lnD = List.replicate j (lnD l) := fun j l => by rw [List.map_replicate]
  simp only [List.map_cons, List.map_nil, rlD, e]
  rfl
theorem frsAt {m : Nat} {P : List (Int × Int)} (h : ∀ p ∈ P, Frs m p) {i : Nat} (hi : i < P.length) : Frs m P[i] := h _ (List.getElem_mem hi)
theorem Frs.b28 {m : Nat} {p : Int × Int} (h : Frs m p) (hm : m ≤ 28) : p.1.natAbs < 2 ^ 28 ∧ p.2.natAbs < 2 ^ 28 := (h.up hm).2
theorem Frs.b100 {m : Nat} {p : Int × Int} (h : Frs m p) (hm : m ≤ 100) : p.1.natAbs < 2 ^ 100 ∧ p.2.natAbs < 2 ^ 100 := (h.up hm).2
theorem tr_run {x : Res D} {d : D} {g : Hh} {Q : D → Hh → Prop} (h : x = .ok d g) (q : Q d g) : Tr x Q := by rw [h]; exact q
theorem ix_pr0 {p : Int × Int} {g : Hh} {Q : D → Hh → Prop} : Ev.TO (dIx (Ev.prD p) (.int 0) g) Q = Q (.int p.1) g := ix_t at0
theorem ix_pr1 {p : Int × Int} {g : Hh} {Q : D → Hh → Prop} : Ev.TO (dIx (Ev.prD p) (.int 1) g) Q = Q (.int p.2) g := ix_t at1
theorem cheap_ok {k m n a : Nat} {p0 p1 p2 p3 : Int × Int} {g : Hh} (hm : 1 ≤ m ∧ m ≤ 3) (hn : 1 ≤ n ∧ n ≤ 3) (ha : g[a]? = some (.lst [Ev.prD p0, Ev.prD p1, Ev.prD p2, Ev.prD p3])) (h0 : Frs 3 p0) (h1 : Frs 3 p1) (h2 : Frs 3 p2) (h3 : Frs 3 p3) :
    Tr (run Ds (k + 3) "_law_halves_cheap" [.int m, .int n, .ref a] g) fun d g' => (∃ b, d = .bl b) ∧ Kp [] g g' := by
  rw [r__law_halves_cheap, Tr_outR]
  unfold c__law_halves_cheap
  walk_at "ev"
  rw [lowest_ok (k := k + 1) (by omega) (by omega) (by omega)]
  walk_at "ev"
  rw [lowest_ok (k := k + 1) (by omega) (by omega) (by omega)]
  have f1 : Frs 3 (lowF ((n : Int) - 1) n) := by
    obtain ⟨a, b, c⟩ := lowF_le (t := (n : Int) - 1) (b := n) (by omega)
    exact ⟨c, by omega, by omega⟩
  have f2 : Frs 3 (lowF 1 m) := by
    obtain ⟨a, b, c⟩ := lowF_le (t := 1) (b := m) (by omega)
    exact ⟨c, by omega, by omega⟩
  revert f1 f2
  generalize lowF ((n : Int) - 1) n = lo
  generalize lowF 1 m = hi
  intro f1 f2
  walk_at "ev"
  rw [ix_l ha at0, ix_l ha at1]
  rw [plus_ok (k := k) h0.1 h1.1 (h0.b28 (by decide)) (h1.b28 (by decide))]
  have f3 : Frs 7 (lowF (p0.1 * p1.2 + p1.1 * p0.2) (p0.2 * p1.2)) := h0.plus h1 (by decide)
  revert f3
  generalize lowF (p0.1 * p1.2 + p1.1 * p0.2) (p0.2 * p1.2) = most
  intro f3
  walk_at "ev"
  rw [above_ok (k := k + 1) (f1.b100 (by decide)) (f2.b100 (by decide))]
  walk_at "ev"
  split
  · exact ⟨⟨_, rfl⟩, .refl⟩
  refine (new_l (small_le (Nat.le_of_ble_eq_true rfl))).mpr ?_
  rw [src_l get_new]
  walk_at "ev"
  refine for_ok (fun l ρ g' => ∃ A : List (Int × Int), ∃ x6 x7, l = A.map Ev.prD ∧ (∀ p ∈ A, Frs 3 p) ∧ ρ = [some (.int m), some (.int n), some (.ref a), some (Ev.prD lo), some (Ev.prD hi), some (Ev.prD most), x6, x7] ∧ g' = g ++ [.lst [Ev.prD lo, Ev.prD hi]]) (fun _ _ _ ⟨_, _, _, _, _, _, e⟩ => by rw [e]; exact stable_one get_new) ?_ ?_ _ _ _ ⟨[lo, hi], none, none, rfl, ?_, rfl, rfl⟩
  · rintro d l ρ g' ⟨A, x6, x7, e, hA, rfl, rfl⟩
    have ha' : (g ++ [Ob.lst [Ev.prD lo, Ev.prD hi]])[a]? = some (.lst [Ev.prD p0, Ev.prD p1, Ev.prD p2, Ev.prD p3]) := by rw [List.getElem?_append_left (lt_of_get ha)]; exact ha
    cases A with
    | nil => cases e
    | cons s A =>
      cases e
      have fs := hA s List.mem_cons_self
      walk_at "ev"
      rw [ix_pr0, sub_i, ix_pr1]
      walk_at "ev"
      have fn : Frs 3 (0 - s.1, s.2) := ⟨fs.1, by have := fs.2.1; simp only; omega, fs.2.2⟩
      have f11 : Frs 1 (1, 1) := ⟨by decide, by decide, by decide⟩
      refine tr_run (plus_ok (k := k) (p := (1, 1)) (q := (0 - s.1, s.2)) f11.1 fn.1 (f11.b28 (by decide)) (fn.b28 (by decide))) ?_
      have f4 := f11.plus fn (m := 5) (by decide)
      revert f4
      generalize lowF _ _ = rest
      intro f4
      rw [ix_l ha' at2]
      refine tr_run (times_ok (k := k) fs.1 h2.1 (fs.b28 (by decide)) (h2.b28 (by decide))) ?_
      have f5 := fs.times h2 (m := 6) (by decide)
      revert f5
      generalize lowF _ _ = s2
      intro f5
      rw [ix_l ha' at3]
      refine tr_run (times_ok (k := k) f4.1 h3.1 (f4.b28 (by decide)) (h3.b28 (by decide))) ?_
      have f6 := f4.times h3 (m := 8) (by decide)
      revert f6
      generalize lowF _ _ = s3
      intro f6
      refine tr_run (plus_ok (k := k) f5.1 f6.1 (f5.b28 (by decide)) (f6.b28 (by decide))) ?_
      have f7 := f5.plus f6 (m := 15) (by decide)
      revert f7
      generalize lowF _ _ = s4
      intro f7
      walk_at "ev"
      refine tr_run (above_ok (k := k + 1) (f7.b100 (by decide)) (f3.b100 (by decide))) ?_
      walk_at "ev"
      split
      · exact ⟨⟨_, rfl⟩, Kp.app _⟩
      · exact ⟨A, _, _, rfl, fun p hp => hA p (List.mem_cons_of_mem _ hp), rfl, ⟨⟩⟩
  · rintro ρ g' ⟨A, x6, x7, e, hA, rfl, rfl⟩
    walk_at "ev"
    exact ⟨⟨_, rfl⟩, Kp.app _⟩
  · intro p hp
    rcases List.mem_cons.mp hp with rfl | hp
    · exact f1
    · rw [List.mem_singleton.mp hp]; exact f2

theorem ga {g e : Hh} {i : Nat} : (g ++ e)[g.length + i]? = e[i]? := by
  rw [List.getElem?_append_right (by omega)]
  congr 1
  omega
theorem ga0 {g e : Hh} : (g ++ e)[g.length]? = e[0]? := by
  rw [List.getElem?_append_right (by omega)]
  congr 1
  omega
local macro_rules | `(tactic| walk_at "al") => `(tactic| (refine (add_l (by first | exact ga | exact ga0) (by first | exact ga | exact ga0) (small_le (Nat.le_of_ble_eq_true rfl))).mpr ?_; walk_at "hp"))
local macro_rules | `(tactic| walk_at "nl") => `(tactic| (refine (new_l (small_le (Nat.le_of_ble_eq_true rfl))).mpr ?_; walk_at "hp"))
def fkRules : List Rl := [([l1 "p" xT], l1 "q" fx), ([l1 "q" fx], l1 "r" xT), ([l1 "p" xT], l1 "r" xT)]
theorem fk_sorted {g : Hh} {n : Nat} {Q : D → Hh → Prop} (h : g[n]? = some (.lst [.tup [.str "p", .int 1], .tup [.str "r", .int 1], .tup [.str "q", .int 1]])) (q : Q (.ref g.length) (g ++ [.lst (pqr1.map sgD)])) : Ev.TO (dSorted (.ref n) g) Q := by
  have e1 : srtOk [.tup [.str "p", .int 1], .tup [.str "r", .int 1], .tup [.str "q", .int 1]] = true := by decide +kernel
  have e2 : srtD [.tup [.str "p", .int 1], .tup [.str "r", .int 1], .tup [.str "q", .int 1]] = pqr1.map sgD := (srt_eq (ds := pqr1.map sgD) (by decide +kernel) (by decide +kernel) (by decide +kernel) (by decide +kernel)).symm
  rw [srt_l h e1, e2]
  exact q
theorem forks_eq {k w : Nat} {a b e : Int × Int} {g : Hh} (hw : g[w]? = some (.lst [.tup [Ev.prD a, Ev.prD b]])) :
    Tr (run Ds (k + 2) "_law_shelf_forks" [.ref w, Ev.prD e] g) fun d g' => d = bkD ⟨pqr1, [("f", 1)], fkRules, [a, b, e]⟩ ∧ Kp [] g g' := by
  rw [r__law_shelf_forks, Tr_outR]
  unfold c__law_shelf_forks
  walk_at "ev"
  rw [var_eq (k := k)]
  walk_at "ev"
  rw [new_l (small_le (by decide))]
  rw [new_t (small_le (Nat.le_of_ble_eq_true rfl))]
  walk_at "ev"
  walk_at "hp"
  rw [zp_ok]
  walk_at "ev"
  rw [new_l (small_le (by decide))]
  walk_at "hp"
  have hw' : ∀ e : Hh, (g ++ e)[w]? = some (.lst [.tup [Ev.prD a, Ev.prD b]]) := fun e => by rw [List.getElem?_append_left (lt_of_get hw)]; exact hw
  rw [src_l ga, src_l (hw' _)]
  dsimp only
  simp only [List.zipWith_cons_cons, List.zipWith_nil_right]
  rw [for_cons (by simp [stable, ga, hw'])]
  walk_at "ev"
  rw [made_eq (k := k) (by decide)]
  walk_at "ev"
  rw [at_eq (k := k)]
  walk_at "ev"
  walk_at "nl"
  walk_at "al"
  walk_at "nl"
  walk_at "al"
  walk_at "ev"
  simp only [at_eq (k := k), Tr_ok]
  walk_at "ev"
  walk_at "nl"
  walk_at "al"
  walk_at "nl"
  walk_at "al"
  walk_at "ev"
  rw [for_nil (by simp [stable, ga, hw'])]
  walk_at "ev"
  simp only [at_eq (k := k), Tr_ok]
  walk_at "ev"
  walk_at "nl"
  walk_at "al"
  refine fk_sorted ga ?_
  walk_at "hp"
  rw [tup_l ga, tup_l ga, tup_l ga]
  walk_at "ev"
  walk_at "nl"
  walk_at "al"
  rw [tup_l ga]
  walk_at "ev"
  exact ⟨rfl, Kp.app _⟩

theorem f1_ok : ∀ s ∈ ([("f", 1)] : List Sg), PyData.strOk s.1 = true := by decide +kernel
theorem det_chk : ∀ r ∈ detRules, rlChk ["f"] r = true := by decide +kernel
theorem twi_chk : ∀ r ∈ detRules.take 2 ++ [([l1 "p" xT, l1 "p" xT], l1 "r" xT)], rlChk ["f"] r = true := by decide +kernel
theorem ris_chk : ∀ r ∈ rsRules, rlChk ["g"] r = true := by decide +kernel
theorem hv_chk : ∀ m n : _root_.Fin 3, ∀ r ∈ hvRules (1 + m.val) (1 + n.val), rlChk ["f"] r = true := by decide +kernel
/-- what a known book is told as -/
def KnPost (n c : Nat) (g : Hh) (d : D) (g' : Hh) : Prop := (∃ B x y, d = .tup [bkD B, x, y] ∧ BkNd B) ∧ Kp [n, c] g g' ∧ Dl n c g'
theorem known_ok {k n c : Nat} {g : Hh} (hd : Dl n c g) : Tr (run Ds (k + 5) "_law_known" [.ref n] g) (KnPost n c g) := by
  rw [r__law_known, Tr_outR]
  unfold c__law_known
  refine seq_ fun P1 n1 _ _ _ => ?_
  walk_at "ev"
  refine any_r (k := k + 3) hd (by decide) (by decide) fun r g1 hr kp1 hd1 => ?_
  walk_at "ev"
  rw [var_eq (k := k + 3)]
  walk_at "ev"
  rw [n1]
  refine seq_ fun P2 n2 _ _ _ => ?_
  walk_at "ev"
  simp only [at_eq (k := k + 3), Tr_ok]
  walk_at "ev"
  rw [n2]
  refine seq_ fun P3 n3 _ _ _ => ?_
  walk_at "ev"
  refine price_r (k := k + 1) hd1 fun p1 hp1 g2 kp2 hd2 => ?_
  refine price_r (k := k + 1) hd2 fun p2 hp2 g3 kp3 hd3 => ?_
  refine price_r (k := k + 1) hd3 fun p3 hp3 g4 kp4 hd4 => ?_
  have kp : Kp [n, c] g g4 := ((kp1.trans kp2).trans kp3).trans kp4
  have F1 := frs9 p1 hp1
  have F2 := frs9 p2 hp2
  have F3 := frs9 p3 hp3
  walk_at "ev"
  rw [n3]
  refine seq_ fun P4 n4 _ _ _ => ?_
  walk_at "ev"
  rw [plus_ok (k := k + 2) F1.1 F2.1 (F1.b28 (by decide)) (F2.b28 (by decide))]
  have Fb := F1.plus F2 (m := 7) (by decide)
  revert Fb
  generalize lowF _ _ = bt
  intro Fb
  walk_at "ev"
  rw [n4]
  refine seq_ fun P5 n5 r5 _ _ => ?_
  walk_at "ev"
  split
  · rw [above_ok (k := k + 3) (F3.b100 (by decide)) (Fb.b100 (by decide))]
    walk_at "ev"
    rw [detour_eq (k := k + 2)]
    walk_at "ev"
    have ok : BkNd ⟨pqr1, [("f", 1)], detRules, [p1, p2, p3]⟩ := ⟨⟨by simp, f1_ok, by show detRules.length ≤ 8; decide, rfl, det_chk⟩, nd_one⟩
    simp only [r5]
    split
    · exact ⟨⟨_, _, _, rfl, ok⟩, kp, hd4⟩
    · exact ⟨⟨_, _, _, rfl, ok⟩, kp, hd4⟩
  rw [n5]
  refine seq_ fun P6 n6 r6 _ _ => ?_
  walk_at "ev"
  split
  · rw [twice_eq (k := k + 1)]
    walk_at "ev"
    rw [r6]
    exact ⟨⟨_, _, _, rfl, ⟨⟨by simp, f1_ok, Nat.le_of_ble_eq_true rfl, rfl, twi_chk⟩, nd_one⟩⟩, kp, hd4⟩
  rw [n6]
  refine seq_ fun P7 n7 r7 _ _ => ?_
  walk_at "ev"
  split
  · rw [rising_eq (k := k + 2)]
    walk_at "ev"
    rw [r7]
    exact ⟨⟨_, _, _, rfl, ⟨⟨by simp, gs_ok, Nat.le_of_ble_eq_true rfl, rfl, ris_chk⟩, nd_one⟩⟩, kp, hd4⟩
  rw [n7]
  refine seq_ fun P8 n8 r8 _ _ => ?_
  walk_at "ev"
  split
  · rw [above_ok (k := k + 3) (F3.b100 (by decide)) (Fb.b100 (by decide))]
    walk_at "ev"
    rw [new_l (small_le (by simp))]
    refine (forks_eq (k := k + 2) (a := p1) (b := p2) (e := p3) get_new).mono fun d g5 ⟨e, kp5⟩ => ?_
    subst e
    have kp6 : Kp [] g4 g5 := (Kp.app _).trans kp5
    have ok : BkNd ⟨pqr1, [("f", 1)], fkRules, [p1, p2, p3]⟩ := ⟨⟨by simp, f1_ok, by show fkRules.length ≤ 8; decide, rfl, det_chk⟩, nd_one⟩
    walk_at "ev"
    simp only [r8]
    split
    · exact ⟨⟨_, _, _, rfl, ok⟩, kp.trans kp6.nil, hd4.kp kp6⟩
    · exact ⟨⟨_, _, _, rfl, ok⟩, kp.trans kp6.nil, hd4.kp kp6⟩
  rw [n8]
  walk_at "ev"
  refine any_r (k := k + 3) hd4 (by decide) (by decide) fun m g5 hm kp5 hd5 => ?_
  walk_at "ev"
  refine any_r (k := k + 3) hd5 (by decide) (by decide) fun j g6 hj kp6 hd6 => ?_
  walk_at "ev"
  refine price_r (k := k + 1) hd6 fun p4 hp4 g7 kp7 hd7 => ?_
  have F4 := frs9 p4 hp4
  walk_at "ev"
  rw [new_l (small_le (by simp))]
  have em : (1 : Int) + (m : Int) = ((1 + m : Nat) : Int) := by omega
  have ej : (1 : Int) + (j : Int) = ((1 + j : Nat) : Int) := by omega
  rw [em, ej]
  have h8 : (g7 ++ [Ob.lst [Ev.prD p1, Ev.prD p2, Ev.prD p3, Ev.prD p4]])[g7.length]? = some (.lst [Ev.prD p1, Ev.prD p2, Ev.prD p3, Ev.prD p4]) := get_new
  have hd8 := kp_app_dl (e := [Ob.lst [Ev.prD p1, Ev.prD p2, Ev.prD p3, Ev.prD p4]]) hd7
  have kp8 : Kp [n, c] g (g7 ++ [Ob.lst [Ev.prD p1, Ev.prD p2, Ev.prD p3, Ev.prD p4]]) := (((kp.trans kp5).trans kp6).trans kp7).trans (Kp.app _)
  revert h8 hd8 kp8
  generalize (g7 ++ [Ob.lst [Ev.prD p1, Ev.prD p2, Ev.prD p3, Ev.prD p4]]) = g8
  intro h8 hd8 kp8
  refine (cheap_ok (k := k + 1) ⟨by omega, by omega⟩ ⟨by omega, by omega⟩ h8 F1 F2 F3 F4).mono fun d g9 ⟨⟨b, e⟩, kp9⟩ => ?_
  subst e
  have h9 := kp9.get h8 (by simp)
  walk_at "ev"
  rw [halves_eq (k := k + 2) (P := [p1, p2, p3, p4]) ⟨by omega, by omega⟩ ⟨by omega, by omega⟩ h9]
  have ok : BkNd ⟨[("q", 1), ("r", 1), ("u", 1), ("v", 1)], [("f", 1)], hvRules (1 + m) (1 + j), [p1, p2, p3, p4]⟩ := ⟨⟨by simp, f1_ok, Nat.le_of_ble_eq_true rfl, rfl, hv_chk ⟨m, by omega⟩ ⟨j, by omega⟩⟩, nd_one⟩
  walk_at "ev"
  cases b with
  | true =>
    walk_at "ev"
    exact ⟨⟨_, _, _, rfl, ok⟩, kp8.trans kp9.nil, hd8.kp kp9⟩
  | false =>
    walk_at "ev"
    simp only [at_eq (k := k + 3), Tr_ok]
    walk_at "ev"
    exact ⟨⟨_, _, _, rfl, ok⟩, kp8.trans kp9.nil, hd8.kp kp9⟩

/-! a book with its makers called otherwise -/
def callS (ν : Str → Str) (s : Sg) : Sg := if 0 < s.2 then (ν s.1, s.2) else s
def callT (ν : Str → Str) (t : Tem) : Tem := t.map (callS ν)
def callL (ν : Str → Str) (l : Ln) : Ln := (l.1, l.2.map (callT ν))
def callR (ν : Str → Str) (r : Rl) : Rl := (r.1.map (callL ν), callL ν r.2)
theorem ix_sg0 {p : Sg} {g : Hh} {Q : D → Hh → Prop} : Ev.TO (dIx (sgD p) (.int 0) g) Q = Q (.str p.1) g := ix_t at0
theorem ix_sg1 {p : Sg} {g : Hh} {Q : D → Hh → Prop} : Ev.TO (dIx (sgD p) (.int 1) g) Q = Q (.int p.2) g := ix_t at1
abbrev callCode : Exp := eLc [11] (iPl (eVar 10)) (gNm 11) tYesE (eCall (b1 dTuple) (aCons (eLc [12] (iPl (eVar 11)) (gNm 12) tYesE (eIf (tVal (eOp dGt (eOp dIx (eVar 12) (eC (.int 1))) (eC (.int 0)))) (eTup (aCons (eOp dIx (eVar 5) (eOp dIx (eVar 12) (eC (.int 0)))) (aCons (eOp dIx (eVar 12) (eC (.int 1))) aNil))) (eVar 12))) aNil))
theorem callL_ok {c : Cal} {n : Nat} {g : Hh} {l : Ln} {ν : Str → Str} {kvs : List (D × D)} {x0 x1 x2 x3 x4 x6 x7 x8 x9 : Option D} {Q : D → Hh → Prop} (hn : g[n]? = some (.dct kvs)) (hk : ∀ t ∈ l.2, ∀ s ∈ t, 0 < s.2 → getK kvs (.str s.1) = some (.str (ν s.1)))
    (hl : LnOk l) (q : ∀ g', Kp [] g g' → Q (.tup ((l.2.map (callT ν)).map tmD)) g') :
    Tr (callCode c [x0, x1, x2, x3, x4, some (.ref n), x6, x7, x8, x9, some (.tup (l.2.map tmD)), none, none] g) fun x g => Ev.TO (dTuple x g) Q := by
  unfold callCode
  refine lc_map l.2 tmD (fun t => tmD (callT ν t)) ?_
  walk_at "ev"
  have hln := hl.n
  refine ⟨trivial, by omega, rfl, fun t ht g1 kp1 => ?_, fun g1 kp1 hg1 => ?_⟩
  · have hlt := (hl.t t ht).1
    walk_at "ev"
    refine ⟨.refl, ?_⟩
    refine lc_map t sgD (fun s => sgD (callS ν s)) ?_
    walk_at "ev"
    rw [show srcOf g1 (tmD t) = some ⟨[], t.map sgD⟩ from rfl]
    refine ⟨rfl, by omega, rfl, fun s hs g2 kp2 => ?_, fun g2 kp2 hg2 => ?_⟩
    · walk_at "ev"
      refine ⟨.refl, ?_⟩
      rw [ix_sg1]
      walk_at "ev"
      have hn2 := kp1.get hn (by have := lt_of_get hn; simp; omega)
      have hn3 := kp2.get hn2 (by have := lt_of_get hn2; simp; omega)
      unfold callS
      by_cases h : 0 < s.2
      · rw [if_pos (decide_eq_true h), if_pos h, ix_sg0, ix_d hn3 (hk t ht s hs h), ix_sg1]
        walk_at "ev"
        exact ⟨.refl, rfl⟩
      · rw [if_neg (by simp only [h]; decide), if_neg h]
        exact ⟨.refl, rfl⟩
    · rw [tup_l hg2]
      refine ⟨kp2, ?_⟩
      show _ = D.tup ((t.map (callS ν)).map sgD)
      rw [List.map_map]
      rfl
  · rw [tup_l hg1]
    have e : l.2.map (fun t => tmD (callT ν t)) = (l.2.map (callT ν)).map tmD := by rw [List.map_map]; rfl
    rw [e]
    exact q g1 kp1
theorem call_chkL {ν : Str → Str} {mk mk' : List Str} (h : ∀ x ∈ mk, ν x ∈ mk' ∧ PyData.strOk (ν x) = true) {l : Ln} (hl : lnChk mk l = true) : lnChk mk' (callL ν l) = true := by
  obtain ⟨a, b, c⟩ := lnChk_ok hl
  unfold lnChk callL
  simp only [Bool.and_eq_true, decide_eq_true_eq, List.all_eq_true, List.length_map]
  refine ⟨a, b, fun t ht => ?_⟩
  obtain ⟨t0, ht0, rfl⟩ := List.mem_map.mp ht
  obtain ⟨d, e⟩ := tmChk_ok (c t0 ht0)
  unfold tmChk callT
  simp only [Bool.and_eq_true, decide_eq_true_eq, List.all_eq_true, List.length_map]
  refine ⟨d, fun s hs => ?_⟩
  obtain ⟨s0, hs0, rfl⟩ := List.mem_map.mp hs
  obtain ⟨q1, q2⟩ := sgChk_ok (e s0 hs0)
  unfold callS
  rcases q2 with q | q
  · rw [if_neg (by omega)]
    simp [sgChk, q1, q.1, q.2]
  · rw [if_pos (by omega)]
    simp [sgChk, (h s0.1 q.2).1, (h s0.1 q.2).2, q.1]
theorem call_chk {ν : Str → Str} {mk mk' : List Str} (h : ∀ x ∈ mk, ν x ∈ mk' ∧ PyData.strOk (ν x) = true) {r : Rl} (hr : rlChk mk r = true) : rlChk mk' (callR ν r) = true := by
  obtain ⟨a, b⟩ := rlChk_ok hr
  unfold rlChk callR
  simp only [Bool.and_eq_true, decide_eq_true_eq, List.all_eq_true, List.length_map]
  refine ⟨a, fun l hl => ?_⟩
  rcases List.mem_append.mp hl with q | q
  · obtain ⟨l0, hl0, rfl⟩ := List.mem_map.mp q
    exact call_chkL h (b l0 (by simp [hl0]))
  · rw [List.mem_singleton.mp q]
    exact call_chkL h (b r.2 (by simp))
theorem srtOk_sg {ls : List Sg} (hl : ls.length < 64) (h : ∀ l ∈ ls, PyData.strOk l.1 = true) : srtOk (ls.map sgD) = true := by
  have c : (ls.map sgD).all isCons = true := by
    rw [List.all_eq_true]
    intro x hx
    obtain ⟨l, _, rfl⟩ := List.mem_map.mp hx
    rfl
  have al : ∀ s t : Sg, PySem.W.alike (srtK (sgD s)) (srtK (sgD t)) = true := fun s t => by
    unfold srtK
    rw [py_sg, py_sg]
    simp [sgP, PySem.W.alike, PySem.W.alikeAll]
  unfold srtOk
  rw [c]
  simp only [Bool.true_or, Bool.and_true, Bool.and_eq_true, decide_eq_true_eq, List.all_eq_true, List.length_map]
  refine ⟨⟨⟨hl, fun x hx => ?_⟩, fun x hx => ?_⟩, fun x hx y hy => ?_⟩
  · obtain ⟨l, hl, rfl⟩ := List.mem_map.mp hx
    exact (gd_deep (n := 1) (by decide) (gd_sg (h l hl))).1
  · obtain ⟨l, hl, rfl⟩ := List.mem_map.mp hx
    exact (gd_deep (n := 1) (by decide) (gd_sg (h l hl))).2
  · obtain ⟨l, _, rfl⟩ := List.mem_map.mp hx
    obtain ⟨m, _, rfl⟩ := List.mem_map.mp hy
    exact al l m
theorem sIx_m1 (n d : Nat) : HT.sIx n d (some (-1)) = n - 1 := by
  show (if (-1 : Int) < 0 then ((-1 : Int) + (n : Int)).toNat else min (-1 : Int).toNat n) = _
  rw [if_pos (by decide)]
  omega
theorem at_last (l : List D) (d : D) : atI (l ++ [d]) (-1) = some d := by
  unfold atI ixN
  have e : ((-1 : Int) + ((l ++ [d]).length : Int)).toNat = l.length := by simp; omega
  rw [if_neg (by omega), if_pos (by simp; omega)]
  show (l ++ [d])[_]? = _
  rw [e]
  simp
theorem src_tm {g : Hh} {t : Tem} : srcOf g (tmD t) = some ⟨[], t.map sgD⟩ := rfl
structure CalI (ν : Str → Str) (n rs : Nat) (R : List Rl) (g0 g : Hh) : Prop where
  kp : Kp [rs] g0 g
  h : g[rs]? = some (.lst ((R.map (callR ν)).map rlD))
theorem called_ok {k a : Nat} {B : Bk} {N : List Str} {g : Hh} (hB : BkNd B) (h2 : B.mks.length ≤ N.length) (hN : N.length ≤ 2) (ha : g[a]? = some (.lst (N.map D.str))) (sN : ∀ x ∈ N, PyData.strOk x = true) :
    Tr (run Ds (k + 1) "_law_called" [bkD B, .ref a] g) fun d g' => (∃ B', d = bkD B' ∧ BkOk B') ∧ Kp [] g g' := by
  rw [r__law_called, Tr_outR]
  unfold c__law_called
  refine seq_ fun P1 n1 _ _ _ => ?_
  walk_at "ev"
  refine lc_map (B.mks.zip N) (fun p => .tup [sgD p.1, .str p.2]) (fun p => .tup [.str p.1.1, .str p.2]) ?_
  rw [zp_ok]
  unfold bkD
  walk_at "ev"
  rw [ix_t at1]
  walk_at "ev"
  rw [src_l ha]
  have lz : (B.mks.zip N).length ≤ 3 := by rw [List.length_zip]; have := hB.mn; omega
  refine ⟨?_, by omega, stable_one ha, fun p hp g1 kp1 => ?_, fun g1 kp1 hg1 => ?_⟩
  · show List.zipWith (fun a b => D.tup [a, b]) (B.mks.map sgD) (N.map D.str) = _
    rw [List.zipWith_map, List.zip, List.map_zipWith]
  · walk_at "ev"
    unfold sgD
    walk_at "ev"
    exact ⟨.refl, .refl, trivial⟩
  rw [dict_l hg1 (pairs_map (f := fun p : Sg × Str => p.1.1) (v := fun p => D.str p.2) _)]
  have ez : (B.mks.zip N).map (fun p => (D.str p.1.1, D.str p.2)) = ((B.mks.map (·.1)).zip N).map fun p => (D.str p.1, D.str p.2) := by
    rw [List.zip_map_left, List.map_map]
    rfl
  obtain ⟨em, hk⟩ := dict_nu (P := N) hB.nd (by rw [List.length_map]; exact h2) D.str
  rw [ez, em]
  generalize hkvs : ((B.mks.map (·.1)).zip N).map (fun p => (D.str p.1, D.str p.2)) = kvs at hk ⊢
  have hν : ∃ ν : Str → Str, (∀ x ∈ B.mks.map (·.1), getK kvs (.str x) = some (.str (ν x)) ∧ PyData.strOk (ν x) = true) := by
    refine ⟨nu (B.mks.map (·.1)) N, fun x hx => ⟨hk x hx, ?_⟩⟩
    obtain ⟨p, e⟩ := look_some (P := N) hx (by rw [List.length_map]; exact h2)
    unfold nu
    rw [e]
    exact sN p (look_mem e)
  obtain ⟨ν, hν⟩ := hν
  clear em hk ez
  have hgd : (g1 ++ [Ob.dct kvs])[g1.length]? = some (.dct kvs) := get_new
  have kpG : Kp [] g (g1 ++ [Ob.dct kvs]) := kp1.trans (Kp.app _)
  have ln : g1.length < (g1 ++ [Ob.dct kvs]).length := by simp
  revert hgd kpG ln
  generalize g1 ++ [Ob.dct kvs] = G
  generalize g1.length = n
  intro hgd kpG ln
  walk_at "ev"
  rw [n1]
  refine seq_ fun P2 n2 _ _ _ => ?_
  walk_at "ev"
  rw [n2]
  have hR : (G ++ [Ob.lst []])[G.length]? = some (.lst []) := get_new
  have hgd2 : (G ++ [Ob.lst []])[n]? = some (.dct kvs) := by rw [List.getElem?_append_left ln]; exact hgd
  have kp2 : Kp [] G (G ++ [Ob.lst []]) := Kp.app _
  have nr : n ≠ G.length := by omega
  revert hR hgd2 kp2 nr
  generalize (G ++ [Ob.lst []]) = G2
  generalize hrs : G.length = rs
  intro hR hgd2 kp2 nr
  refine seq_ fun P3 n3 _ _ _ => ?_
  walk_at "ev"
  rw [ix_t at2]
  walk_at "ev"
  have signs : ∀ l, lnChk (B.mks.map (·.1)) l = true → ∀ t ∈ l.2, ∀ s ∈ t, 0 < s.2 → getK kvs (.str s.1) = some (.str (ν s.1)) := fun l hl t ht s hs h0 => by
    rcases (sgChk_ok ((tmChk_ok ((lnChk_ok hl).2.2 t ht)).2 s hs)).2 with q | q
    · omega
    · exact (hν s.1 q.2).1
  refine for_ok (fun l ρ g' => ∃ L R x2 x7 x8 x9 x10, B.rl = R ++ L ∧ l = L.map rlD ∧ ρ = [some (bkD B), some (.ref a), x2, none, none, some (.ref n), some (.ref rs), x7, x8, x9, x10, none, none] ∧ CalI ν n rs R G2 g') (fun _ _ _ _ => rfl) ?_ ?_ _ _ _
    ⟨B.rl, [], none, none, none, none, none, rfl, rfl, rfl, ⟨.refl, hR⟩⟩
  · rintro d l ρ g3 ⟨L, R, x2, x7, x8, x9, x10, eR, el, rfl, I⟩
    cases L with
    | nil => cases el
    | cons r L =>
      cases el
      have hr : r ∈ B.rl := by rw [eR]; simp
      have chk := hB.rl r hr
      have rok := rl_of_chk chk
      have hn := rok.n
      unfold rlD
      walk_at "tg"
      refine seq_ fun P4 n4 _ _ _ => ?_
      walk_at "ev"
      rw [n4]
      have l3 := lt_of_get I.h
      have hgd3 := I.kp.get hgd2 (by simp [nr])
      have hR4 : (g3 ++ [Ob.lst []])[rs]? = some (.lst ((R.map (callR ν)).map rlD)) := by rw [List.getElem?_append_left l3]; exact I.h
      have hL4 : (g3 ++ [Ob.lst []])[g3.length]? = some (.lst []) := get_new
      have hgd4 : (g3 ++ [Ob.lst []])[n]? = some (.dct kvs) := by rw [List.getElem?_append_left (lt_of_get hgd3)]; exact hgd3
      have kp4 : Kp [] g3 (g3 ++ [Ob.lst []]) := Kp.app _
      have ne4 : n ≠ g3.length ∧ rs ≠ g3.length := by have := lt_of_get hgd3; omega
      revert hR4 hL4 hgd4 kp4 ne4
      generalize (g3 ++ [Ob.lst []]) = g4
      generalize hls : g3.length = ls
      intro hR4 hL4 hgd4 kp4 ne4
      refine seq_ fun P5 n5 _ _ _ => ?_
      walk_at "ev"
      rw [list_t]
      refine (new_l (small_le (Nat.le_of_ble_eq_true rfl))).mpr ?_
      have e5 : (g4 ++ [Ob.lst (r.1.map lnD)] ++ [Ob.lst [lnD r.2]])[g4.length]? = some (.lst (r.1.map lnD)) := by
        rw [List.getElem?_append_left (by simp)]
        exact get_new
      rw [add_l e5 get_new (small_le (by simp; omega))]
      rw [src_l get_new]
      have e6 : r.1.map lnD ++ [lnD r.2] = (r.1 ++ [r.2]).map lnD := by simp
      rw [e6]
      have kp7 : Kp [] g4 (g4 ++ [Ob.lst (r.1.map lnD)] ++ [Ob.lst [lnD r.2]] ++ [Ob.lst ((r.1 ++ [r.2]).map lnD)]) := ((Kp.app _).trans (Kp.app _)).trans (Kp.app _)
      have h7 : (g4 ++ [Ob.lst (r.1.map lnD)] ++ [Ob.lst [lnD r.2]] ++ [Ob.lst ((r.1 ++ [r.2]).map lnD)])[(g4 ++ [Ob.lst (r.1.map lnD)] ++ [Ob.lst [lnD r.2]]).length]? = some (.lst ((r.1 ++ [r.2]).map lnD)) := get_new
      have nw : g4.length ≤ (g4 ++ [Ob.lst (r.1.map lnD)] ++ [Ob.lst [lnD r.2]]).length := by simp
      revert kp7 h7 nw
      generalize (g4 ++ [Ob.lst (r.1.map lnD)] ++ [Ob.lst [lnD r.2]] ++ [Ob.lst ((r.1 ++ [r.2]).map lnD)]) = g7
      generalize (g4 ++ [Ob.lst (r.1.map lnD)] ++ [Ob.lst [lnD r.2]]).length = w
      intro kp7 h7 nw
      have ll4 := lt_of_get hL4
      have hL7 := kp7.get hL4 (by simp)
      refine for_ok (fun l ρ g' => ∃ M A y2 y10, r.1 ++ [r.2] = A ++ M ∧ l = M.map lnD ∧ ρ = [some (bkD B), some (.ref a), y2, none, none, some (.ref n), some (.ref rs), some (.tup (r.1.map lnD)), some (lnD r.2), some (.ref ls), y10, none, none] ∧ Kp [ls] g7 g' ∧ g'[ls]? = some (.lst ((A.map (callL ν)).map lnD)))
        (fun l ρ g' ⟨_, _, _, _, _, _, _, kp, _⟩ => stable_one (kp.get h7 (by simp; omega))) ?_ ?_ _ _ _ ⟨r.1 ++ [r.2], [], x2, x10, rfl, rfl, rfl, .refl, hL7⟩
      · rintro d l ρ g8 ⟨M, A, y2, y10, eA, el, rfl, kp8, h8⟩
        cases M with
        | nil => cases el
        | cons m M =>
          cases el
          have hm : m ∈ r.1 ++ [r.2] := by rw [eA]; simp
          have mchk := (rlChk_ok chk).2 m hm
          have lA : A.length < (r.1 ++ [r.2]).length := by rw [eA]; simp
          unfold lnD
          walk_at "ev"
          refine tr_mth bm_append ?_
          walk_at "ev"
          refine ⟨ty_l h8, ?_⟩
          have hgd8 := kp8.get (kp7.get hgd4 (by simp)) (by simp; omega)
          refine callL_ok (ν := ν) (l := m) hgd8 (signs m mchk) (ln_of_chk mchk) fun g9 kp9 => ?_
          have h9 := kp9.get h8 (by simp)
          walk_at "ev"
          rw [app_l h9 (by simp at lA ⊢; rw [sizeLine_eq]; omega)]
          refine ⟨M, A ++ [m], _, _, by simp [eA], rfl, rfl, (kp8.tr kp9 (by simp)).trans (Kp.set (by simp)), ?_⟩
          rw [get_set (lt_of_get h9)]
          simp only [List.map_append, List.map_cons, List.map_nil]
          rfl
      · rintro ρ g8 ⟨M, A, y2, y10, eA, el, rfl, kp8, h8⟩
        cases M with
        | cons _ _ => cases el
        | nil =>
          rw [List.append_nil] at eA
          subst eA
          rw [n5]
          have l8 := lt_of_get h8
          have kp48 : Kp [ls] g4 g8 := kp7.nil.tr kp8 (by simp)
          have hR8 := kp48.get hR4 (by simp [ne4])
          have e7 : ((r.1 ++ [r.2]).map (callL ν)).map lnD = ((r.1.map (callL ν)).map lnD) ++ [lnD (callL ν r.2)] := by simp
          rw [e7] at h8
          walk_at "ev"
          refine tr_mth bm_append ?_
          walk_at "ev"
          refine ⟨ty_l hR8, ?_⟩
          refine (sl_l h8).mpr ?_
          have ec : Ev.cutD ((r.1.map (callL ν)).map lnD ++ [lnD (callL ν r.2)]) none (some (-1)) = (r.1.map (callL ν)).map lnD := by
            unfold Ev.cutD
            rw [HT.sIx_none, sIx_m1, List.drop_zero, Nat.sub_zero, List.length_append, List.length_singleton, Nat.add_sub_cancel, List.take_left]
          rw [ec, tup_l get_new]
          have hx8 : ∀ e : Hh, (g8 ++ e)[ls]? = some (.lst ((r.1.map (callL ν)).map lnD ++ [lnD (callL ν r.2)])) := fun e => by rw [List.getElem?_append_left l8]; exact h8
          rw [ix_l (hx8 [Ob.lst ((r.1.map (callL ν)).map lnD)]) (i := -1) (d := lnD (callL ν r.2)) (at_last _ _)]
          have hRn : (g8 ++ [Ob.lst ((r.1.map (callL ν)).map lnD)])[rs]? = some (.lst ((R.map (callR ν)).map rlD)) := by rw [List.getElem?_append_left (lt_of_get hR8)]; exact hR8
          have lR : R.length < B.rl.length := by rw [eR]; simp
          have hrn := hB.rn
          walk_at "ev"
          rw [app_l hRn (by rw [List.length_map, List.length_map, sizeLine_eq]; omega)]
          refine ⟨L, R ++ [r], _, _, _, _, _, by simp [eR], rfl, rfl, ⟨?_, ?_⟩⟩
          · have kpx : Kp [rs, ls] g3 g8 := kp4.nil.trans (kp48.mono (by simp))
            have := (I.kp.tr (kp4.nil.trans kp48) (S' := [ls]) (by have := I.kp.len; walk_at "ks")).tr (Kp.app (S := []) [Ob.lst ((r.1.map (callL ν)).map lnD)]) (by simp)
            exact this.trans (Kp.set (by simp))
          · rw [get_set (lt_of_get hRn)]
            simp only [List.map_append, List.map_cons, List.map_nil]
            rfl
  · rintro ρ g3 ⟨L, R, x2, x7, x8, x9, x10, eR, el, rfl, I⟩
    cases L with
    | cons _ _ => cases el
    | nil =>
      rw [List.append_nil] at eR
      subst eR
      rw [n3]
      unfold bkD
      walk_at "ev"
      rw [ix_t at0]
      have hmn := hB.mn
      refine lc_map B.mks sgD (fun s => sgD (ν s.1, s.2)) ?_
      walk_at "ev"
      rw [ix_t at1]
      walk_at "ev"
      have hgd3 := I.kp.get hgd2 (by simp [nr])
      refine ⟨trivial, by omega, rfl, fun s hs g4 kp4 => ?_, fun g4 kp4 hg4 => ?_⟩
      · unfold sgD
        walk_at "ev"
        refine ⟨.refl, ?_⟩
        rw [ix_d (kp4.get hgd3 (by have := lt_of_get hgd3; simp; omega)) (hν s.1 (List.mem_map.mpr ⟨s, hs, rfl⟩)).1]
        exact ⟨.refl, rfl⟩
      have em : B.mks.map (fun s => sgD (ν s.1, s.2)) = (B.mks.map fun s => ((ν s.1, s.2) : Sg)).map sgD := by rw [List.map_map]; rfl
      rw [em] at hg4
      have so : ∀ s ∈ (B.mks.map fun s => ((ν s.1, s.2) : Sg)), PyData.strOk s.1 = true := fun s hs => by
        obtain ⟨t, ht, rfl⟩ := List.mem_map.mp hs
        exact (hν t.1 (List.mem_map.mpr ⟨t, ht, rfl⟩)).2
      rw [srt_l hg4 (srtOk_sg (by rw [List.length_map]; omega) so)]
      rw [tup_l get_new]
      have kp5 : Kp [] g3 (g4 ++ [Ob.lst (srtD ((B.mks.map fun s => ((ν s.1, s.2) : Sg)).map sgD))]) := kp4.trans (Kp.app _)
      rw [tup_l (kp5.get I.h (by simp)), ix_t at3]
      walk_at "ev"
      obtain ⟨M, eM, pM⟩ := perm_back (List.mergeSort_perm ((B.mks.map fun s => ((ν s.1, s.2) : Sg)).map sgD) leD) (B.mks.map fun s => ((ν s.1, s.2) : Sg)) rfl
      have eM : srtD ((B.mks.map fun s => ((ν s.1, s.2) : Sg)).map sgD) = M.map sgD := eM
      rw [eM] at kp5 ⊢
      have mem : ∀ s ∈ M, ∃ t ∈ B.mks, s = (ν t.1, t.2) := fun s hs => by
        obtain ⟨t, ht, e⟩ := List.mem_map.mp (pM.mem_iff.mp hs)
        exact ⟨t, ht, e.symm⟩
      refine ⟨⟨⟨B.rel, M, B.rl.map (callR ν), B.pr⟩, rfl, ⟨?_, ?_, ?_, ?_, ?_⟩⟩, ?_⟩
      · show M.length ≤ 3
        rw [pM.length_eq, List.length_map]
        exact hmn
      · intro s hs
        obtain ⟨t, ht, rfl⟩ := mem s hs
        exact (hν t.1 (List.mem_map.mpr ⟨t, ht, rfl⟩)).2
      · show (B.rl.map (callR ν)).length ≤ 8
        rw [List.length_map]
        exact hB.rn
      · show (B.rl.map (callR ν)).length = B.pr.length
        rw [List.length_map]
        exact hB.rp
      · intro r hr
        obtain ⟨r0, hr0, rfl⟩ := List.mem_map.mp hr
        refine call_chk (mk := B.mks.map (·.1)) (fun x hx => ⟨?_, (hν x hx).2⟩) (hB.rl r0 hr0)
        obtain ⟨s, hs, rfl⟩ := List.mem_map.mp hx
        exact List.mem_map.mpr ⟨(ν s.1, s.2), pM.mem_iff.mpr (List.mem_map.mpr ⟨s, hs, rfl⟩), rfl⟩
      · exact (kpG.trans kp2).tr (I.kp.tr kp5 (by simp)) (by have := kpG.len; walk_at "ks")

/-! where draws come from -/
theorem pow64 {g : Hh} {Q : D → Hh → Prop} : Ev.TO (dPow (.int 10) (.int 64) g) Q = Q (.int (10 ^ 64)) g := pow_i (k := 64) (i := 10) (by decide) (by decide)
theorem pow18 {g : Hh} {Q : D → Hh → Prop} : Ev.TO (dPow (.int 10) (.int 18) g) Q = Q (.int (10 ^ 18)) g := pow_i (k := 18) (i := 10) (by decide) (by decide)
theorem seqd {α : Type} (l : List α) (h : l.length ≤ 63) : l.take 63 = l := List.take_of_length_le h
theorem deal_ok {k : Nat} {ns : List Int} {salt : Int} {g : Hh} (hs : 0 ≤ salt) (hs2 : salt < 1000) : Tr (run Ds (k + 1) "_law_deal" [.scr (ns.map .int), .int salt] g) fun d g' => ∃ n c, d = .ref n ∧ Dl n c g' ∧ Kp [] g g' := by
  rw [r__law_deal, Tr_outR]
  unfold c__law_deal
  refine seq_ fun P1 n1 _ _ _ => ?_
  walk_at "ev"
  simp only [pow64]
  rw [mul_big (by decide +kernel) (by decide +kernel), mul_big (by decide +kernel) (by decide +kernel), mul_big (by decide +kernel) (by decide +kernel), mul_big (by decide +kernel) (by decide +kernel), mul_big (by decide +kernel) (by decide +kernel), n1]
  have hm0 : (10 : Int) ^ 64 * 10 ^ 64 * 10 ^ 64 * 10 ^ 64 * 10 ^ 64 * 10 ^ 64 ≠ 0 := by decide +kernel
  have hm1 : 0 < (10 : Int) ^ 64 * 10 ^ 64 * 10 ^ 64 * 10 ^ 64 * 10 ^ 64 * 10 ^ 64 := by decide +kernel
  revert hm0 hm1
  generalize (10 : Int) ^ 64 * 10 ^ 64 * 10 ^ 64 * 10 ^ 64 * 10 ^ 64 * 10 ^ 64 = most
  intro hm0 hm1
  refine seq_ fun P2 n2 _ _ _ => ?_
  walk_at "ev"
  refine lc_map (ns.take 63) D.int (fun i => .int ((i.natAbs : Int).fmod most)) ?_
  walk_at "ev"
  rw [sl_s, src_l get_new]
  have lt : (ns.take 63).length ≤ 63 := by rw [List.length_take]; omega
  refine ⟨?_, by omega, stable_one get_new, fun i hi g1 kp1 => ?_, fun g1 kp1 hg1 => ?_⟩
  · show Ev.cutD (ns.map D.int) none (some ((63 : Nat) : Int)) = _
    rw [cut_to, List.map_take]
  · walk_at "ev"
    rw [abs_nat, mod_i hm0]
    exact ⟨.refl, .refl, rfl⟩
  have kp2 : Kp [] g g1 := (Kp.app _).trans kp1
  have e1 : (ns.take 63).map (fun i => D.int ((i.natAbs : Int).fmod most)) = ((ns.take 63).map fun i => (i.natAbs : Int).fmod most).map D.int := by rw [List.map_map]; rfl
  rw [e1] at hg1
  have pos : ∀ x ∈ ((ns.take 63).map fun i => (i.natAbs : Int).fmod most), 0 ≤ x := fun x hx => by
    obtain ⟨i, _, rfl⟩ := List.mem_map.mp hx
    exact Int.fmod_nonneg_of_pos _ hm1
  have lc : ((ns.take 63).map fun i => (i.natAbs : Int).fmod most).length ≤ 63 := by rw [List.length_map]; exact lt
  revert hg1 pos lc
  generalize ((ns.take 63).map fun i => (i.natAbs : Int).fmod most) = cells
  intro hg1 pos lc
  walk_at "ev"
  rw [n2]
  revert hg1
  generalize (g ++ [Ob.lst (Ev.cutD (ns.map D.int) none (some 63))]).length = a
  intro hg1
  refine seq_ fun P3 n3 _ _ _ => ?_
  walk_at "ev"
  rw [mul_i (by decide) (by omega)]
  walk_at "ev"
  rw [n3]
  refine seq_ fun P4 n4 _ _ _ => ?_
  walk_at "ev"
  rw [src_l hg1]
  refine for_ok (fun l ρ g' => ∃ M x3, ∃ mix : Int, l = M.map D.int ∧ 0 ≤ mix ∧ mix < 2147483647 ∧ ρ = [some (.scr (ns.map D.int)), some (.int salt), some (.int most), x3, some (.ref a), some (.int mix)] ∧ g' = g1) (fun _ _ _ ⟨_, _, _, _, _, _, _, e⟩ => by rw [e]; exact stable_one hg1) ?_ ?_ _ _ _ ⟨cells, none, _, rfl, by omega, by omega, rfl, rfl⟩
  · rintro d l ρ g2 ⟨M, x3, mix, el, m0, m1, rfl, rfl⟩
    cases M with
    | nil => cases el
    | cons i M =>
      cases el
      walk_at "ev"
      rw [mul_i (by omega) (by decide)]
      rw [mod_i (by decide)]
      walk_at "ev"
      rw [mod_i (by decide)]
      walk_at "ev"
      exact ⟨M, _, _, rfl, Int.fmod_nonneg_of_pos _ (by decide), Int.fmod_lt_of_pos _ (by decide), rfl, ⟨⟩⟩
  · rintro ρ g2 ⟨M, x3, mix, el, m0, m1, rfl, rfl⟩
    rw [n4]
    walk_at "ev"
    refine lc_filt cells D.int (fun i => decide (10 ^ 18 ≤ i)) D.int ?_
    walk_at "ev"
    rw [src_l hg1]
    refine ⟨rfl, by omega, stable_one hg1, fun i hi g3 kp3 => ?_, fun g3 kp3 hg3 => ?_⟩
    · walk_at "ev"
      simp only [pow18]
      walk_at "ev"
      exact ⟨.refl, .refl, trivial, fun _ => ⟨.refl, trivial⟩⟩
    rw [rev_l hg3]
    walk_at "ev"
    rw [new_l (small_le (Nat.le_of_ble_eq_true rfl))]
    have er : (((cells.filter fun i => decide (10 ^ 18 ≤ i)).map D.int).reverse) = ((cells.filter fun i => decide (10 ^ 18 ≤ i)).reverse).map D.int := by rw [List.map_reverse]
    rw [er]
    refine ⟨_, g3.length, rfl, ⟨(cells.filter fun i => decide (10 ^ 18 ≤ i)).reverse, mix, ⟨by simp, get_new, ?_, ?_, m0, m1, ?_⟩⟩, (kp2.trans kp3).trans ((Kp.app _).trans (Kp.app _))⟩
    · rw [List.getElem?_append_left (by simp)]
      exact get_new
    · intro x hx
      exact pos x (List.mem_filter.mp (List.mem_reverse.mp hx)).1
    · rw [List.length_reverse]
      exact Nat.le_trans (List.length_filter_le ..) lc

/-! all answers -/
theorem all_ok {k n a : Nat} {xs : List D} {g : Hh} (h : g[a]? = some (.lst (xs.map fun d => .tup [d, d]))) (hl : xs.length ≤ 1000) (good : ∀ d ∈ xs, gdD n d = true ∧ wdD n d = true) :
    Tr (run Ds (k + n + 2) "_law_all" [.ref a] g) fun x _ => x = .bl true := by
  rw [r__law_all, Tr_outR]
  unfold c__law_all
  walk_at "ev"
  refine lc_filt xs (fun d => .tup [d, d]) (fun _ => false) (fun d => d) ?_
  walk_at "ev"
  rw [src_l h]
  refine ⟨rfl, by omega, stable_one h, fun d hd g1 kp1 => ?_, fun g1 kp1 hg1 => ?_⟩
  · walk_at "ev"
    refine ⟨.refl, ?_⟩
    refine (same_ok n (k := k) (good d hd).1 (good d hd).2 g1).mono fun x g2 ⟨e, kp2⟩ => ?_
    subst e
    walk_at "ev"
    exact ⟨kp2, trivial, fun z => nomatch z⟩
  · rw [len_l hg1]
    walk_at "ev"
    simp
theorem wd_all {n : Nat} {ds : List D} (h : ∀ d ∈ ds, wdD n d = true) (hl : ds.length ≤ 1000) : wdD (n + 1) (.tup ds) = true := by
  show (decide (ds.length ≤ 1000) && ds.all (wdD n)) = true
  rw [decide_eq_true hl, Bool.true_and, List.all_eq_true]
  exact h
theorem wd_s : ∀ {n : Nat} {x : Str}, wdD n (.str x) = true
  | 0, _ => rfl
  | _ + 1, _ => rfl
theorem wd_i : ∀ {n : Nat} {x : Int}, wdD n (.int x) = true
  | 0, _ => rfl
  | _ + 1, _ => rfl
theorem wd_ln {n : Nat} {l : Ln} (h : LnOk l) : wdD (n + 4) (lnD l) = true := by
  have hn := h.n
  refine wd_all (fun d hd => ?_) (by simp)
  rcases List.mem_cons.mp hd with rfl | hd
  · exact wd_s
  · rw [List.mem_singleton.mp hd]
    refine wd_all (fun d hd => ?_) (by rw [List.length_map]; omega)
    obtain ⟨t, ht, rfl⟩ := List.mem_map.mp hd
    have := (h.t t ht).1
    refine wd_all (fun d hd => ?_) (by rw [List.length_map]; omega)
    obtain ⟨s, hs, rfl⟩ := List.mem_map.mp hd
    refine wd_all (fun d hd => ?_) (by simp)
    rcases List.mem_cons.mp hd with rfl | hd
    · exact wd_s
    · rw [List.mem_singleton.mp hd]; exact wd_i
theorem ln_fill {ν : Str → Str} {l : Ln} (h : LnOk l) (hs : lnOk (fillL ν l) = true) : LnOk (fillL ν l) := by
  refine ⟨hs, by show (l.2.map (fillT ν)).length ≤ 8; rw [List.length_map]; exact h.n, fun t ht => ?_⟩
  obtain ⟨t0, ht0, rfl⟩ := List.mem_map.mp ht
  refine ⟨by unfold fillT; rw [List.length_map]; exact (h.t t0 ht0).1, fun s hs => ?_⟩
  obtain ⟨s0, hs0, rfl⟩ := List.mem_map.mp hs
  split
  · exact .inr (Int.le_refl _)
  · exact (h.t t0 ht0).2 s0 hs0
theorem gd_all {n : Nat} {ds : List D} (h : ∀ d ∈ ds, gdD n d = true) : gdD (n + 1) (.tup ds) = true := List.all_eq_true.mpr h
theorem gd_le6 {n : Nat} {d : D} (h : gdD n d = true) (hn : n ≤ 6 := by decide) : gdD 6 d = true := gd_le hn h
theorem fact_good {B : Bk} {r : Rl} {p : Int × Int} (hB : BkOk B) (hr : r ∈ B.rl) : gdD 6 (factD B.mks r p) = true ∧ wdD 6 (factD B.mks r p) = true := by
  have rok := rl_of_chk (hB.rl r hr)
  have hn := rok.n
  have hlen := facts_len (ν := nuR B.mks r) (r := r)
  have mem : ∀ d ∈ factsOf (nuR B.mks r) r, ∃ l ∈ r.1, d = lnD (fillL (nuR B.mks r) l) := fun d hd => by
    obtain ⟨l, hl, e⟩ := List.mem_map.mp (facts_mem hd)
    obtain ⟨l0, hl0, rfl⟩ := List.mem_map.mp hl
    exact ⟨l0, hl0, e.symm⟩
  have fl : ∀ l ∈ r.1 ++ [r.2], LnOk (fillL (nuR B.mks r) l) := fun l hl => ln_fill (rok.l l hl) (ok_fill (rok.l l hl).s)
  constructor
  · refine gd_all (n := 5) fun d hd => ?_
    simp only [List.mem_cons, List.not_mem_nil, or_false] at hd
    rcases hd with rfl | rfl | rfl
    · refine gd_all (n := 4) fun d hd => ?_
      obtain ⟨l, hl, rfl⟩ := mem d hd
      exact gd_ln (fl l (by simp [hl])).s
    · exact gd_le (by decide) (gd_ln (fl r.2 (by simp)).s)
    · refine gd_all (n := 4) fun d hd => ?_
      simp only [List.mem_cons, List.not_mem_nil, or_false] at hd
      rcases hd with rfl | rfl
      · rfl
      · refine gd_all (n := 3) fun d hd => ?_
        obtain ⟨f, _, rfl⟩ := List.mem_map.mp hd
        rfl
  · refine wd_all (n := 5) (fun d hd => ?_) (by simp)
    simp only [List.mem_cons, List.not_mem_nil, or_false] at hd
    rcases hd with rfl | rfl | rfl
    · refine wd_all (n := 4) (fun d hd => ?_) (by omega)
      obtain ⟨l, hl, rfl⟩ := mem d hd
      exact wd_ln (n := 0) (fl l (by simp [hl]))
    · exact wd_ln (n := 1) (fl r.2 (by simp))
    · refine wd_all (n := 4) (fun d hd => ?_) (by simp)
      simp only [List.mem_cons, List.not_mem_nil, or_false] at hd
      rcases hd with rfl | rfl
      · rfl
      · refine wd_all (n := 3) (fun d hd => ?_) (by unfold cntD; rw [List.length_map]; omega)
        obtain ⟨f, _, rfl⟩ := List.mem_map.mp hd
        rfl

/-! the law -/
structure LawI (n c ps : Nat) (L : List D) (g : Hh) : Prop where
  dl : Dl n c g
  h : g[ps]? = some (.lst (L.map fun d => .tup [d, d]))
  good : ∀ d ∈ L, gdD 6 d = true ∧ wdD 6 d = true
def mk0 : List Sg := [("a", 1)]
def r0 : Rl := ([("sub", [yT, xT]), ("p", [xT]), ("sub", [yT, xT])], ("p", [[("a", 1), ("y", -1)]]))
def B0 : Bk := ⟨[("p", 1), ("sub", 2)], mk0, [r0], [(7, 3)]⟩
def due0 : D := .tup [.tup [lnD ("p", [[("c", 0)]]), lnD ("sub", [[("b", 0)], [("c", 0)]])], lnD ("p", [[("a", 1), ("b", 0)]]), .tup [Ev.prD (7, 3), .tup [.int 1, .int 2]]]
theorem a_ok : ∀ s ∈ mk0, PyData.strOk s.1 = true := by decide +kernel
theorem B0_ok : BkOk B0 := ⟨by decide, a_ok, by decide, rfl, by decide +kernel⟩
theorem fact0 : factD mk0 r0 (7, 3) = due0 := by
  have e : factsOf (nuR mk0 r0) r0 = [lnD ("p", [[("c", 0)]]), lnD ("sub", [[("b", 0)], [("c", 0)]])] :=
    (srt_eq (ds := [lnD ("p", [[("c", 0)]]), lnD ("sub", [[("b", 0)], [("c", 0)]])]) (by decide +kernel) (by decide +kernel) (by decide +kernel) (by decide +kernel)).symm
  unfold factD cntD
  rw [e]
  decide +kernel
theorem run_law (ns : List Int) (hl : ns.length ≤ 63) : ∃ g, Ev.run Ds 12 "law" [.scr (ns.map .int)] [] = .ok (.bl true) g := by
  suffices h : Tr (Ev.run Ds 12 "law" [.scr (ns.map .int)] []) fun d _ => d = .bl true by
    revert h
    cases Ev.run Ds 12 "law" [.scr (ns.map .int)] [] with
    | ok d g' => rintro rfl; exact ⟨g', rfl⟩
    | _ => exact fun h => h.elim
  rw [r_law, Tr_outR]
  unfold c_law
  refine seq_ fun P1 n1 _ _ _ => ?_
  walk_at "ev"
  refine (deal_ok (k := 10) (ns := ns) (salt := 47) (by decide) (by decide)).mono fun d g1 ⟨n, c, e, hd1, kp1⟩ => ?_
  subst e
  walk_at "ev"
  rw [n1]
  have l1 := Dl.lt hd1
  have hd2 := kp_app_dl (e := [Ob.lst []]) hd1
  have h2 : (g1 ++ [Ob.lst []])[g1.length]? = some (.lst []) := get_new
  have np : n ≠ g1.length ∧ c ≠ g1.length := by omega
  revert hd2 h2 np
  generalize (g1 ++ [Ob.lst []]) = g2
  generalize g1.length = ps
  intro hd2 h2 np
  refine seq_ fun P2 n2 _ _ _ => ?_
  walk_at "ev"
  refine rg1_ex ?_
  walk_at "ev"
  refine ⟨8, by decide, rfl, ?_⟩
  refine for_ok (fun l ρ g' => ∃ L x3 x4 x5 x6, L.length + 8 * l.length ≤ 64 ∧ (∀ d ∈ l, ∃ i : Int, d = .int i) ∧ ρ = [some (.scr (ns.map .int)), some (.ref n), some (.ref ps), x3, x4, x5, x6, none, none, none, none, none] ∧ LawI n c ps L g') (fun _ _ _ _ => rfl) ?_ ?_ _ _ _ ⟨[], none, none, none, none, by simp, ?_, rfl, ⟨hd2, h2, fun _ h => nomatch h⟩⟩
  · rintro d l ρ g3 ⟨L, x3, x4, x5, x6, len, li, rfl, I⟩
    obtain ⟨tn, rfl⟩ := li d List.mem_cons_self
    walk_at "tg"
    refine seq_ fun P3 n3 _ _ _ => ?_
    walk_at "ev"
    have l3 := Dl.lt I.dl
    refine (one_place_ok (k := 7) I.dl).mono fun d g4 ⟨B1, e, ok1, kp4, hd4⟩ => ?_
    subst e
    refine (steps_ok (k := 7) hd4).mono fun d g5 ⟨B2, e, ok2, kp5, hd5⟩ => ?_
    subst e
    refine (known_ok (k := 6) hd5).mono fun d g6 ⟨⟨B3, x, y, e, ok3⟩, kp6, hd6⟩ => ?_
    subst e
    rw [ix_t at0, new_l (small_le (by simp))]
    have kp36 : Kp [n, c] g3 g6 := (kp4.trans kp5).trans kp6
    have l6 := Dl.lt hd6
    refine of_r (k := 9) (xs := [B1, B2, B3]) (e := bkD) (kp_app_dl hd6) get_new (by omega) (by omega) (by simp) (by simp) fun B hB g7 kp7 hd7 => ?_
    have okB : BkNd B := by
      simp only [List.mem_cons, List.not_mem_nil, or_false] at hB
      rcases hB with rfl | rfl | rfl
      · exact ok1
      · exact ok2
      · exact ok3
    have kp37 : Kp [n, c] g3 g7 := (kp36.trans (Kp.app _)).trans kp7
    have h7 := kp37.get I.h (by simp; omega)
    walk_at "ev"
    rw [n3]
    refine seq_ fun P4 n4 _ _ _ => ?_
    have key : ∀ (B : Bk) (g' : Hh), BkOk B → LawI n c ps L g' → P4.n [some (.scr (ns.map .int)), some (.ref n), some (.ref ps), some (.int tn), some (bkD B), x5, x6, none, none, none, none, none] g' := by
      intro B g8 hB I8
      rw [n4]
      clear n4
      refine seq_ fun P5 n5 _ _ _ => ?_
      walk_at "ev"
      refine (handed_ok (k := 9)).mono fun d g9 ⟨p, b, e, pb, kp9⟩ => ?_
      subst e
      walk_at "ev"
      rw [n5]
      clear n5
      walk_at "ev"
      refine rg1_ex ?_
      unfold bkD
      walk_at "ev"
      rw [ix_t at2]
      walk_at "ev"
      have hrn := hB.rn
      refine ⟨B.rl.length, by omega, by rw [List.length_map], ?_⟩
      have l8 := Dl.lt I8.dl
      have lps := lt_of_get I8.h
      refine for_ok (fun l2 ρ g' => ∃ M y6, ∃ i : Nat, l2 = (List.range' i (B.rl.length - i)).map (fun (i : Nat) => D.int (i : Int)) ∧ i ≤ B.rl.length ∧ M.length + 8 * (l.length + 1) ≤ 64 + i ∧ ρ = [some (.scr (ns.map .int)), some (.ref n), some (.ref ps), some (.int tn), some (bkD B), some (.ref p), y6, none, none, none, none, none] ∧ LawI n c ps M g' ∧ Kp [ps] g9 g') (fun _ _ _ _ => rfl) ?_ ?_ _ _ _ ⟨L, x6, 0, by rw [List.range_eq_range']; rfl, by omega, by simp at len ⊢; omega, rfl, ⟨I8.dl.kp kp9, kp9.get I8.h (by simp), I8.good⟩, .refl⟩
      · rintro d l2 ρ g10 ⟨M, y6, i, el, hi, lenM, rfl, I10, kp10⟩
        have hi' : i < B.rl.length := by
          rcases Nat.lt_or_ge i B.rl.length with h | h
          · exact h
          · rw [Nat.sub_eq_zero_of_le h] at el
            cases el
        have es : B.rl.length - i = (B.rl.length - (i + 1)) + 1 := by omega
        rw [es, List.range'_succ, List.map_cons] at el
        cases el
        have hps9 : g9[ps]? = some (.lst (L.map fun d => .tup [d, d])) := kp9.get I8.h (by simp)
        have hpn : p ≠ ps := fun z => by have := pb.1; rw [z, hps9] at this; cases this
        have hbn : b ≠ ps := fun z => by have := pb.2; unfold BookAt at this; rw [z, hps9] at this; cases this
        have pb10 : PbAt p b B g10 := ⟨kp10.get pb.1 (by simp [hpn]), kp10.get pb.2 (by simp [hbn])⟩
        obtain ⟨r, hr⟩ : ∃ r, B.rl[i]? = some r := ⟨_, List.getElem?_eq_getElem hi'⟩
        obtain ⟨q, hq⟩ : ∃ q, B.pr[i]? = some q := ⟨_, List.getElem?_eq_getElem (by have := hB.rp; omega)⟩
        have mr : r ∈ B.rl := List.mem_of_getElem? hr
        have rok := rl_of_chk (hB.rl r mr)
        have mok := hB.mk_ mr
        have fin : ∀ g11, Kp [] g10 g11 → Tr (Ev.run Ds 11 "_law_facts_of" [bkD B, .int i] g11) fun d g12 => d = factD B.mks r q ∧ Kp [] g10 g12 := fun g11 kp11 =>
          (lawfacts_ok (k := 9) hr hq rok mok).mono fun d g12 ⟨e, kp12⟩ => ⟨e, kp11.trans kp12⟩
        have good := fact_good (p := q) hB mr
        have close : ∀ g12, Kp [] g10 g12 → ∃ M' y6', ∃ i' : Nat, (List.range' (i + 1) (B.rl.length - (i + 1))).map (fun (i : Nat) => D.int (i : Int)) = (List.range' i' (B.rl.length - i')).map (fun (i : Nat) => D.int (i : Int)) ∧ i' ≤ B.rl.length ∧ M'.length + 8 * (l.length + 1) ≤ 64 + i' ∧
            [some (D.scr (ns.map .int)), some (.ref n), some (.ref ps), some (.int tn), some (bkD B), some (.ref p), some (.int i), none, none, none, none, none] = [some (D.scr (ns.map .int)), some (.ref n), some (.ref ps), some (.int tn), some (bkD B), some (.ref p), y6', none, none, none, none, none] ∧
            LawI n c ps M' (g12.set ps (.lst (M.map (fun d => D.tup [d, d]) ++ [.tup [factD B.mks r q, factD B.mks r q]]))) ∧ Kp [ps] g9 (g12.set ps (.lst (M.map (fun d => D.tup [d, d]) ++ [.tup [factD B.mks r q, factD B.mks r q]]))) := fun g12 kp12 => by
          have h12 := kp12.get I10.h (by simp)
          refine ⟨M ++ [factD B.mks r q], _, i + 1, rfl, hi', by rw [List.length_append]; simp; omega, rfl, ⟨(I10.dl.kp kp12).set (Ne.symm np.1) (Ne.symm np.2), by rw [get_set (lt_of_get h12), List.map_append]; rfl, fun d hd => ?_⟩, (kp10.tr kp12 (by simp)).trans (Kp.set (by simp))⟩
          rcases List.mem_append.mp hd with h | h
          · exact I10.good d h
          · rw [List.mem_singleton.mp h]; exact good
        have app : ∀ g12, Kp [] g10 g12 → g12[ps]? = some (.lst (M.map fun d => .tup [d, d])) := fun g12 kp12 => kp12.get I10.h (by simp)
        walk_at "ev"
        refine tr_mth bm_append ?_
        walk_at "ev"
        refine ⟨ty_l I10.h, ?_⟩
        split
        · refine (facts_ok (k := 8) pb10 hr hq rok mok).mono fun d g11 ⟨e, kp11⟩ => ?_
          subst e
          refine (fin g11 kp11).mono fun d g12 ⟨e, kp12⟩ => ?_
          subst e
          rw [app_l (app g12 kp12) (by rw [List.length_map, sizeLine_eq]; omega)]
          exact close g12 kp12
        · rw [show ordK [1, 0] [D.int i, D.ref p] = [D.ref p, D.int i] from rfl]
          rw [if_pos ⟨⟨⟩, rfl⟩]
          refine (facts_ok (k := 8) pb10 hr hq rok mok).mono fun d g11 ⟨e, kp11⟩ => ?_
          subst e
          refine (fin g11 kp11).mono fun d g12 ⟨e, kp12⟩ => ?_
          subst e
          rw [app_l (app g12 kp12) (by rw [List.length_map, sizeLine_eq]; omega)]
          exact close g12 kp12
      · rintro ρ g10 ⟨M, y6, i, el, hi, lenM, rfl, I10, kp10⟩
        have hi' : i = B.rl.length := by
          rcases Nat.lt_or_ge i B.rl.length with h | h
          · have es : B.rl.length - i = (B.rl.length - (i + 1)) + 1 := by omega
            rw [es, List.range'_succ, List.map_cons] at el
            cases el
          · omega
        exact ⟨M, _, _, _, _, by omega, fun d hd => li d (List.mem_cons_of_mem _ hd), rfl, I10⟩
    have I7 : LawI n c ps L g7 := ⟨hd7, h7, I.good⟩
    clear n4
    walk_at "ev"
    rw [show Ev.TO (dIx (bkD B) (.int 1) g7) = Ev.TO (some (.tup (B.mks.map sgD), g7)) by rfl]
    walk_at "ev"
    rw [List.length_map]
    split
    · rename_i hmk
      have hmk : (B.mks.length : Int) < 3 := of_decide_eq_true hmk
      have l7 := Dl.lt hd7
      have lp7 := lt_of_get h7
      refine (new_l (xs := (["a", "c"] : List Str).map D.str) (small_le (by decide))).mpr ?_
      refine (new_l (xs := (["b", "a"] : List Str).map D.str) (small_le (by decide))).mpr ?_
      refine (new_l (xs := (["f", "g"] : List Str).map D.str) (small_le (by decide))).mpr ?_
      walk_at "hp"
      refine (new_l (xs := ([g7.length, g7.length + 1, g7.length + 2] : List Nat).map D.ref) (small_le (Nat.le_of_ble_eq_true rfl))).mpr ?_
      walk_at "hp"
      refine of_r (k := 9) (xs := [g7.length, g7.length + 1, g7.length + 2]) (e := D.ref) (kp_app_dl hd7) ga (by omega) (by omega) (by simp) (by simp) fun a ha g8 kp8 hd8 => ?_
      have hN : ∃ N : List Str, g8[a]? = some (.lst (N.map D.str)) ∧ N.length = 2 ∧ ∀ x ∈ N, PyData.strOk x = true := by
        simp only [List.mem_cons, List.not_mem_nil, or_false] at ha
        rcases ha with rfl | rfl | rfl
        · exact ⟨["a", "c"], kp8.get ga0 (by simp; omega), rfl, by decide +kernel⟩
        · exact ⟨["b", "a"], kp8.get ga (by simp; omega), rfl, by decide +kernel⟩
        · exact ⟨["f", "g"], kp8.get ga (by simp; omega), rfl, by decide +kernel⟩
      obtain ⟨N, hN, lN, sN⟩ := hN
      refine (called_ok (k := 10) okB (by omega) (by omega) hN sN).mono fun d g9 ⟨⟨B', e, okB'⟩, kp9⟩ => ?_
      subst e
      have h8 := kp8.get (show _ = some (Ob.lst (L.map fun d => D.tup [d, d])) by rw [List.getElem?_append_left lp7]; exact h7) (by simp; omega)
      exact key B' g9 okB' ⟨hd8.kp kp9, kp9.get h8 (by simp), I.good⟩
    · exact key B g7 okB.toBkOk I7
  · rintro ρ g3 ⟨L, x3, x4, x5, x6, len, li, rfl, I⟩
    rw [n2]
    clear n2 n1
    refine seq_ fun P3 n3 _ _ _ => ?_
    walk_at "ev"
    simp only [var_eq (k := 10), Tr_ok]
    walk_at "ev"
    rw [n3]
    clear n3
    refine seq_ fun P4 n4 _ _ _ => ?_
    walk_at "ev"
    rw [made_eq (k := 10) (by decide)]
    walk_at "ev"
    rw [n4]
    clear n4
    refine seq_ fun P5 n5 _ _ _ => ?_
    walk_at "ev"
    simp only [lawplain_eq (k := 10), Tr_ok]
    walk_at "ev"
    rw [n5]
    clear n5
    refine seq_ fun P6 n6 _ _ _ => ?_
    walk_at "ev"
    rw [made_eq (k := 10) (by decide)]
    walk_at "ev"
    rw [n6]
    clear n6
    walk_at "ev"
    refine (handed_ok (k := 9) (B := B0)).mono fun d g9 ⟨p, b, e, pb, kp9⟩ => ?_
    subst e
    refine (facts_ok (k := 8) (i := 0) pb rfl rfl (rl_of_chk (B0_ok.rl r0 (by simp [B0]))) (B0_ok.mk_ (by simp [B0]))).mono fun d g11 ⟨e, kp11⟩ => ?_
    subst e
    rw [show factD B0.mks r0 (7, 3) = due0 from fact0]
    walk_at "ev"
    have kp : Kp [] g3 g11 := kp9.trans kp11
    have h11 := kp.get I.h (by simp)
    refine (new_l (xs := [D.tup [due0, due0]]) (small_le (Nat.le_of_ble_eq_true rfl))).mpr ?_
    refine (add_l (xs := L.map fun d => D.tup [d, d]) (ys := [D.tup [due0, due0]]) (by rw [List.getElem?_append_left (lt_of_get h11)]; exact h11) get_new (small_le (by simp at len ⊢; omega))).mpr ?_
    have el : (L.map fun d => D.tup [d, d]) ++ [D.tup [due0, due0]] = (L ++ [due0]).map fun d => D.tup [d, d] := by simp
    rw [el]
    refine (all_ok (k := 3) (n := 6) (xs := L ++ [due0]) get_new (by simp at len ⊢; omega) fun d hd => ?_).mono fun x _ e => e
    rcases List.mem_append.mp hd with h | h
    · exact I.good d h
    · rw [List.mem_singleton.mp h, ← fact0]
      exact fact_good (p := (7, 3)) B0_ok (by simp [B0])
  · intro d hd
    obtain ⟨i, _, rfl⟩ := List.mem_map.mp hd
    exact ⟨_, rfl⟩

end T
open PySem PySem.W PySem.Calls PyProof.Rows
theorem holdsIf (hrun : ∀ ns : List Int, ns.length ≤ 63 → ∃ g, Ev.run T.Ds 12 "law" [.scr (ns.map .int)] [] = .ok (.bl true) g) : T.lawT.Holds := by
  w_on; o_law
  refine HandSHeadRun.head_any (r := OpenLaw.row T.lawT) (q := view (OpenLaw.row T.lawT).prog [45]) (H := T.hk) (ob := T.ob) (M := 3000) (loose := T.loose) (d := HandSHeadRun.topDef (OpenLaw.row T.lawT).prog 45) (kwd := []) T.ob_eq
    (by kernel_rfl) (fun s => by kernel_rfl) T.runs (by kernel_rfl) (by kernel_rfl) (by kernel_rfl) (by rfl) (by first | assumption | decide +kernel) (by decide +kernel) ⟨rfl, rfl, rfl, rfl, rfl, by decide +kernel⟩ ?hw ?hc
  case hw => w_witness2
  case hc =>
    refine L2.walk_ofE (l := T.lawT) (n := 63) (k := 2 * 12) (x := "script") (CX := L2.CX0) rfl (by decide) (by kernel_rfl) ⟨rfl, by decide, by decide⟩ ?F (fun _ _ _ _ z => z)
    intro w mg fa h Y G hmg0
    obtain ⟨K, KX, c⟩ := Y
    have hmg : mg ("law" : PySem.Str) = some (.ref fa) := by
      have e : (HandSHeadRun.topDef (OpenLaw.row T.lawT).prog 45).name = ("law" : PySem.Str) := by kernel_rfl
      rw [← e]
      exact hmg0
    have hfa : fa = He.ga K "law" := by
      have := hmg.symm.trans (T.glaw KX G c)
      cases this
      rfl
    subst hfa
    obtain ⟨fd, hb, hsp, hF⟩ := Ev.law_ok (P := (T.lawT).prog) (w := w) (T.facts KX G c) (k := 12) (n := 63) (d := T.n38) (by kernel_rfl) rfl (T.glaw KX G c) hrun
    exact ⟨K, fd, _, KX, hb, fun H a ns hl ho hS => hsp H a ns hl ho hS, hF⟩

theorem PySem.Challenge.cw_cheapathand_k47_rules_as_facts_claims_an_holds : PySem.Challenge.rw_cheapathand_k47_rules_as_facts_claims_an.Holds :=
  holdsIf T.run_law
