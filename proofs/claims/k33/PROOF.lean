import PyProof.Rows.All
import HandS.ForMost
import HandS.ForExc
import HandS.IsInst
import HandS.TupAny
import HandS.TupMul
import HandS.Wide
import HandS.WideBits
import HandS.Zip
import HandS.More
import PyProof.ReprRoads
import HandS.Flow
import KE.GoesMore
import HandS.Small
import HandS.Style
import HandS.TryOnly
import HandS.Walk
import HandS.DictTup
import HandS.SortInts
import HandS.Defaults
import HandS.Ends
import HandS.HeadEnd
import HandS.HeadHook1
import HandS.HeadHook2
import HandS.HeadHook3
import HandS.HeadHook4
import HandS.Head0
import HandS.Head1
import HandS.Head2
import PyProof.ExcBaseAll.ValueError
import PyProof.StrLawsRepr
import PySem.Challenge.RW_maskwright_k33_whole_ways_and_what_is_as
section
set_option Elab.async false
set_option linter.all false
set_option maxRecDepth 100000
set_option autoImplicit false
/-! Ev1: data, stores, the relation to the abstract heap, steps, outcomes -/
namespace Ev
open PySem L2

inductive D where
  | non | bl (b : Bool) | int (i : Int) | str (x : Str) | tup (xs : List D) | rol (xs : List D) | ref (n : Nat) | fn (k : Nat)

inductive MO where
  | lst (xs : List D) | dct (kvs : List (Key × D)) | lok (kvs : List (Key × D))

abbrev Sto := List MO
abbrev En := List (Option D)

/-- what is fixed: the written part, the defs' addresses, the exception classes' addresses -/
structure Pm where
  K : PySem.W.Frag
  fa : Nat → Option Addr
  ec : Nat → Option Addr

/-- a list that nobody of ours writes -/
def SqR (K : PySem.W.Frag) (H : Hp) (a : Addr) (vs : List V) : Prop :=
  (∃ o, H a = some (.frz o (.lst vs))) ∨
    ∃ (o : Obj) (its : Array Value) (n : Nat), K.lookup a = some o ∧ o.cls = .type "list" ∧ o.dict = none ∧ o.data = .seq its n ∧ its.size ≤ sizeLine ∧ Vals vs its.toList
theorem SqR.sq {K : PySem.W.Frag} {H : Hp} {a : Addr} {vs : List V} (h : SqR K H a vs) : SqL K H a vs := by
  rcases h with ⟨o, h⟩ | h
  · exact .inl (.inr ⟨o, h⟩)
  · exact .inr h

mutual
def RD (P : Pm) (H : Hp) (as : List Addr) : D → V → Prop
  | .non, v => v = .non
  | .bl b, v => v = .bl b
  | .int i, v => v = .int i
  | .str x, v => v = .str x
  | .tup xs, v => ∃ a vs, v = .ref a ∧ SqT P.K H a vs ∧ RDs P H as xs vs
  | .rol xs, v => ∃ a vs, v = .ref a ∧ SqR P.K H a vs ∧ RDs P H as xs vs
  | .ref n, v => ∃ a, v = .ref a ∧ as[n]? = some a
  | .fn k, v => ∃ f, v = .ref f ∧ P.fa k = some f
def RDs (P : Pm) (H : Hp) (as : List Addr) : List D → List V → Prop
  | [], vs => vs = []
  | x :: xs, vs => ∃ v ws, vs = v :: ws ∧ RD P H as x v ∧ RDs P H as xs ws
end

def RKs (P : Pm) (H : Hp) (as : List Addr) (kvs : List (Key × D)) (kus : List (Key × V)) : Prop :=
  kus.map (·.1) = kvs.map (·.1) ∧ RDs P H as (kvs.map (·.2)) (kus.map (·.2))

def RO (P : Pm) (H : Hp) (as : List Addr) (a : Addr) : MO → Prop
  | .lst xs => ∃ vs, H a = some (.lst vs) ∧ RDs P H as xs vs
  | .dct kvs => ∃ kus, H a = some (.dK kus) ∧ RKs P H as kvs kus
  | .lok kvs => ∃ o kus, H a = some (.frz o (.dK kus)) ∧ RKs P H as kvs kus

structure RS (P : Pm) (H : Hp) (as : List Addr) (st : Sto) : Prop where
  len : as.length = st.length
  nd : as.Nodup
  ob : ∀ (n : Nat) (o : MO), st[n]? = some o → ∃ a, as[n]? = some a ∧ RO P H as a o

structure RE (P : Pm) (H : Hp) (as : List Addr) (env : En) (σ : L2.St) : Prop where
  len : env.length = σ.length
  at_ : ∀ (i : Nat) (d : D), env[i]? = some (some d) → ∃ v, σ[i]? = some (some v) ∧ RD P H as d v

/-- the heap has gone on: only our objects were written, ours have grown -/
structure Stp (H : Hp) (as : List Addr) (H' : Hp) (as' : List Addr) : Prop where
  pre : ∃ new, as' = as ++ new ∧ ∀ b ∈ new, H b = none
  fr : ∀ b o, H b = some o → b ∉ as → H' b = some o
  so : ∀ b, H' b = none → H b = none
  fz : ∀ b o u, H b = some (.frz o u) → H' b = some (.frz o u)

section
variable {P : Pm} {H H' H1 H2 : Hp} {as as' as1 as2 : List Addr} {st st' : Sto}

theorem Stp.refl : Stp H as H as := ⟨⟨[], by simp, by simp⟩, fun _ _ h _ => h, fun _ h => h, fun _ _ _ h => h⟩
theorem Stp.trans (a : Stp H as H1 as1) (b : Stp H1 as1 H2 as2) : Stp H as H2 as2 := by
  obtain ⟨n1, rfl, f1⟩ := a.pre
  obtain ⟨n2, rfl, f2⟩ := b.pre
  refine ⟨⟨n1 ++ n2, by rw [List.append_assoc], fun c hc => ?_⟩, fun c o h hn => ?_, fun c h => a.so c (b.so c h), fun c o u h => b.fz c o u (a.fz c o u h)⟩
  · rcases List.mem_append.mp hc with h | h
    · exact f1 c h
    · exact a.so c (f2 c h)
  · refine b.fr c o (a.fr c o h hn) fun hm => ?_
    rcases List.mem_append.mp hm with h' | h'
    · exact hn h'
    · rw [f1 c h'] at h; cases h
theorem Stp.at_ (a : Stp H as H1 as1) {n : Nat} {b : Addr} (h : as[n]? = some b) : as1[n]? = some b := by
  obtain ⟨n1, rfl, _⟩ := a.pre
  rw [List.getElem?_append_left (List.getElem?_eq_some_iff.mp h).1]
  exact h

/-- our objects are no tuples and no locked lists -/
theorem RS.ntup (r : RS P H as st) {a : Addr} (h : a ∈ as) : (∃ vs, H a = some (.lst vs)) ∨ (∃ k, H a = some (.dK k)) ∨ ∃ o k, H a = some (.frz o (.dK k)) := by
  obtain ⟨n, hn⟩ := List.mem_iff_getElem?.mp h
  have hl : n < st.length := by rw [← r.len]; exact (List.getElem?_eq_some_iff.mp hn).1
  obtain ⟨b, hb, ro⟩ := r.ob n st[n] (by simp [hl])
  rw [hn] at hb; cases hb
  cases e : st[n] with
  | lst xs => rw [e] at ro; obtain ⟨vs, h1, _⟩ := ro; exact .inl ⟨vs, h1⟩
  | dct k => rw [e] at ro; obtain ⟨vs, h1, _⟩ := ro; exact .inr (.inl ⟨vs, h1⟩)
  | lok k => rw [e] at ro; obtain ⟨o, vs, h1, _⟩ := ro; exact .inr (.inr ⟨o, vs, h1⟩)
theorem RS.tup (r : RS P H as st) (s : Stp H as H' as') {a : Addr} {vs : List V} (h : SqT P.K H a vs) : SqT P.K H' a vs := by
  rcases h with (h | ⟨o, h⟩) | h
  · refine .inl (.inl (s.fr _ _ h fun hm => ?_))
    rcases r.ntup hm with ⟨_, z⟩ | ⟨_, z⟩ | ⟨_, _, z⟩ <;> (rw [h] at z; cases z)
  · refine .inl (.inr ⟨o, s.fr _ _ h fun hm => ?_⟩)
    rcases r.ntup hm with ⟨_, z⟩ | ⟨_, z⟩ | ⟨_, _, z⟩ <;> (rw [h] at z; cases z)
  · exact .inr h
theorem RS.rol (r : RS P H as st) (s : Stp H as H' as') {a : Addr} {vs : List V} (h : SqR P.K H a vs) : SqR P.K H' a vs := by
  rcases h with ⟨o, h⟩ | h
  · refine .inl ⟨o, s.fr _ _ h fun hm => ?_⟩
    rcases r.ntup hm with ⟨_, z⟩ | ⟨_, z⟩ | ⟨_, _, z⟩ <;> (rw [h] at z; cases z)
  · exact .inr h

/-- a general change of heap and places -/
structure Mv (P : Pm) (H : Hp) (as : List Addr) (H' : Hp) (as' : List Addr) : Prop where
  t : ∀ a vs, SqT P.K H a vs → SqT P.K H' a vs
  r : ∀ a vs, SqR P.K H a vs → SqR P.K H' a vs
  at_ : ∀ (n : Nat) (b : Addr), as[n]? = some b → as'[n]? = some b
theorem RS.mv (r : RS P H as st) (s : Stp H as H' as') : Mv P H as H' as' := ⟨fun _ _ h => r.tup s h, fun _ _ h => r.rol s h, fun _ _ h => s.at_ h⟩
mutual
theorem RD.mv (m : Mv P H as H' as') : ∀ (d : D) (v : V), RD P H as d v → RD P H' as' d v
  | .non, _, h => h
  | .bl _, _, h => h
  | .int _, _, h => h
  | .str _, _, h => h
  | .tup xs, _, ⟨a, vs, e, h1, h2⟩ => ⟨a, vs, e, m.t a vs h1, RDs.mv m xs vs h2⟩
  | .rol xs, _, ⟨a, vs, e, h1, h2⟩ => ⟨a, vs, e, m.r a vs h1, RDs.mv m xs vs h2⟩
  | .ref n, _, ⟨a, e, h⟩ => ⟨a, e, m.at_ n a h⟩
  | .fn _, _, h => h
theorem RDs.mv (m : Mv P H as H' as') : ∀ (ds : List D) (vs : List V), RDs P H as ds vs → RDs P H' as' ds vs
  | [], _, h => h
  | x :: xs, _, ⟨v, ws, e, h1, h2⟩ => ⟨v, ws, e, RD.mv m x v h1, RDs.mv m xs ws h2⟩
end
theorem RKs.mv (m : Mv P H as H' as') {kvs : List (Key × D)} {kus : List (Key × V)} (h : RKs P H as kvs kus) : RKs P H' as' kvs kus := ⟨h.1, RDs.mv m _ _ h.2⟩
theorem RE.mv (m : Mv P H as H' as') {env : En} {σ : L2.St} (h : RE P H as env σ) : RE P H' as' env σ := ⟨h.len, fun i d e => by
  obtain ⟨v, h1, h2⟩ := h.at_ i d e
  exact ⟨v, h1, RD.mv m d v h2⟩⟩

theorem RDs.length : ∀ {ds : List D} {vs : List V}, RDs P H as ds vs → ds.length = vs.length
  | [], _, h => by cases h; rfl
  | _ :: _, _, ⟨_, _, e, _, h⟩ => by subst e; simp [RDs.length h]
theorem RDs.get : ∀ {ds : List D} {vs : List V} {i : Nat} {d : D}, RDs P H as ds vs → ds[i]? = some d → ∃ v, vs[i]? = some v ∧ RD P H as d v
  | [], _, _, _, _, h => by simp at h
  | _ :: _, _, 0, _, ⟨v, _, e, h1, _⟩, h => by subst e; simp at h; subst h; exact ⟨v, rfl, h1⟩
  | _ :: _, _, i + 1, _, ⟨_, _, e, _, h2⟩, h => by
    subst e
    obtain ⟨v, q1, q2⟩ := RDs.get (i := i) h2 (by simpa using h)
    exact ⟨v, by simpa using q1, q2⟩
theorem RDs.app : ∀ {ds es : List D} {vs us : List V}, RDs P H as ds vs → RDs P H as es us → RDs P H as (ds ++ es) (vs ++ us)
  | [], _, _, _, h, g => by cases h; exact g
  | _ :: _, _, _, _, ⟨v, ws, e, h1, h2⟩, g => by subst e; exact ⟨v, ws ++ _, rfl, h1, RDs.app h2 g⟩
theorem RDs.set : ∀ {ds : List D} {vs : List V} {d : D} {v : V} (i : Nat), RD P H as d v → RDs P H as ds vs → RDs P H as (ds.set i d) (vs.set i v)
  | [], _, _, _, _, _, h => by cases h; rfl
  | _ :: _, _, _, _, 0, g, ⟨v, ws, e, h1, h2⟩ => by subst e; exact ⟨_, ws, rfl, g, h2⟩
  | _ :: _, _, _, _, i + 1, g, ⟨v, ws, e, h1, h2⟩ => by subst e; exact ⟨v, _, rfl, h1, RDs.set i g h2⟩
theorem RDs.drop : ∀ {ds : List D} {vs : List V} (i : Nat), RDs P H as ds vs → RDs P H as (ds.drop i) (vs.drop i)
  | _, _, 0, h => h
  | [], _, _ + 1, h => by cases h; rfl
  | _ :: _, _, i + 1, ⟨_, _, e, _, h⟩ => by subst e; exact RDs.drop i h
theorem RDs.take : ∀ {ds : List D} {vs : List V} (i : Nat), RDs P H as ds vs → RDs P H as (ds.take i) (vs.take i)
  | _, _, 0, _ => rfl
  | [], _, _ + 1, h => by cases h; rfl
  | _ :: _, _, i + 1, ⟨v, ws, e, h1, h⟩ => by subst e; exact ⟨v, _, rfl, h1, RDs.take i h⟩
theorem RDs.one {d : D} {v : V} (h : RD P H as d v) : RDs P H as [d] [v] := ⟨v, [], rfl, h, rfl⟩
theorem RDs.rep {ds : List D} {vs : List V} (h : RDs P H as ds vs) : ∀ n : Nat, RDs P H as (List.replicate n ds).flatten (List.replicate n vs).flatten
  | 0 => rfl
  | n + 1 => by rw [List.replicate_succ, List.replicate_succ, List.flatten_cons, List.flatten_cons]; exact h.app (RDs.rep h n)
theorem RDs.ints : ∀ {ns : List Int} {vs : List V}, RDs P H as (ns.map D.int) vs → vs = ns.map V.int
  | [], _, h => h
  | n :: ns, _, ⟨v, ws, e, h1, h2⟩ => by subst e; cases h1; rw [RDs.ints h2]; rfl
theorem RDs.bls : ∀ {ns : List Bool} {vs : List V}, RDs P H as (ns.map D.bl) vs → vs = ns.map V.bl
  | [], _, h => h
  | n :: ns, _, ⟨v, ws, e, h1, h2⟩ => by subst e; cases h1; rw [RDs.bls h2]; rfl

/-! ### the store changed -/
/-- a new object of ours -/
theorem RS.alloc (r : RS P H as st) {p : Addr} (hp : H p = none) {o : HO} {m : MO} (ho : RO P (upd H p o) (as ++ [p]) p m) :
    Stp H as (upd H p o) (as ++ [p]) ∧ RS P (upd H p o) (as ++ [p]) (st ++ [m]) := by
  have s : Stp H as (upd H p o) (as ++ [p]) := ⟨⟨[p], rfl, fun b hb => by rw [List.mem_singleton.mp hb]; exact hp⟩, fun b u h _ => by rw [upd_ne (ne_of_none h hp)]; exact h, fun b h => by
    by_cases e : b = p
    · rw [e]; exact hp
    · rw [upd_ne e] at h; exact h, fun b x u h => by rw [upd_ne (ne_of_none h hp)]; exact h⟩
  have hm : p ∉ as := fun hm => by rcases r.ntup hm with ⟨_, z⟩ | ⟨_, z⟩ | ⟨_, _, z⟩ <;> (rw [hp] at z; cases z)
  have mv := r.mv s
  refine ⟨s, by simp [r.len], List.nodup_append.mpr ⟨r.nd, by simp, fun a ha b hb => by rw [List.mem_singleton.mp hb]; rintro rfl; exact hm ha⟩, fun n q h => ?_⟩
  by_cases hn : n < st.length
  · rw [List.getElem?_append_left hn] at h
    obtain ⟨a, h1, h2⟩ := r.ob n q h
    have ha : a ∈ as := List.mem_of_getElem? h1
    have hne : a ≠ p := fun e => hm (e ▸ ha)
    refine ⟨a, s.at_ h1, ?_⟩
    cases q with
    | lst xs => obtain ⟨vs, e, z⟩ := h2; exact ⟨vs, by rw [upd_ne hne]; exact e, RDs.mv mv _ _ z⟩
    | dct xs => obtain ⟨vs, e, z⟩ := h2; exact ⟨vs, by rw [upd_ne hne]; exact e, z.mv mv⟩
    | lok xs => obtain ⟨u, vs, e, z⟩ := h2; exact ⟨u, vs, by rw [upd_ne hne]; exact e, z.mv mv⟩
  · have hn2 : n = st.length := by
      have := (List.getElem?_eq_some_iff.mp h).1
      simp at this; omega
    subst hn2
    rw [List.getElem?_append_right (Nat.le_refl _), Nat.sub_self] at h
    simp at h; subst h
    exact ⟨p, by rw [← r.len, List.getElem?_append_right (Nat.le_refl _), Nat.sub_self]; rfl, ho⟩
/-- a new tuple: none of ours -/
theorem Stp.new (r : RS P H as st) {p : Addr} (hp : H p = none) (o : HO) : Stp H as (upd H p o) as := ⟨⟨[], by simp, by simp⟩, fun b u h _ => by rw [upd_ne (ne_of_none h hp)]; exact h, fun b h => by
    by_cases e : b = p
    · rw [e]; exact hp
    · rw [upd_ne e] at h; exact h, fun b x u h => by rw [upd_ne (ne_of_none h hp)]; exact h⟩
/-- the same store behind a step in which our objects stand as they stood -/
theorem RS.keep (r : RS P H as st) (s : Stp H as H' as) (h : ∀ a ∈ as, H' a = H a) : RS P H' as st := ⟨r.len, r.nd, fun n q e => by
  have mv := r.mv s
  obtain ⟨a, h1, h2⟩ := r.ob n q e
  have ha := h a (List.mem_of_getElem? h1)
  refine ⟨a, h1, ?_⟩
  cases q with
  | lst xs => obtain ⟨vs, e, z⟩ := h2; exact ⟨vs, by rw [ha]; exact e, RDs.mv mv _ _ z⟩
  | dct xs => obtain ⟨vs, e, z⟩ := h2; exact ⟨vs, by rw [ha]; exact e, z.mv mv⟩
  | lok xs => obtain ⟨u, vs, e, z⟩ := h2; exact ⟨u, vs, by rw [ha]; exact e, z.mv mv⟩⟩
theorem RS.new (r : RS P H as st) {p : Addr} (hp : H p = none) (o : HO) : Stp H as (upd H p o) as ∧ RS P (upd H p o) as st := by
  have s := Stp.new r hp o
  refine ⟨s, r.keep s fun a ha => upd_ne ?_⟩
  rintro rfl
  rcases r.ntup ha with ⟨_, z⟩ | ⟨_, z⟩ | ⟨_, _, z⟩ <;> (rw [hp] at z; cases z)
/-- an object of ours written -/
theorem RS.mvw (r : RS P H as st) {n : Nat} {a : Addr} (ha : as[n]? = some a) (o : HO) : Mv P H as (upd H a o) as := by
  have hm : a ∈ as := List.mem_of_getElem? ha
  refine ⟨fun b vs h => ?_, fun b vs h => ?_, fun _ _ h => h⟩
  · rcases h with (h | ⟨x, h⟩) | h
    · refine .inl (.inl ?_)
      rw [upd_ne (show b ≠ a from fun e => ?_)]; exact h
      subst e
      rcases r.ntup hm with ⟨_, z⟩ | ⟨_, z⟩ | ⟨_, _, z⟩ <;> (rw [h] at z; cases z)
    · refine .inl (.inr ⟨x, ?_⟩)
      rw [upd_ne (show b ≠ a from fun e => ?_)]; exact h
      subst e
      rcases r.ntup hm with ⟨_, z⟩ | ⟨_, z⟩ | ⟨_, _, z⟩ <;> (rw [h] at z; cases z)
    · exact .inr h
  · rcases h with ⟨x, h⟩ | h
    · refine .inl ⟨x, ?_⟩
      rw [upd_ne (show b ≠ a from fun e => ?_)]; exact h
      subst e
      rcases r.ntup hm with ⟨_, z⟩ | ⟨_, z⟩ | ⟨_, _, z⟩ <;> (rw [h] at z; cases z)
    · exact .inr h
theorem RS.writeR (r : RS P H as st) {n : Nat} {a : Addr} (ha : as[n]? = some a) {o : HO} {m : MO} (ho : Mv P H as (upd H a o) as → RO P (upd H a o) as a m) : RS P (upd H a o) as (st.set n m) := by
  have mv := r.mvw ha o
  refine ⟨by simp [r.len], r.nd, fun k q h => ?_⟩
  by_cases hk : k = n
  · subst hk
    have hl : k < st.length := by rw [← r.len]; exact (List.getElem?_eq_some_iff.mp ha).1
    rw [List.getElem?_set_self hl] at h
    cases h
    exact ⟨a, ha, ho mv⟩
  · rw [List.getElem?_set_ne (Ne.symm hk)] at h
    obtain ⟨b, h1, h2⟩ := r.ob k q h
    have hne : b ≠ a := by
      rintro rfl
      obtain ⟨l1, e1⟩ := List.getElem?_eq_some_iff.mp h1
      obtain ⟨l2, e2⟩ := List.getElem?_eq_some_iff.mp ha
      exact hk ((List.getElem_inj r.nd).mp (e1.trans e2.symm))
    refine ⟨b, h1, ?_⟩
    cases q with
    | lst xs => obtain ⟨vs, e, z⟩ := h2; exact ⟨vs, by rw [upd_ne hne]; exact e, RDs.mv mv _ _ z⟩
    | dct xs => obtain ⟨vs, e, z⟩ := h2; exact ⟨vs, by rw [upd_ne hne]; exact e, z.mv mv⟩
    | lok xs => obtain ⟨u, vs, e, z⟩ := h2; exact ⟨u, vs, by rw [upd_ne hne]; exact e, z.mv mv⟩
theorem Stp.write {n : Nat} {a : Addr} (ha : as[n]? = some a) (hf : ∀ o u, H a ≠ some (.frz o u)) (o : HO) : Stp H as (upd H a o) as := by
  have hm : a ∈ as := List.mem_of_getElem? ha
  exact ⟨⟨[], by simp, by simp⟩, fun b u h hb => by rw [upd_ne (fun (e : b = a) => hb (e ▸ hm))]; exact h, fun b h => by
    by_cases e : b = a
    · rw [e, upd_same] at h; cases h
    · rw [upd_ne e] at h; exact h, fun b x u h => by rw [upd_ne (fun (e : b = a) => hf x u (e ▸ h))]; exact h⟩
theorem RS.write (r : RS P H as st) {n : Nat} {a : Addr} (ha : as[n]? = some a) (hf : ∀ o u, H a ≠ some (.frz o u)) {o : HO} {m : MO} (ho : Mv P H as (upd H a o) as → RO P (upd H a o) as a m) :
    Stp H as (upd H a o) as ∧ RS P (upd H a o) as (st.set n m) := ⟨Stp.write ha hf o, r.writeR ha ho⟩
end

/-! ### outcomes -/
inductive Out (α : Type) where
  | ok (a : α) (st : Sto) | exc (c : Nat) (st : Sto) | stk
def Out.bind {α β : Type} (o : Out α) (f : α → Sto → Out β) : Out β := match o with
  | .ok a st => f a st
  | .exc c st => .exc c st
  | .stk => .stk
@[simp] theorem Out.bind_ok {α β : Type} (a : α) (st : Sto) (f : α → Sto → Out β) : (Out.ok a st).bind f = f a st := rfl
@[simp] theorem Out.bind_exc {α β : Type} (c : Nat) (st : Sto) (f : α → Sto → Out β) : (Out.exc c st : Out α).bind f = .exc c st := rfl
@[simp] theorem Out.bind_stk {α β : Type} (f : α → Sto → Out β) : (Out.stk : Out α).bind f = .stk := rfl

/-- what an outcome promises: R speaks of the value, E of an exception -/
def OOk {α β : Type} (P : Pm) (H : Hp) (as : List Addr) (rel : Hp → List Addr → α → β → Prop) (o : Out α) (Q : β → Hp → Prop) (E : Addr → Hp → Prop) : Prop :=
  match o with
  | .ok d st' => ∀ v H' as', Stp H as H' as' → RS P H' as' st' → rel H' as' d v → Q v H'
  | .exc c st' => ∀ H' as' C, Stp H as H' as' → RS P H' as' st' → P.ec c = some C → E C H'
  | .stk => False

abbrev RDr (P : Pm) : Hp → List Addr → D → V → Prop := fun H as d v => RD P H as d v
abbrev RDsr (P : Pm) : Hp → List Addr → List D → List V → Prop := fun H as d v => RDs P H as d v
abbrev RBr : Hp → List Addr → Bool → Bool → Prop := fun _ _ b c => c = b

def tG {α β : Type} (P : Pm) (W : WX) (rel : Hp → List Addr → α → β → Prop) (f : En → Sto → Out α) : L2.St → Hp → (β → Hp → Prop) → Prop := fun σ H Q =>
  ∃ env st as, RS P H as st ∧ RE P H as env σ ∧ OOk P H as rel (f env st) Q fun C H' => W (.ref C) none σ H'
abbrev tO (P : Pm) (W : WX) (f : En → Sto → Out D) : TE := tG P W (RDr P) f
abbrev tT (P : Pm) (W : WX) (f : En → Sto → Out Bool) : TT := tG P W RBr f
abbrev tA (P : Pm) (W : WX) (f : En → Sto → Out (List D)) : TA := tG P W (RDsr P) f

theorem OOk.step {α β : Type} {P : Pm} {H H1 : Hp} {as as1 : List Addr} {rel : Hp → List Addr → α → β → Prop} {o : Out α} {Q : β → Hp → Prop} {E : Addr → Hp → Prop} (s : Stp H as H1 as1) (h : OOk P H as rel o Q E) : OOk P H1 as1 rel o Q E := by
  cases o with
  | ok d st' => exact fun v H' as' s' r d' => h v H' as' (s.trans s') r d'
  | exc c st' => exact fun H' as' C s' r e => h H' as' C (s.trans s') r e
  | stk => exact h
theorem OOk.imp {α β : Type} {P : Pm} {H : Hp} {as : List Addr} {rel : Hp → List Addr → α → β → Prop} {o : Out α} {Q Q' : β → Hp → Prop} {E E' : Addr → Hp → Prop} (h : OOk P H as rel o Q E) (hQ : ∀ v H', Q v H' → Q' v H') (hE : ∀ C H', E C H' → E' C H') : OOk P H as rel o Q' E' := by
  cases o with
  | ok d st' => exact fun v H' as' s' r d' => hQ _ _ (h v H' as' s' r d')
  | exc c st' => exact fun H' as' C s' r e => hE _ _ (h H' as' C s' r e)
  | stk => exact h

/-- one after another -/
theorem tG.bind {α β γ δ : Type} {P : Pm} {W : WX} {rel : Hp → List Addr → α → β → Prop} {rel2 : Hp → List Addr → γ → δ → Prop} {f : En → Sto → Out α} {g : α → En → Sto → Out γ} {σ : L2.St} {H : Hp} {Q : δ → Hp → Prop}
    (h : tG P W rel2 (fun env st => (f env st).bind fun d st1 => g d env st1) σ H Q) :
    tG P W rel f σ H fun x H1 => ∃ d env st1 as1, RS P H1 as1 st1 ∧ RE P H1 as1 env σ ∧ rel H1 as1 d x ∧ OOk P H1 as1 rel2 (g d env st1) Q fun C H' => W (.ref C) none σ H' := by
  obtain ⟨env, st, as, r, re, h⟩ := h
  refine ⟨env, st, as, r, re, ?_⟩
  cases e : f env st with
  | stk => simp only [e, Out.bind_stk] at h; exact h
  | exc c st1 => simp only [e, Out.bind_exc] at h; exact h
  | ok d st1 =>
    simp only [e, Out.bind_ok] at h
    exact fun v H1 as1 s r1 rd => ⟨d, env, st1, as1, r1, re.mv (r.mv s), rd, OOk.step s h⟩

theorem PE.imp {X : Cx} {e : Expr} {t t' : TE} (h : PE X e t) (i : ∀ σ H Q, t' σ H Q → t σ H Q) : PE X e t' := ⟨fun pins s σ H Q I hw => h.run pins s σ H Q I (i σ H Q hw)⟩
theorem PT.imp {X : Cx} {e : Expr} {t t' : TT} (h : PT X e t) (i : ∀ σ H Q, t' σ H Q → t σ H Q) : PT X e t' := ⟨fun pins s σ H Q I hw => h.run pins s σ H Q I (i σ H Q hw)⟩
theorem PW.imp {X : Cx} {e : Expr} {t t' : TT} (h : PW X e t) (i : ∀ σ H Q, t' σ H Q → t σ H Q) : PW X e t' := ⟨fun whole pins s σ H Q I hw => h.run whole pins s σ H Q I (i σ H Q hw)⟩
theorem PA.imp {X : Cx} {e : List Expr} {t t' : TA} (h : PA X e t) (i : ∀ σ H Q, t' σ H Q → t σ H Q) : PA X e t' := ⟨fun pos pins s σ H Q I hw => h.run pos pins s σ H Q I (i σ H Q hw)⟩
theorem PS.imp {X : Cx} {e : Stmt} {t t' : TS} (h : PS X e t) (i : ∀ D σ H, t' D σ H → t D σ H) : PS X e t' := ⟨fun pins s σ H D I hw => h.run pins s σ H D I (i D σ H hw)⟩
theorem PSs.imp {X : Cx} {e : List Stmt} {t t' : TS} (h : PSs X e t) (i : ∀ D σ H, t' D σ H → t D σ H) : PSs X e t' := ⟨fun pins s σ H D I hw => h.run pins s σ H D I (i D σ H hw)⟩
end Ev
end

section
set_option Elab.async false
set_option linter.all false
set_option maxRecDepth 100000
set_option autoImplicit false
/-! Ev2: the evaluator -/
namespace Ev
open PySem L2
abbrev SZ : Nat := 16777216

mutual
def D.beq : D → D → Bool
  | .non, .non => true
  | .bl a, .bl b => a == b
  | .int a, .int b => a == b
  | .str a, .str b => decide (a = b)
  | .tup xs, .tup ys => D.beqs xs ys
  | .rol xs, .rol ys => D.beqs xs ys
  | .ref a, .ref b => a == b
  | .fn a, .fn b => a == b
  | _, _ => false
def D.beqs : List D → List D → Bool
  | [], [] => true
  | x :: xs, y :: ys => D.beq x y && D.beqs xs ys
  | _, _ => false
end
mutual
theorem D.beq_eq : ∀ {a b : D}, D.beq a b = true → a = b := fun {a b} h => by
  cases a <;> cases b <;> simp [D.beq] at h <;> first | rfl | (subst h; rfl) | (rw [D.beqs_eq h])
theorem D.beqs_eq : ∀ {a b : List D}, D.beqs a b = true → a = b := fun {a b} h => by
  cases a <;> cases b <;> simp [D.beqs] at h
  · rfl
  · rw [D.beq_eq h.1, D.beqs_eq h.2]
end
mutual
theorem D.beq_refl : ∀ a : D, D.beq a a = true
  | .non => rfl
  | .bl a => by simp [D.beq]
  | .int a => by simp [D.beq]
  | .str a => by simp [D.beq]
  | .tup xs => by simp [D.beq, D.beqs_refl xs]
  | .rol xs => by simp [D.beq, D.beqs_refl xs]
  | .ref a => by simp [D.beq]
  | .fn a => by simp [D.beq]
theorem D.beqs_refl : ∀ a : List D, D.beqs a a = true
  | [] => rfl
  | x :: xs => by simp [D.beqs, D.beq_refl x, D.beqs_refl xs]
end
instance : DecidableEq D := fun a b => if h : D.beq a b = true then isTrue (D.beq_eq h) else isFalse fun e => h (e ▸ D.beq_refl a)
instance : DecidableEq MO := fun a b => match a, b with
  | .lst x, .lst y => if h : x = y then isTrue (h ▸ rfl) else isFalse fun e => h (MO.lst.inj e)
  | .dct x, .dct y => if h : x = y then isTrue (h ▸ rfl) else isFalse fun e => h (MO.dct.inj e)
  | .lok x, .lok y => if h : x = y then isTrue (h ▸ rfl) else isFalse fun e => h (MO.lok.inj e)
  | .lst _, .dct _ => isFalse nofun
  | .lst _, .lok _ => isFalse nofun
  | .dct _, .lst _ => isFalse nofun
  | .dct _, .lok _ => isFalse nofun
  | .lok _, .lst _ => isFalse nofun
  | .lok _, .dct _ => isFalse nofun

/-! ### plain data of a value -/
def toP (st : Sto) : Nat → D → Option PyData
  | 0, _ => none
  | _ + 1, .non => some .none
  | _ + 1, .bl b => some (.bool b)
  | _ + 1, .int i => some (.int i)
  | _ + 1, .str x => if PyData.strOk x then some (.str x) else none
  | n + 1, .tup xs => (xs.mapM (toP st n)).map .tuple
  | n + 1, .rol xs => (xs.mapM (toP st n)).map .list
  | n + 1, .ref k => match st[k]? with
    | some (.lst xs) => (xs.mapM (toP st n)).map .list
    | _ => none
  | _ + 1, .fn _ => none

/-! ### what stays behind a def -/
mutual
def closed (n : Nat) : D → Bool
  | .tup xs => closeds n xs
  | .rol xs => closeds n xs
  | .ref k => decide (k < n)
  | _ => true
def closeds (n : Nat) : List D → Bool
  | [] => true
  | x :: xs => closed n x && closeds n xs
end
def closedO (n : Nat) : MO → Bool
  | .lst xs => closeds n xs
  | .dct kvs => closeds n (kvs.map (·.2))
  | .lok kvs => closeds n (kvs.map (·.2))
/-- what the value leads to is kept, the rest of what is new is forgotten -/
def gc (n : Nat) (d : D) (st : Sto) : Out D :=
  if (st.take n).all (closedO n) = true then
    if closed n d = true then .ok d (st.take n) else match d with
      | .ref k => match st[k]? with
        | some o => if closedO n o = true ∧ n ≤ k then .ok (.ref n) (st.take n ++ [o]) else .ok d st
        | none => .ok d st
      | _ => .ok d st
  else .ok d st

/-! ### the syntax -/
inductive Bop | add | sub | mul | fdiv | mod | pow | shl | shr | band | bor | bxor
inductive Cop | eq | ne | lt | le | gt | ge | isin | notin
inductive Bi | len | abs | int | tuple | list | sum | all | any | sortK | sortI | repr | isI (T : String)
inductive Mt | append | extend | pop
mutual
inductive G where
  | n (i : Nat) | t (gs : GL)
inductive GL where
  | nil | cons (g : G) (gs : GL)
end
mutual
inductive E where
  | v (i : Nat) | k (d : D) | tup (es : EL) | lst (es : EL) | dct (ks : List Str) (es : EL)
  | op (o : Bop) (a b : E) | cmp (o : Cop) (a b : E) | isN (a : E) | notN (a : E)
  | and (a b : E) | or (a b : E) | not (a : E) | ifx (c a b : E)
  | call (f : Nat) (es : EL) | bi (b : Bi) (e : E) | mth0 (m : Mt) (o : E) | mth1 (m : Mt) (o e : E)
  | get1 (o k : E) | get2 (o k d : E)
  | ix (a i : E) | sl (a : E) (lo hi : EO)
  | lc (elt : E) (g : G) (it : I) (c : EO) (own : List Nat)
inductive EL where
  | nil | cons (e : E) (es : EL)
inductive EO where
  | no | so (e : E)
inductive I where
  | of (e : E) | r1 (e : E) | r2 (a b : E) | r3 (a b c : E) | en (e : E) | zi (a b : E)
end
mutual
inductive S where
  | ex (e : E) | set (g : G) (e : E) | par2 (i j : Nat) (a b : E) | par3 (i j k : Nat) (a b c : E) | setIx (o i e : E) | aug (i : Nat) (o : Bop) (e : E) | augIx (a i : E) (o : Bop) (e : E)
  | ife (c : E) (a b : SL) | forI (g : G) (it : I) (b : SL) | forD (g : G) (i : Nat) (b : SL) | wh (c : E) (b : SL)
  | ret (e : E) | retN | brk | cont | pass | raise (c : Nat) | try_ (b : SL) (c : Nat) (h : SL)
inductive SL where
  | nil | cons (s : S) (ss : SL)
end

/-! ### values -/
def atD (xs : List D) (i : Int) : Option D := atI xs i
def cutD (xs : List D) (lo hi : Option Int) : List D := (xs.drop (HT.sIx xs.length 0 lo)).take (HT.sIx xs.length xs.length hi - HT.sIx xs.length 0 lo)
def newL (xs : List D) (st : Sto) : Out D := if xs.length ≤ SZ then .ok (.ref st.length) (st ++ [.lst xs]) else .stk

def evAdd : D → D → Sto → Out D
  | .int i, .int j, st => .ok (.int (i + j)) st
  | .str x, .str y, st => if x.length + y.length ≤ SZ then .ok (.str (x ++ y)) st else .stk
  | .tup xs, .tup ys, st => if xs.length + ys.length ≤ SZ then .ok (.tup (xs ++ ys)) st else .stk
  | .ref n, .ref m, st => match st[n]?, st[m]? with
    | some (.lst xs), some (.lst ys) => newL (xs ++ ys) st
    | _, _ => .stk
  | _, _, _ => .stk
def evSub : D → D → Sto → Out D
  | .int i, .int j, st => .ok (.int (i - j)) st
  | _, _, _ => .stk
def evMul : D → D → Sto → Out D
  | .int i, .int j, st => if i.natAbs.log2 + j.natAbs.log2 < 1000000 then .ok (.int (i * j)) st else .stk
  | .tup xs, .int k, st => if -1000 ≤ k ∧ k ≤ 1000 ∧ xs.length ≤ 1000 then .ok (.tup (List.replicate k.toNat xs).flatten) st else .stk
  | .ref n, .int k, st => match st[n]? with
    | some (.lst xs) => if -1000 ≤ k ∧ k ≤ 1000 ∧ xs.length ≤ 1000 then newL (List.replicate k.toNat xs).flatten st else .stk
    | _ => .stk
  | _, _, _ => .stk
def evFdiv : D → D → Sto → Out D
  | .int i, .int j, st => if 0 < j ∧ j.natAbs.log2 < 9000 then .ok (.int (i / j)) st else .stk
  | _, _, _ => .stk
def evMod : D → D → Sto → Out D
  | .int i, .int j, st => if j ≠ 0 then .ok (.int (i.fmod j)) st else .stk
  | _, _, _ => .stk
def evPow : D → D → Sto → Out D
  | .int i, .int j, st => if 0 ≤ j ∧ j ≤ 1000000 ∧ i.natAbs < 2 ^ 64 then .ok (.int (i ^ j.toNat)) st else .stk
  | _, _, _ => .stk
def evShl : D → D → Sto → Out D
  | .int i, .int j, st => if 0 ≤ j ∧ (Builtin.Int.intBits i : Int) + j ≤ 2 ^ 27 then .ok (.int (i * 2 ^ j.toNat)) st else .stk
  | _, _, _ => .stk
def evShr : D → D → Sto → Out D
  | .int i, .int j, st => if 0 ≤ j then .ok (.int (i / 2 ^ j.toNat)) st else .stk
  | _, _, _ => .stk
def evBand : D → D → Sto → Out D
  | .int i, .int j, st => .ok (.int (Builtin.bitAnd i j)) st
  | _, _, _ => .stk
def evBor : D → D → Sto → Out D
  | .int i, .int j, st => .ok (.int (Builtin.bitOr i j)) st
  | _, _, _ => .stk
def evBxor : D → D → Sto → Out D
  | .int i, .int j, st => .ok (.int (Builtin.bitXor i j)) st
  | _, _, _ => .stk
def evOp : Bop → D → D → Sto → Out D
  | .add => evAdd
  | .sub => evSub
  | .mul => evMul
  | .fdiv => evFdiv
  | .mod => evMod
  | .pow => evPow
  | .shl => evShl
  | .shr => evShr
  | .band => evBand
  | .bor => evBor
  | .bxor => evBxor

/-- op= of ints -/
def evAug : Bop → D → D → Sto → Out D
  | .add, .int i, .int j, st => .ok (.int (i + j)) st
  | .sub, .int i, .int j, st => .ok (.int (i - j)) st
  | .mul, .int i, .int j, st => if -(2 ^ 64) < j ∧ j < 2 ^ 64 then .ok (.int (i * j)) st else .stk
  | .band, .int i, .int j, st => .ok (.int (Builtin.bitAnd i j)) st
  | .bor, .int i, .int j, st => .ok (.int (Builtin.bitOr i j)) st
  | .bxor, .int i, .int j, st => .ok (.int (Builtin.bitXor i j)) st
  | _, _, _, _ => .stk
def flatD : D → Option V
  | .non => some .non
  | .bl b => some (.bl b)
  | .int i => some (.int i)
  | .str x => some (.str x)
  | _ => none
/-- == -/
def eqD (st : Sto) (a b : D) : Option Bool := match a, b with
  | .int i, .int j => some (i == j)
  | .str x, .str y => some (decide (x = y))
  | .non, .non => some true
  | .bl a, .bl b => some (a == b)
  | _, _ => match toP st 64 a, toP st 64 b with
    | some p, some q => some (PyData.eqv p q)
    | _, _ => none
def itemsD (st : Sto) : D → Option (List D)
  | .tup xs => some xs
  | .rol xs => some xs
  | .ref n => match st[n]? with
    | some (.lst xs) => some xs
    | _ => none
  | _ => none
/-- x in xs: flat things -/
def inD (st : Sto) (a b : D) : Option Bool := match flatD a, itemsD st b with
  | some x, some ys => match ys.mapM flatD with
    | some us => some (inV x us)
    | none => none
  | _, _ => none
def evEq (a b : D) (st : Sto) : Out D := match eqD st a b with
  | some k => .ok (.bl k) st
  | none => .stk
def evNe (a b : D) (st : Sto) : Out D := match eqD st a b with
  | some k => .ok (.bl (!k)) st
  | none => .stk
def evLt : D → D → Sto → Out D
  | .int i, .int j, st => .ok (.bl (decide (i < j))) st
  | _, _, _ => .stk
def evLe : D → D → Sto → Out D
  | .int i, .int j, st => .ok (.bl (decide (i ≤ j))) st
  | _, _, _ => .stk
def evGt : D → D → Sto → Out D
  | .int i, .int j, st => .ok (.bl (decide (j < i))) st
  | _, _, _ => .stk
def evGe : D → D → Sto → Out D
  | .int i, .int j, st => .ok (.bl (decide (j ≤ i))) st
  | _, _, _ => .stk
def evIn (a b : D) (st : Sto) : Out D := match inD st a b with
  | some k => .ok (.bl k) st
  | none => .stk
def evNotIn (a b : D) (st : Sto) : Out D := match inD st a b with
  | some k => .ok (.bl (!k)) st
  | none => .stk
def evCmp : Cop → D → D → Sto → Out D
  | .eq => evEq
  | .ne => evNe
  | .lt => evLt
  | .le => evLe
  | .gt => evGt
  | .ge => evGe
  | .isin => evIn
  | .notin => evNotIn

def truD (st : Sto) : D → Option Bool
  | .non => some false
  | .bl b => some b
  | .int i => some (i != 0)
  | .str x => if x.length ≤ SZ then some ((x.length : Int) != 0) else none
  | .tup xs => some (!xs.isEmpty)
  | .rol xs => some (!xs.isEmpty)
  | .ref n => match st[n]? with
    | some (.lst xs) => some (!xs.isEmpty)
    | some (.dct xs) => some (!xs.isEmpty)
    | _ => none
  | .fn _ => none

def intsD : List D → Option (List Int)
  | [] => some []
  | .int i :: r => (intsD r).map (i :: ·)
  | _ => none
def blsD : List D → Option (List Bool)
  | [] => some []
  | .bl i :: r => (blsD r).map (i :: ·)
  | _ => none
/-- ascending -/
def insI (x : Int) : List Int → List Int
  | [] => [x]
  | y :: ys => if x ≤ y then x :: y :: ys else y :: insI x ys
def sortInts : List Int → List Int
  | [] => []
  | x :: xs => insI x (sortInts xs)
def keyInts : List (Key × D) → Option (List Int)
  | [] => some []
  | (.inl i, _) :: r => (keyInts r).map (i :: ·)
  | _ => none
def lookK (kvs : List (Key × D)) (k : Key) : Option D := (kvs.find? fun p => decide (p.1 = k)).map (·.2)
def putD (kvs : List (Key × D)) (k : Key) (d : D) : List (Key × D) :=
  if (kvs.any fun p => decide (p.1 = k)) = true then kvs.map (fun p => if p.1 = k then (p.1, d) else p) else kvs ++ [(k, d)]
/-- the pairs of a dict of ints by ascending keys -/
def sortPairs (kvs : List (Key × D)) (ks : List Int) : List D := ks.map fun k => .tup [.int k, (lookK kvs (.inl k)).getD .non]
def keyD : D → Option Key
  | .int i => some (.inl i)
  | .str x => some (.inr x)
  | _ => none
def dictAt (st : Sto) (d : D) : Option (List (Key × D)) := match d with
  | .ref n => match st[n]? with
    | some (.dct kvs) => some kvs
    | some (.lok kvs) => some kvs
    | _ => none
  | _ => none
def shownOk (p : PyData) : Bool := p.showable && decide (p.shown.length ≤ SZ)
def biLen : D → Sto → Out D
  | .str x, st => if x.length ≤ SZ then .ok (.int x.length) st else .stk
  | .ref n, st => match st[n]? with
    | some (.lst xs) => .ok (.int xs.length) st
    | some (.dct xs) => .ok (.int xs.length) st
    | _ => .stk
  | .tup xs, st => .ok (.int xs.length) st
  | .rol xs, st => .ok (.int xs.length) st
  | _, _ => .stk
def biAbs : D → Sto → Out D
  | .int i, st => .ok (.int (if i < 0 then -i else i)) st
  | _, _ => .stk
def biInt : D → Sto → Out D
  | .int i, st => .ok (.int i) st
  | .bl b, st => .ok (.int (if b then 1 else 0)) st
  | _, _ => .stk
def biTuple : D → Sto → Out D
  | d, st => match itemsD st d with
    | some xs => if xs.length ≤ SZ then .ok (.tup xs) st else .stk
    | none => .stk
def biList : D → Sto → Out D
  | d, st => match itemsD st d with
    | some xs => newL xs st
    | none => .stk
def biSum : D → Sto → Out D
  | .ref n, st => match st[n]? with
    | some (.lst xs) => match intsD xs with
      | some ns => .ok (.int ns.sum) st
      | none => .stk
    | _ => .stk
  | _, _ => .stk
def biAll : D → Sto → Out D
  | .ref n, st => match st[n]? with
    | some (.lst xs) => match blsD xs with
      | some ns => .ok (.bl (ns.all id)) st
      | none => .stk
    | _ => .stk
  | _, _ => .stk
def biAny : D → Sto → Out D
  | .ref n, st => match st[n]? with
    | some (.lst xs) => match blsD xs with
      | some ns => .ok (.bl (ns.any id)) st
      | none => .stk
    | _ => .stk
  | _, _ => .stk
def biSortK : D → Sto → Out D
  | .ref n, st => match st[n]? with
    | some (.dct kvs) => match keyInts kvs with
      | some ks => if ks.length < 64 then newL ((sortInts ks).map D.int) st else .stk
      | none => .stk
    | _ => .stk
  | _, _ => .stk
def biSortI : D → Sto → Out D
  | .ref n, st => match st[n]? with
    | some (.dct kvs) => match keyInts kvs, intsD (kvs.map (·.2)) with
      | some ks, some _ => if ks.length < 64 ∧ ks.Nodup then newL (sortPairs kvs (sortInts ks)) st else .stk
      | _, _ => .stk
    | _ => .stk
  | _, _ => .stk
def biRepr : D → Sto → Out D
  | d, st => match toP st 64 d with
    | some p => if shownOk p then .ok (.str p.shown) st else .stk
    | none => .stk
def tyN (st : Sto) : D → Option String
  | .non => some "NoneType"
  | .bl _ => some "bool"
  | .int _ => some "int"
  | .str _ => some "str"
  | .tup _ => some "tuple"
  | .rol _ => some "list"
  | .ref n => match st[n]? with
    | some (.lst _) => some "list"
    | some (.dct _) => some "dict"
    | _ => none
  | .fn _ => none
def biIs (T : String) (d : D) (st : Sto) : Out D := match tyN st d with
  | some t => match kitB t T with
    | some r => .ok (.bl r) st
    | none => .stk
  | none => .stk
def evBi0 : Bi → D → Sto → Out D
  | .len => biLen
  | .abs => biAbs
  | .int => biInt
  | .tuple => biTuple
  | .list => biList
  | .sum => biSum
  | .all => biAll
  | .any => biAny
  | .sortK => biSortK
  | .sortI => biSortI
  | .repr => biRepr
  | .isI T => biIs T
def evBi (b : Bi) (n : Nat) (d : D) (st : Sto) : Out D := (evBi0 b d st).bind fun r st' => gc n r st'
def evIx : D → D → Sto → Out D
  | d, .int i, st => match itemsD st d with
    | some xs => match atI xs i with
      | some x => .ok x st
      | none => .stk
    | none => match dictAt st d with
      | some kvs => match lookK kvs (.inl i) with
        | some x => .ok x st
        | none => .stk
      | none => .stk
  | d, .str x, st => match dictAt st d with
    | some kvs => match lookK kvs (.inr x) with
      | some y => .ok y st
      | none => .stk
    | none => .stk
  | _, _, _ => .stk
def evSl (d : D) (lo hi : Option Int) (st : Sto) : Out D := match d with
  | .tup xs => .ok (.tup (cutD xs lo hi)) st
  | d => match itemsD st d with
    | some xs => if xs.length ≤ SZ then newL (cutD xs lo hi) st else .stk
    | none => .stk
def isL (st : Sto) : D → Bool
  | .ref n => match st[n]? with
    | some (.lst _) => true
    | _ => false
  | _ => false
def isDc (st : Sto) (d : D) : Bool := (dictAt st d).isSome
def evMth0 : Mt → D → Sto → Out D
  | .pop, .ref n, st => match st[n]? with
    | some (.lst xs) => match xs[xs.length - 1]? with
      | some x => .ok x (st.set n (.lst xs.dropLast))
      | none => .stk
    | _ => .stk
  | _, _, _ => .stk
def evMth1 : Mt → D → D → Sto → Out D
  | .append, .ref n, e, st => match st[n]? with
    | some (.lst xs) => if xs.length < SZ then .ok .non (st.set n (.lst (xs ++ [e]))) else .stk
    | _ => .stk
  | .extend, .ref n, .ref m, st => match st[n]?, st[m]? with
    | some (.lst xs), some (.lst ys) => if xs.length + ys.length ≤ SZ then .ok .non (st.set n (.lst (xs ++ ys))) else .stk
    | _, _ => .stk
  | _, _, _, _ => .stk
def evGet (d k : D) (e : D) (st : Sto) : Out D := match dictAt st d, keyD k with
  | some kvs, some k => .ok ((lookK kvs k).getD e) st
  | _, _ => .stk
def evSetIx (d k e : D) (st : Sto) : Option Sto := match d with
  | .ref n => match st[n]? with
    | some (.lst xs) => match k with
      | .int i => match ixN xs.length i with
        | some j => some (st.set n (.lst (xs.set j e)))
        | none => none
      | _ => none
    | some (.dct kvs) => match keyD k with
      | some k => if kvs.length < SZ then some (st.set n (.dct (putD kvs k e))) else none
      | none => none
    | _ => none
  | _ => none

/-! ### targets, what is walked -/
mutual
def bindG : G → D → En → Option En
  | .n i, d, env => some (env.set i (some d))
  | .t gs, .tup ds, env => bindGs gs ds env
  | .t _, _, _ => none
def bindGs : GL → List D → En → Option En
  | .nil, [], env => some env
  | .cons g gs, d :: ds, env => match bindG g d env with
    | some env' => bindGs gs ds env'
    | none => none
  | _, _, _ => none
end
mutual
def gsl : G → List Nat
  | .n i => [i]
  | .t gs => gsls gs
def gsls : GL → List Nat
  | .nil => []
  | .cons g gs => gsl g ++ gsls gs
end
inductive Chk where
  | free | at_ (n : Nat) (o : MO) | two (a b : Chk)
def Chk.ok : Chk → Sto → Bool
  | .free, _ => true
  | .at_ n o, st => decide (st[n]? = some o)
  | .two a b, st => a.ok st && b.ok st
/-- a list or tuple that is walked -/
def walkD (d : D) (st : Sto) : Option (List D × Chk) := match d with
  | .tup xs => some (xs, .free)
  | .rol xs => some (xs, .free)
  | .ref n => match st[n]? with
    | some (.lst xs) => some (xs, .at_ n (.lst xs))
    | _ => none
  | _ => none
def rangeL (lo c : Int) (n : Nat) : List D := (List.range n).map fun (i : Nat) => D.int (lo + (i : Int) * c)
def small62 (i : Int) : Bool := decide (-(2 ^ 62) ≤ i ∧ i < 2 ^ 62)
def enumL (xs : List D) : List D := xs.zipIdx.map fun p => D.tup [.int (p.2 : Int), p.1]
def zipL (xs ys : List D) : List D := (xs.zip ys).map fun p => D.tup [p.1, p.2]

def wipeE (env : En) : List Nat → En
  | [] => env
  | v :: vs => (wipeE env vs).set v none

def noexc {α : Type} : Out α → Out α
  | .ok a st => .ok a st
  | _ => .stk
@[simp] theorem noexc_ok {α : Type} (a : α) (st : Sto) : noexc (.ok a st) = .ok a st := rfl
/-- the turns of a comprehension -/
def lcL (bind : D → En → Option En) (t : En → Sto → Out Bool) (f : En → Sto → Out D) (chk : Sto → Bool) (env : En) : List D → List D → Sto → Out (List D)
  | acc, [], st => if chk st = true then .ok acc st else .stk
  | acc, x :: xs, st => if chk st = true then match bind x env with
      | none => .stk
      | some env1 => (noexc (t env1 st)).bind fun b st1 => match b with
        | true => (noexc (f env1 st1)).bind fun y st2 => lcL bind t f chk env (acc ++ [y]) xs st2
        | false => lcL bind t f chk env acc xs st1
    else .stk

abbrev Fns := Nat → List D → Sto → Out D
def truO (o : Out D) : Out Bool := o.bind fun d st => match truD st d with
  | some b => .ok b st
  | none => .stk

mutual
def evE (F : Fns) : E → En → Sto → Out D
  | .v i, env, st => match env[i]? with
    | some (some d) => .ok d st
    | _ => .stk
  | .k d, _, st => .ok d st
  | .tup es, env, st => (evEL F es env st).bind fun ds st => if ds.length ≤ SZ then .ok (.tup ds) st else .stk
  | .lst es, env, st => (evEL F es env st).bind fun ds st => newL ds st
  | .dct ks es, env, st => (evEL F es env st).bind fun ds st => if ds.length = ks.length ∧ ks.length ≤ 15 ∧ ks.Nodup then .ok (.ref st.length) (st ++ [.dct ((ks.zip ds).map fun p => (.inr p.1, p.2))]) else .stk
  | .op o a b, env, st => (evE F a env st).bind fun x st => (evE F b env st).bind fun y st => noexc (evOp o x y st)
  | .cmp o a b, env, st => (evE F a env st).bind fun x st => (evE F b env st).bind fun y st => noexc (evCmp o x y st)
  | .isN a, env, st => (evE F a env st).bind fun x st => .ok (.bl (decide (x = .non))) st
  | .notN a, env, st => (evE F a env st).bind fun x st => .ok (.bl (!decide (x = .non))) st
  | .and a b, env, st => (evE F a env st).bind fun x st => match truD st x with
    | some true => evE F b env st
    | some false => .ok x st
    | none => .stk
  | .or a b, env, st => (evE F a env st).bind fun x st => match truD st x with
    | some true => .ok x st
    | some false => evE F b env st
    | none => .stk
  | .not a, env, st => (truO (evE F a env st)).bind fun b st => .ok (.bl (!b)) st
  | .ifx c a b, env, st => (truO (evE F c env st)).bind fun k st => match k with
    | true => evE F a env st
    | false => evE F b env st
  | .call f es, env, st => (evEL F es env st).bind fun ds st => F f ds st
  | .bi b e, env, st => (evE F e env st).bind fun d st1 => noexc (evBi b st.length d st1)
  | .mth0 m o, env, st => (evE F o env st).bind fun d st => noexc (evMth0 m d st)
  | .mth1 m o e, env, st => (evE F o env st).bind fun d st => if isL st d = false then .stk else (evE F e env st).bind fun x st => noexc (evMth1 m d x st)
  | .get1 o k, env, st => (evE F o env st).bind fun d st => if isDc st d = false then .stk else (evE F k env st).bind fun x st => noexc (evGet d x .non st)
  | .get2 o k e, env, st => (evE F o env st).bind fun d st => if isDc st d = false then .stk else (evE F k env st).bind fun x st => (evE F e env st).bind fun y st => noexc (evGet d x y st)
  | .ix a i, env, st => (evE F a env st).bind fun x st => (evE F i env st).bind fun y st => noexc (evIx x y st)
  | .sl a lo hi, env, st => (evE F a env st).bind fun x st => (evEO F lo env st).bind fun l st => (evEO F hi env st).bind fun h st => noexc (evSl x l h st)
  | .lc elt g it c own, env, st => (evI F it env st).bind fun p st1 =>
      if p.1.length ≤ SZ then (lcL (bindG g) (fun env st => evC F c env st) (fun env st => evE F elt env st) p.2.ok (wipeE env own) [] p.1 st1).bind fun ys st2 => .ok (.ref st2.length) (st2 ++ [.lst ys]) else .stk
def evEL (F : Fns) : EL → En → Sto → Out (List D)
  | .nil, _, st => .ok [] st
  | .cons e es, env, st => (evE F e env st).bind fun x st => (evEL F es env st).bind fun xs st => .ok (x :: xs) st
def evEO (F : Fns) : EO → En → Sto → Out (Option Int)
  | .no, _, st => .ok none st
  | .so e, env, st => (evE F e env st).bind fun x st => match x with
    | .int i => .ok (some i) st
    | _ => .stk
def evC (F : Fns) : EO → En → Sto → Out Bool
  | .no, _, st => .ok true st
  | .so e, env, st => truO (evE F e env st)
def evI (F : Fns) : I → En → Sto → Out (List D × Chk)
  | .of e, env, st => (evE F e env st).bind fun d st => match walkD d st with
    | some p => .ok p st
    | none => .stk
  | .r1 e, env, st => (evE F e env st).bind fun d st => match d with
    | .int j => if small62 j = true then .ok (rangeL 0 1 j.toNat, .free) st else .stk
    | _ => .stk
  | .r2 a b, env, st => (evE F a env st).bind fun d st => (evE F b env st).bind fun e st => match d, e with
    | .int i, .int j => if small62 i = true ∧ small62 j = true then .ok (rangeL i 1 (j - i).toNat, .free) st else .stk
    | _, _ => .stk
  | .r3 a b c, env, st => (evE F a env st).bind fun d st => (evE F b env st).bind fun e st => (evE F c env st).bind fun f st => match d, e, f with
    | .int i, .int j, .int k => if small62 i = true ∧ small62 j = true ∧ k = -1 then .ok (rangeL i (-1) (i - j).toNat, .free) st else .stk
    | _, _, _ => .stk
  | .en e, env, st => (evE F e env st).bind fun d st => match walkD d st with
    | some p => .ok (enumL p.1, p.2) st
    | none => .stk
  | .zi a b, env, st => (evE F a env st).bind fun d st => (evE F b env st).bind fun e st => match d, e with
    | .tup xs, .tup ys => .ok (zipL xs ys, .free) st
    | .ref n, .ref m => match st[n]?, st[m]? with
      | some (.lst xs), some (.lst ys) => .ok (zipL xs ys, .two (.at_ n (.lst xs)) (.at_ m (.lst ys))) st
      | _, _ => .stk
    | _, _ => .stk
end
def evT (F : Fns) (e : E) (env : En) (st : Sto) : Out Bool := truO (evE F e env st)

/-! ### statements -/
inductive SO where
  | nx (env : En) (st : Sto) | rt (d : D) (st : Sto) | bk (env : En) (st : Sto) | ct (env : En) (st : Sto) | exc (c : Nat) (env : En) (st : Sto) | stk
def Out.sb {α : Type} (env : En) (o : Out α) (f : α → Sto → SO) : SO := match o with
  | .ok a st => f a st
  | .exc c st => .exc c env st
  | .stk => .stk
@[simp] theorem Out.sb_ok {α : Type} (env : En) (a : α) (st : Sto) (f : α → Sto → SO) : (Out.ok a st).sb env f = f a st := rfl
@[simp] theorem Out.sb_exc {α : Type} (env : En) (c : Nat) (st : Sto) (f : α → Sto → SO) : (Out.exc c st : Out α).sb env f = .exc c env st := rfl
@[simp] theorem Out.sb_stk {α : Type} (env : En) (f : α → Sto → SO) : (Out.stk : Out α).sb env f = .stk := rfl
/-- the turns of a for -/
def forL (bind : D → En → Option En) (body : En → Sto → SO) (chk : Sto → Bool) : List D → En → Sto → SO
  | [], env, st => if chk st = true then .nx env st else .stk
  | x :: xs, env, st => if chk st = true then match bind x env with
      | none => .stk
      | some env1 => match body env1 st with
        | .nx env2 st2 => forL bind body chk xs env2 st2
        | .ct env2 st2 => forL bind body chk xs env2 st2
        | .bk env2 st2 => .nx env2 st2
        | .rt d st2 => .rt d st2
        | .exc c env2 st2 => .exc c env2 st2
        | .stk => .stk
    else .stk
/-- the turns of a while, so many at most -/
def whL (c : En → Sto → Out Bool) (body : En → Sto → SO) : Nat → En → Sto → SO
  | 0, _, _ => .stk
  | n + 1, env, st => (c env st).sb env fun b st => match b with
    | false => .nx env st
    | true => match body env st with
      | .nx env2 st2 => whL c body n env2 st2
      | .ct env2 st2 => whL c body n env2 st2
      | .bk env2 st2 => .nx env2 st2
      | .rt d st2 => .rt d st2
      | .exc c env2 st2 => .exc c env2 st2
      | .stk => .stk
def unlockD (n : Nat) (st : Sto) : Option Sto := match st[n]? with
  | some (.lok kvs) => some (st.set n (.dct kvs))
  | _ => none
def unlockS (n : Nat) : SO → SO
  | .nx env st => match unlockD n st with | some st => .nx env st | none => .stk
  | .rt d st => match unlockD n st with | some st => .rt d st | none => .stk
  | .bk env st => match unlockD n st with | some st => .bk env st | none => .stk
  | .ct env st => match unlockD n st with | some st => .ct env st | none => .stk
  | _ => .stk
def pairsD (kvs : List (Key × D)) : List D := kvs.map fun p => .tup [match p.1 with | .inl i => .int i | .inr x => .str x, p.2]
def TURNS : Nat := 1000000000

mutual
def evS (F : Fns) : S → En → Sto → SO
  | .ex e, env, st => (evE F e env st).sb env fun _ st => .nx env st
  | .set g e, env, st => (evE F e env st).sb env fun d st => match bindG g d env with
    | some env' => .nx env' st
    | none => .stk
  | .par2 i j a b, env, st => (evE F a env st).sb env fun x st => (evE F b env st).sb env fun y st => .nx ((env.set i (some x)).set j (some y)) st
  | .par3 i j k a b c, env, st => (evE F a env st).sb env fun x st => (evE F b env st).sb env fun y st => (evE F c env st).sb env fun z st => .nx (((env.set i (some x)).set j (some y)).set k (some z)) st
  | .setIx o i e, env, st => (evE F e env st).sb env fun x st => (evE F o env st).sb env fun d st => (evE F i env st).sb env fun k st => match evSetIx d k x st with
    | some st => .nx env st
    | none => .stk
  | .aug i o e, env, st => match env[i]? with
    | some (some x) => (evE F e env st).sb env fun y st => (noexc (evAug o x y st)).sb env fun z st => .nx (env.set i (some z)) st
    | _ => .stk
  | .augIx a i o e, env, st => (evE F a env st).sb env fun d st => (evE F i env st).sb env fun k st => (noexc (evIx d k st)).sb env fun x st => (evE F e env st).sb env fun y st => (noexc (evAug o x y st)).sb env fun z st => match evSetIx d k z st with
    | some st => .nx env st
    | none => .stk
  | .ife c a b, env, st => (evT F c env st).sb env fun k st => match k with
    | true => evSL F a env st
    | false => evSL F b env st
  | .forI g it b, env, st => (evI F it env st).sb env fun p st => forL (bindG g) (fun env st => evSL F b env st) p.2.ok p.1 env st
  | .forD g i b, env, st => match env[i]? with
    | some (some (.ref n)) => match st[n]? with
      | some (.dct kvs) => unlockS n (forL (bindG g) (fun env st => evSL F b env st) (Chk.at_ n (.lok kvs)).ok (pairsD kvs) env (st.set n (.lok kvs)))
      | _ => .stk
    | _ => .stk
  | .wh c b, env, st => whL (fun env st => evT F c env st) (fun env st => evSL F b env st) TURNS env st
  | .ret e, env, st => (evE F e env st).sb env fun d st => .rt d st
  | .retN, _, st => .rt .non st
  | .brk, env, st => .bk env st
  | .cont, env, st => .ct env st
  | .pass, env, st => .nx env st
  | .raise c, env, st => .exc c env st
  | .try_ b c h, env, st => match evSL F b env st with
    | .exc c' env' st' => if c' = c then (match evSL F h env' st' with | .exc _ _ _ => .stk | o => o) else .stk
    | o => o
def evSL (F : Fns) : SL → En → Sto → SO
  | .nil, env, st => .nx env st
  | .cons s ss, env, st => match evS F s env st with
    | .nx env st => evSL F ss env st
    | o => o
end
/-- a def -/
def evF (F : Fns) (many : Nat) (code : SL) (ds : List D) (st : Sto) : Out D := match evSL F code (ds.map some ++ List.replicate (many - ds.length) none) st with
  | .nx _ st' => gc st.length .non st'
  | .rt d st' => gc st.length d st'
  | .exc c _ st' => if (st'.take st.length).all (closedO st.length) = true then .exc c (st'.take st.length) else .exc c st'
  | _ => .stk
end Ev
end

section
set_option Elab.async false
set_option linter.all false
set_option maxRecDepth 100000
set_option autoImplicit false
set_option maxHeartbeats 1000000
/-! Ev3: the operations on values -/
namespace Ev
open PySem L2

theorem OOk.here {α β : Type} {P : Pm} {H : Hp} {as : List Addr} {st : Sto} {rel : Hp → List Addr → α → β → Prop} {d : α} {v : β} {Q : β → Hp → Prop} {E : Addr → Hp → Prop} (h : OOk P H as rel (.ok d st) Q E) (r : RS P H as st) (hd : rel H as d v) : Q v H := h v H as Stp.refl r hd
theorem OOk.newT {P : Pm} {H : Hp} {as : List Addr} {st : Sto} {xs : List D} {vs : List V} {Q : VK} {E : Addr → Hp → Prop} (h : OOk P H as (RDr P) (.ok (.tup xs) st) Q E) (r : RS P H as st) (hd : RDs P H as xs vs) {p : Addr} (hp : H p = none) : Q (.ref p) (upd H p (.tup vs)) := by
  obtain ⟨s, r'⟩ := r.new hp (.tup vs)
  exact h _ _ as s r' ⟨p, vs, rfl, SqT.of upd_same, RDs.mv (r.mv s) _ _ hd⟩
theorem OOk.newL {P : Pm} {H : Hp} {as : List Addr} {st : Sto} {xs : List D} {vs : List V} {Q : VK} {E : Addr → Hp → Prop} (h : OOk P H as (RDr P) (.ok (.ref st.length) (st ++ [.lst xs])) Q E) (r : RS P H as st) (hd : RDs P H as xs vs) {p : Addr} (hp : H p = none) : Q (.ref p) (upd H p (.lst vs)) := by
  have mv : Mv P H as (upd H p (.lst vs)) (as ++ [p]) := ⟨fun a vs h => ?_, fun a vs h => ?_, fun n b h => by rw [List.getElem?_append_left (List.getElem?_eq_some_iff.mp h).1]; exact h⟩
  · obtain ⟨s, r'⟩ := r.alloc (o := .lst vs) (m := .lst xs) hp ⟨vs, upd_same, RDs.mv mv _ _ hd⟩
    exact h _ _ _ s r' ⟨p, rfl, by rw [← r.len, List.getElem?_append_right (Nat.le_refl _), Nat.sub_self]; rfl⟩
  · exact r.tup (Stp.new r hp _) h
  · exact r.rol (Stp.new r hp _) h

def OpS (X : Cx) (P : Pm) (f : Value → Value → Sem Value) (g : D → D → Sto → Out D) : Prop :=
  OpR X f (fun x y H Q => ∃ d e st as, RS P H as st ∧ RD P H as d x ∧ RD P H as e y ∧ OOk P H as (RDr P) (g d e st) Q fun _ _ => False)
section
variable {X : Cx} {P : Pm}
theorem lstAt {H : Hp} {as : List Addr} {st : Sto} {n : Nat} {xs : List D} {x : V} (r : RS P H as st) (h : RD P H as (.ref n) x) (e : st[n]? = some (.lst xs)) : ∃ a vs, x = .ref a ∧ as[n]? = some a ∧ H a = some (.lst vs) ∧ RDs P H as xs vs := by
  obtain ⟨a, rfl, ha⟩ := h
  obtain ⟨b, hb, vs, h1, h2⟩ := r.ob n _ e
  rw [ha] at hb; cases hb
  exact ⟨a, vs, rfl, ha, h1, h2⟩
theorem dctAt {H : Hp} {as : List Addr} {st : Sto} {n : Nat} {xs : List (Key × D)} {x : V} (r : RS P H as st) (h : RD P H as (.ref n) x) (e : st[n]? = some (.dct xs)) : ∃ a vs, x = .ref a ∧ as[n]? = some a ∧ H a = some (.dK vs) ∧ RKs P H as xs vs := by
  obtain ⟨a, rfl, ha⟩ := h
  obtain ⟨b, hb, vs, h1, h2⟩ := r.ob n _ e
  rw [ha] at hb; cases hb
  exact ⟨a, vs, rfl, ha, h1, h2⟩
theorem lokAt {H : Hp} {as : List Addr} {st : Sto} {n : Nat} {xs : List (Key × D)} {x : V} (r : RS P H as st) (h : RD P H as (.ref n) x) (e : st[n]? = some (.lok xs)) : ∃ a o vs, x = .ref a ∧ as[n]? = some a ∧ H a = some (.frz o (.dK vs)) ∧ RKs P H as xs vs := by
  obtain ⟨a, rfl, ha⟩ := h
  obtain ⟨b, hb, o, vs, h1, h2⟩ := r.ob n _ e
  rw [ha] at hb; cases hb
  exact ⟨a, o, vs, rfl, ha, h1, h2⟩

theorem ops_add (hK : P.K = X.K) : OpS X P (binaryOp .Add) evAdd := by
  intro pins s σ H x y v u Q I rx ry ⟨d, e, st, as, r, hd, he, h⟩
  unfold evAdd at h
  split at h
  · cases hd; cases he
    exact op_add pins s σ H _ _ v u Q I rx ry ⟨_, _, rfl, rfl, h.here r rfl⟩
  · cases hd; cases he
    split at h
    · rename_i hl
      exact op_add_str pins s σ H _ _ v u Q I rx ry ⟨_, _, rfl, rfl, by rw [sizeLine_eq]; exact hl, h.here r rfl⟩
    · exact h.elim
  · split at h
    · rename_i hl
      obtain ⟨a, vs, rfl, h1, h2⟩ := hd
      obtain ⟨b, ws, rfl, h3, h4⟩ := he
      refine op_catA pins s σ H _ _ v u Q I rx ry ⟨a, b, vs, ws, rfl, rfl, hK ▸ h1, hK ▸ h3, by rw [sizeLine_eq, ← h2.length, ← h4.length]; exact hl, fun e => ?_, fun _ e => ?_, fun _ _ p hp => h.newT r (h2.app h4) hp⟩
      · subst e
        exact h.here r ⟨b, ws, rfl, h3, by simpa using h2.app h4⟩
      · subst e
        exact h.here r ⟨a, vs, rfl, h1, by simpa using h2.app h4⟩
    · exact h.elim
  · split at h
    · rename_i e1 e2
      unfold Ev.newL at h
      split at h
      · rename_i hl
        obtain ⟨a, vs, rfl, _, h1, h2⟩ := lstAt r hd e1
        obtain ⟨b, ws, rfl, _, h3, h4⟩ := lstAt r he e2
        exact op_cat pins s σ H _ _ v u Q I rx ry ⟨a, b, vs, ws, rfl, rfl, h1, h3, by rw [sizeLine_eq, ← h2.length, ← h4.length]; simpa using hl, fun p hp => h.newL r (h2.app h4) hp⟩
      · exact h.elim
    · exact h.elim
  · exact h.elim
end
end Ev
end

section
set_option Elab.async false
set_option linter.all false
set_option maxRecDepth 100000
set_option autoImplicit false
set_option maxHeartbeats 1000000
/-! tuple * int, a few times or not at all -/
namespace Ev
open PySem L2 PySem.Spec PyProof.Rows
theorem tupMulSelf (l : Addr) (items : Array Value) (n : Nat) (dd : Option Addr) (sl : Array (Option Value)) (x : Int) (u : Tok)
    (c0 : (decide (x < -(2 ^ 63)) || decide (x ≥ 2 ^ 63)) = false) (c1 : (items.isEmpty || x == 1) = true) :
    Meets (Builtin.«tuple.__mul__» ⟨[.ref l, .int x u], []⟩) (fun _ R s =>
      s.heap.get? l = some { cls := .type "tuple", dict := dd, data := .seq items n, slots := sl } ∧ R (.ok (.ret (Value.ref l))) s) :=
  .of_wp fun prog w A R s h => by
    obtain ⟨hp, g, d, tk, os⟩ := s
    obtain ⟨hl, h⟩ := h
    have f1 := AutoSeq1.idx_int
    wp_walk using wpAny_loadPart' hl
    repeat (first
      | (refine wpAny_ite_false (decide_eq_false (by rw [c0]; exact Bool.false_ne_true)) ?_
         wp_walk using wpAny_loadPart' hl)
      | (refine wpAny_ite_true (decide_eq_true c1) ?_
         wp_walk using wpAny_loadPart' hl))
    exact ⟨_, rfl, h⟩
theorem tupMulNone (l : Addr) (items : Array Value) (n : Nat) (dd : Option Addr) (sl : Array (Option Value)) (x : Int) (u : Tok)
    (c0 : (decide (x < -(2 ^ 63)) || decide (x ≥ 2 ^ 63)) = false) (c1 : (items.isEmpty || x == 1) = false) (c2 : (decide (x ≤ 0) || items.isEmpty) = true) :
    Meets (Builtin.«tuple.__mul__» ⟨[.ref l, .int x u], []⟩) (fun _ R s =>
      s.heap.get? l = some { cls := .type "tuple", dict := dd, data := .seq items n, slots := sl } ∧
        R (.ok (.ret (Value.ref s.heap.objs.size))) { s with heap := s.heap.push { cls := Value.type "tuple", data := Data.seq #[] }, toks := s.toks }) :=
  .of_wp fun prog w A R s h => by
    obtain ⟨hp, g, d, tk, os⟩ := s
    obtain ⟨hl, h⟩ := h
    have f1 := AutoSeq1.idx_int
    wp_walk using wpAny_loadPart' hl
    repeat (first
      | (refine wpAny_ite_false (decide_eq_false (by rw [c0]; exact Bool.false_ne_true)) ?_
         wp_walk using wpAny_loadPart' hl)
      | (refine wpAny_ite_false (decide_eq_false (by rw [c1]; exact Bool.false_ne_true)) ?_
         wp_walk using wpAny_loadPart' hl)
      | (refine wpAny_ite_true (decide_eq_true c2) ?_
         wp_walk using wpAny_loadPart' hl))
    exact ⟨_, rfl, h⟩

section
variable {X : Cx} {P : Pm}
theorem op_repAny : OpR X (binaryOp .Mult) (fun x y H Q => ∃ l k xs, x = .ref l ∧ y = .int k ∧ SqT X.K H l xs ∧ -1000 ≤ k ∧ k ≤ 1000 ∧ xs.length ≤ 1000 ∧
    ((xs = [] ∨ k = 1) → Q (.ref l) H) ∧ (¬ (xs = [] ∨ k = 1) → ∀ p, H p = none → Q (.ref p) (upd H p (.tup (List.replicate k.toNat xs).flatten)))) := by
  intro pins s σ H x y v u Q I rx ry ⟨l, k, xs, ex, ey, hT, k0, k1, hz, q1, q2⟩
  by_cases h1 : xs = [] ∨ k = 1
  · subst ex ey
    cases rx
    obtain ⟨t, rfl⟩ := ry
    obtain ⟨its, r, ⟨⟨cls, dd, data, sl⟩, ho, hc, n, hd⟩, hs⟩ := I.tuple hT
    simp only at hc hd
    subst hc hd
    have c0 : (decide (k < -(2 ^ 63)) || decide (k ≥ 2 ^ 63)) = false := by
      rw [decide_eq_false (show ¬ k < -(2 ^ 63) by omega), decide_eq_false (show ¬ k ≥ 2 ^ 63 by omega)]
      rfl
    have c1 : (its.toArray.isEmpty || k == 1) = true := by
      rcases h1 with e | e
      · subst e
        cases r
        rfl
      · subst e
        exact Bool.or_true _
    exact wpAny_binaryOp_repeat_ref (T := "tuple") (U := "int") (by decide) ⟨_, ho, rfl⟩ (fun s' => typeIs_int s' k t) noFill_tuple_mul F.fills_int_mul F.slot_int_rmul repeat_tuple F.slot_int_index.lookup
      (call_meets F.slot_int_rmul (typeIs_int s k t) F.entry_int_rmul (F.args_int_rmul_2 _ _) (int_rmul_tuple k t l its.toArray n dd sl)
        ⟨ho, rfl, ⟨_, ho, rfl⟩, call_meets F.slot_tuple_mul ⟨_, ho, rfl⟩ F.entry_tuple_mul (F.args_tuple_mul_2 _ _) (tupMulSelf l its.toArray n dd sl k t c0 c1)
          ⟨ho, V.ref l, H, I, rfl, q1 h1⟩⟩)
  · by_cases h2 : 2 ≤ k
    · exact op_repT pins s σ H x y v u Q I rx ry ⟨l, k, xs, ex, ey, hT, fun e => h1 (.inl e), h2, k1, hz, q2 h1⟩
    · have hk : k ≤ 0 := by
        have : k ≠ 1 := fun e => h1 (.inr e)
        omega
      subst ex ey
      cases rx
      obtain ⟨t, rfl⟩ := ry
      obtain ⟨its, r, ⟨⟨cls, dd, data, sl⟩, ho, hc, n, hd⟩, hs⟩ := I.tuple hT
      simp only at hc hd
      subst hc hd
      have c0 : (decide (k < -(2 ^ 63)) || decide (k ≥ 2 ^ 63)) = false := by
        rw [decide_eq_false (show ¬ k < -(2 ^ 63) by omega), decide_eq_false (show ¬ k ≥ 2 ^ 63 by omega)]
        rfl
      have c1 : (its.toArray.isEmpty || k == 1) = false := by
        cases its with
        | nil =>
          cases r
          exact (h1 (.inl rfl)).elim
        | cons a b =>
          show (false || k == 1) = false
          rw [Bool.false_or]
          exact beq_eq_false_iff_ne.mpr (by omega)
      have c2 : (decide (k ≤ 0) || its.toArray.isEmpty) = true := by rw [decide_eq_true hk]; rfl
      refine wpAny_binaryOp_repeat_ref (T := "tuple") (U := "int") (by decide) ⟨_, ho, rfl⟩ (fun s' => typeIs_int s' k t) noFill_tuple_mul F.fills_int_mul F.slot_int_rmul repeat_tuple F.slot_int_index.lookup
        (call_meets F.slot_int_rmul (typeIs_int s k t) F.entry_int_rmul (F.args_int_rmul_2 _ _) (int_rmul_tuple k t l its.toArray n dd sl)
          ⟨ho, rfl, ⟨_, ho, rfl⟩, call_meets F.slot_tuple_mul ⟨_, ho, rfl⟩ F.entry_tuple_mul (F.args_tuple_mul_2 _ _) (tupMulNone l its.toArray n dd sl k t c0 c1 c2) ⟨ho, ?_⟩⟩)
      have hf : H s.heap.objs.size = none := I.hok.fresh (Nat.le_refl _)
      have e0 : (List.replicate k.toNat xs).flatten = [] := by
        rw [Int.toNat_of_nonpos hk]
        rfl
      have hq := q2 h1 _ hf
      rw [e0] at hq
      exact ⟨V.ref s.heap.objs.size, _, I.laid (t' := s.toks) (o := .tup []) (fun b u e => Heap.get?_push_of_some _ e) (Nat.le_refl _) ⟨Nat.zero_le _, [], .nil, IsTup.new _ _⟩, rfl, hq⟩
end
end Ev
end

section
set_option Elab.async false
set_option linter.all false
set_option maxRecDepth 100000
set_option autoImplicit false
set_option maxHeartbeats 1000000
/-! Ev4: further operations -/
namespace Ev
open PySem L2
section
variable {X : Cx} {P : Pm}
/-- an operation on two ints -/
theorem opsI {f : Value → Value → Sem Value} {C : Int → Int → Prop} {g : Int → Int → V} {ev : D → D → Sto → Out D} (ho : OpR X f (rI C g))
    (h : ∀ (d e : D) (st : Sto) (P : Pm) (H : Hp) (as : List Addr) (Q : VK), OOk P H as (RDr P) (ev d e st) Q (fun _ _ => False) → ∃ i j r, d = .int i ∧ e = .int j ∧ C i j ∧ ev d e st = .ok r st ∧ RD P H as r (g i j)) : OpS X P f ev := by
  intro pins s σ H x y v u Q I rx ry ⟨d, e, st, as, r, hd, he, hh⟩
  obtain ⟨i, j, z, rfl, rfl, hC, e1, hz⟩ := h d e st P H as Q hh
  cases hd; cases he
  rw [e1] at hh
  exact ho pins s σ H _ _ v u Q I rx ry ⟨i, j, rfl, rfl, hC, hh.here r hz⟩
theorem opsI0 {f : Value → Value → Sem Value} {g : Int → Int → V} {ev : D → D → Sto → Out D} (ho : OpR X f (rI0 g))
    (h : ∀ (d e : D) (st : Sto) (P : Pm) (H : Hp) (as : List Addr) (Q : VK), OOk P H as (RDr P) (ev d e st) Q (fun _ _ => False) → ∃ i j r, d = .int i ∧ e = .int j ∧ ev d e st = .ok r st ∧ RD P H as r (g i j)) : OpS X P f ev := by
  intro pins s σ H x y v u Q I rx ry ⟨d, e, st, as, r, hd, he, hh⟩
  obtain ⟨i, j, z, rfl, rfl, e1, hz⟩ := h d e st P H as Q hh
  cases hd; cases he
  rw [e1] at hh
  exact ho pins s σ H _ _ v u Q I rx ry ⟨i, j, rfl, rfl, hh.here r hz⟩
theorem ops_sub : OpS X P (binaryOp .Sub) evSub := opsI0 op_sub fun d e st P H as Q h => by
  unfold evSub at h ⊢
  split at h
  · exact ⟨_, _, _, rfl, rfl, rfl, rfl⟩
  · exact h.elim
theorem ops_fdiv : OpS X P (binaryOp .FloorDiv) evFdiv := opsI op_fdivW fun d e st P H as Q h => by
  unfold evFdiv at h ⊢
  split at h
  · split at h
    · rename_i hc
      exact ⟨_, _, _, rfl, rfl, hc, if_pos hc, rfl⟩
    · exact h.elim
  · exact h.elim
theorem ops_mod : OpS X P (binaryOp .Mod) evMod := opsI op_modN fun d e st P H as Q h => by
  unfold evMod at h ⊢
  split at h
  · split at h
    · rename_i hc
      exact ⟨_, _, _, rfl, rfl, hc, if_pos hc, rfl⟩
    · exact h.elim
  · exact h.elim
theorem ops_pow : OpS X P (binaryOp .Pow) evPow := opsI op_pow fun d e st P H as Q h => by
  unfold evPow at h ⊢
  split at h
  · split at h
    · rename_i hc
      exact ⟨_, _, _, rfl, rfl, hc, if_pos hc, rfl⟩
    · exact h.elim
  · exact h.elim
theorem ops_shl : OpS X P (binaryOp .LShift) evShl := opsI op_shlW fun d e st P H as Q h => by
  unfold evShl at h ⊢
  split at h
  · split at h
    · rename_i hc
      exact ⟨_, _, _, rfl, rfl, hc, if_pos hc, rfl⟩
    · exact h.elim
  · exact h.elim
theorem ops_shr : OpS X P (binaryOp .RShift) evShr := opsI op_shr fun d e st P H as Q h => by
  unfold evShr at h ⊢
  split at h
  · split at h
    · rename_i hc
      exact ⟨_, _, _, rfl, rfl, hc, if_pos hc, rfl⟩
    · exact h.elim
  · exact h.elim
theorem ops_band : OpS X P (binaryOp .BitAnd) evBand := opsI0 op_and fun d e st P H as Q h => by
  unfold evBand at h ⊢
  split at h
  · exact ⟨_, _, _, rfl, rfl, rfl, rfl⟩
  · exact h.elim
theorem ops_bor : OpS X P (binaryOp .BitOr) evBor := opsI0 op_or fun d e st P H as Q h => by
  unfold evBor at h ⊢
  split at h
  · exact ⟨_, _, _, rfl, rfl, rfl, rfl⟩
  · exact h.elim
theorem ops_bxor : OpS X P (binaryOp .BitXor) evBxor := opsI0 op_xor fun d e st P H as Q h => by
  unfold evBxor at h ⊢
  split at h
  · exact ⟨_, _, _, rfl, rfl, rfl, rfl⟩
  · exact h.elim
theorem ops_mul (hK : P.K = X.K) : OpS X P (binaryOp .Mult) evMul := by
  intro pins s σ H x y v u Q I rx ry ⟨d, e, st, as, r, hd, he, h⟩
  unfold evMul at h
  split at h
  · cases hd; cases he
    split at h
    · rename_i hc
      exact op_mulW pins s σ H _ _ v u Q I rx ry ⟨_, _, rfl, rfl, hc, h.here r rfl⟩
    · exact h.elim
  · cases he
    split at h
    · rename_i hc
      obtain ⟨a, vs, rfl, h1, h2⟩ := hd
      refine op_repAny pins s σ H _ _ v u Q I rx ry ⟨a, _, vs, rfl, rfl, hK ▸ h1, hc.1, hc.2.1, by rw [← h2.length]; exact hc.2.2, fun q => ?_, fun _ p hp => h.newT r (h2.rep _) hp⟩
      have z := h2.rep (P := P) (H := H) (as := as)
      rcases q with q | q
      · subst q
        refine h.here r ⟨a, [], rfl, h1, ?_⟩
        have q := h2.rep (Int.toNat ‹Int›)
        simpa using q
      · subst q
        refine h.here r ⟨a, vs, rfl, h1, ?_⟩
        have q := h2.rep 1
        simpa using q
    · exact h.elim
  · cases he
    split at h
    · rename_i e1
      split at h
      · rename_i hc
        unfold Ev.newL at h
        split at h
        · obtain ⟨a, vs, rfl, _, h1, h2⟩ := lstAt r hd e1
          refine op_rep pins s σ H _ _ v u Q I rx ry ⟨a, _, vs, rfl, rfl, h1, by omega, by omega, ?_, fun p hp => h.newL r (h2.rep _) hp⟩
          rw [sizeLine_eq, ← h2.length]
          have := Nat.mul_le_mul hc.2.2 (show Int.toNat ‹Int› ≤ 1000 by omega)
          omega
        · exact h.elim
      · exact h.elim
    · exact h.elim
  · exact h.elim

/-! ### comparisons -/
theorem mapM_cons {α β : Type} {f : α → Option β} {x : α} {xs : List α} {ys : List β} (h : (x :: xs).mapM f = some ys) : ∃ y zs, f x = some y ∧ xs.mapM f = some zs ∧ ys = y :: zs := by
  rw [List.mapM_cons] at h
  cases e : f x with
  | none => rw [e] at h; cases h
  | some y =>
    rw [e] at h
    cases e2 : xs.mapM f with
    | none => rw [e2] at h; cases h
    | some zs => rw [e2] at h; cases h; exact ⟨y, zs, rfl, rfl, rfl⟩
mutual
theorem dp_of {H : Hp} {as : List Addr} {st : Sto} (r : RS P H as st) : ∀ (n : Nat) (d : D) (v : V) (p : PyData), toP st n d = some p → RD P H as d v → Dp P.K H v p := fun n d v p h hd => by
  cases n with
  | zero => simp [toP] at h
  | succ n =>
    cases d with
    | non => simp [toP] at h; subst h; cases hd; exact .non
    | bl b => simp [toP] at h; subst h; cases hd; exact .bl _
    | int b => simp [toP] at h; subst h; cases hd; exact .int _
    | str b => simp [toP] at h; obtain ⟨_, h⟩ := h; subst h; cases hd; exact .str _
    | fn b => simp [toP] at h
    | tup xs =>
      simp [toP] at h
      obtain ⟨ps, h1, h2⟩ := h
      subst h2
      obtain ⟨a, vs, rfl, h3, h4⟩ := hd
      exact .tup h3 (dps_of r n xs vs ps h1 h4)
    | rol xs =>
      simp [toP] at h
      obtain ⟨ps, h1, h2⟩ := h
      subst h2
      obtain ⟨a, vs, rfl, h3, h4⟩ := hd
      exact .lst h3.sq (dps_of r n xs vs ps h1 h4)
    | ref k =>
      simp only [toP] at h
      split at h
      · rename_i xs e
        simp at h
        obtain ⟨ps, h1, h2⟩ := h
        subst h2
        obtain ⟨a, vs, rfl, _, h3, h4⟩ := lstAt r hd e
        exact .lst (SqL.of h3) (dps_of r n xs vs ps h1 h4)
      · cases h
theorem dps_of {H : Hp} {as : List Addr} {st : Sto} (r : RS P H as st) : ∀ (n : Nat) (ds : List D) (vs : List V) (ps : List PyData), ds.mapM (toP st n) = some ps → RDs P H as ds vs → DpAll P.K H vs ps := fun n ds vs ps h hd => by
  cases ds with
  | nil =>
    simp at h; subst h; cases hd; exact .nil
  | cons d ds =>
    obtain ⟨v, ws, rfl, h1, h2⟩ := hd
    obtain ⟨p, qs, e1, e2, e3⟩ := mapM_cons h
    subst e3
    exact .cons (dp_of r n d v p e1 h1) (dps_of r n ds ws qs e2 h2)
end
end
end Ev
end

section
set_option Elab.async false
set_option linter.all false
set_option maxRecDepth 100000
set_option autoImplicit false
set_option maxHeartbeats 1000000
/-! Ev5: comparisons, truth -/
namespace Ev
open PySem L2
mutual
theorem lay_of {st : Sto} : ∀ (n : Nat) (d : D) (p : PyData), toP st n d = some p → p.canLay0 = true ∧ p.depth ≤ n := fun n d p h => by
  cases n with
  | zero => simp [toP] at h
  | succ n =>
    cases d with
    | non => simp [toP] at h; subst h; exact ⟨rfl, by simp [PyData.depth]⟩
    | bl b => simp [toP] at h; subst h; exact ⟨rfl, by simp [PyData.depth]⟩
    | int b => simp [toP] at h; subst h; exact ⟨rfl, by simp [PyData.depth]⟩
    | str b => simp [toP] at h; obtain ⟨h1, h⟩ := h; subst h; exact ⟨h1, by simp [PyData.depth]⟩
    | fn b => simp [toP] at h
    | tup xs =>
      simp [toP] at h
      obtain ⟨ps, h1, h2⟩ := h
      subst h2
      obtain ⟨q1, q2⟩ := lays_of n xs ps h1
      exact ⟨by simp [PyData.canLay0, q1], by simp [PyData.depth]; omega⟩
    | rol xs =>
      simp [toP] at h
      obtain ⟨ps, h1, h2⟩ := h
      subst h2
      obtain ⟨q1, q2⟩ := lays_of n xs ps h1
      exact ⟨by simp [PyData.canLay0, q1], by simp [PyData.depth]; omega⟩
    | ref k =>
      simp only [toP] at h
      split at h
      · rename_i xs e
        simp at h
        obtain ⟨ps, h1, h2⟩ := h
        subst h2
        obtain ⟨q1, q2⟩ := lays_of n xs ps h1
        exact ⟨by simp [PyData.canLay0, q1], by simp [PyData.depth]; omega⟩
      · cases h
theorem lays_of {st : Sto} : ∀ (n : Nat) (ds : List D) (ps : List PyData), ds.mapM (toP st n) = some ps → PyData.canLayAll0 ps = true ∧ PyData.depthAll ps ≤ n := fun n ds ps h => by
  cases ds with
  | nil =>
    simp at h; subst h; exact ⟨rfl, by simp [PyData.depthAll]⟩
  | cons d ds =>
    obtain ⟨p, qs, e1, e2, e3⟩ := mapM_cons h
    subst e3
    obtain ⟨a1, a2⟩ := lay_of n d p e1
    obtain ⟨b1, b2⟩ := lays_of n ds qs e2
    exact ⟨by simp [PyData.canLayAll0, a1, b1], by simp [PyData.depthAll]; omega⟩
end
theorem shaped_toP {st : Sto} {d : D} {p : PyData} (h : toP st 64 d = some p) : SeqAt.shaped p = true := by
  obtain ⟨h1, h2⟩ := lay_of 64 d p h
  unfold SeqAt.shaped
  rw [h1, Bool.true_and]
  exact decide_eq_true (by omega)
section
variable {X : Cx} {P : Pm}
theorem eqD_split {st : Sto} {a b : D} {k : Bool} (h : eqD st a b = some k) : (∃ x y, flatD a = some x ∧ flatD b = some y ∧ scal x y = true ∧ k = decide (x = y)) ∨ ∃ p q, toP st 64 a = some p ∧ toP st 64 b = some q ∧ k = PyData.eqv p q := by
  unfold eqD at h
  split at h
  · refine .inl ⟨_, _, rfl, rfl, rfl, ?_⟩
    cases h
    rw [dec_int]
  · refine .inl ⟨_, _, rfl, rfl, rfl, ?_⟩
    cases h
    simp
  · refine .inl ⟨_, _, rfl, rfl, rfl, ?_⟩
    cases h
    simp
  · refine .inl ⟨_, _, rfl, rfl, rfl, ?_⟩
    cases h
    simp
    rename_i a b
    cases a <;> cases b <;> rfl
  · split at h
    · cases h
      exact .inr ⟨_, _, by assumption, by assumption, rfl⟩
    · cases h
theorem flat_rd {H : Hp} {as : List Addr} {d : D} {x v : V} (h : flatD d = some x) (hd : RD P H as d v) : v = x := by
  cases d <;> simp [flatD] at h <;> (subst h; exact hd)
theorem ops_eq (hK : P.K = X.K) (hu : X.A.units + 64 < cLine) : OpS X P (compareOp .Eq) evEq := by
  intro pins s σ H x y v u Q I rx ry ⟨d, e, st, as, r, hd, he, h⟩
  unfold evEq at h
  split at h
  · rename_i k hk
    rcases eqD_split hk with ⟨a, b, h1, h2, h3, h4⟩ | ⟨p, q, h1, h2, h3⟩
    · cases flat_rd h1 hd; cases flat_rd h2 he
      exact op_eq pins s σ H _ _ v u Q I rx ry ⟨h3, h.here r (by rw [h4]; rfl)⟩
    · exact op_eqD hu pins s σ H _ _ v u Q I rx ry ⟨p, q, hK ▸ dp_of r _ _ _ _ h1 hd, hK ▸ dp_of r _ _ _ _ h2 he, shaped_toP h1, shaped_toP h2, h.here r (by rw [h3]; rfl)⟩
  · exact h.elim
theorem ops_ne (hK : P.K = X.K) (hu : X.A.units + 64 < cLine) : OpS X P (compareOp .NotEq) evNe := by
  intro pins s σ H x y v u Q I rx ry ⟨d, e, st, as, r, hd, he, h⟩
  unfold evNe at h
  split at h
  · rename_i k hk
    rcases eqD_split hk with ⟨a, b, h1, h2, h3, h4⟩ | ⟨p, q, h1, h2, h3⟩
    · cases flat_rd h1 hd; cases flat_rd h2 he
      exact op_ne pins s σ H _ _ v u Q I rx ry ⟨h3, h.here r (by rw [h4]; rfl)⟩
    · exact op_neD hu pins s σ H _ _ v u Q I rx ry ⟨p, q, hK ▸ dp_of r _ _ _ _ h1 hd, hK ▸ dp_of r _ _ _ _ h2 he, shaped_toP h1, shaped_toP h2, h.here r (by rw [h3]; rfl)⟩
  · exact h.elim
theorem ops_lt : OpS X P (compareOp .Lt) evLt := opsI0 op_lt fun d e st P H as Q h => by
  unfold evLt at h ⊢
  split at h
  · exact ⟨_, _, _, rfl, rfl, rfl, rfl⟩
  · exact h.elim
theorem ops_le : OpS X P (compareOp .LtE) evLe := opsI0 op_le fun d e st P H as Q h => by
  unfold evLe at h ⊢
  split at h
  · exact ⟨_, _, _, rfl, rfl, rfl, rfl⟩
  · exact h.elim
theorem ops_gt : OpS X P (compareOp .Gt) evGt := opsI0 op_gt fun d e st P H as Q h => by
  unfold evGt at h ⊢
  split at h
  · exact ⟨_, _, _, rfl, rfl, rfl, rfl⟩
  · exact h.elim
theorem ops_ge : OpS X P (compareOp .GtE) evGe := opsI0 op_ge fun d e st P H as Q h => by
  unfold evGe at h ⊢
  split at h
  · exact ⟨_, _, _, rfl, rfl, rfl, rfl⟩
  · exact h.elim
/-- what is a list or tuple -/
theorem itemsAt {H : Hp} {as : List Addr} {st : Sto} {d : D} {v : V} {xs : List D} (hK : P.K = X.K) (r : RS P H as st) (hd : RD P H as d v) (e : itemsD st d = some xs) :
    ∃ a vs, v = .ref a ∧ RDs P H as xs vs ∧ ((SqL X.K H a vs ∧ ∀ ys, d ≠ .tup ys) ∨ (SqT X.K H a vs ∧ d = .tup xs)) := by
  cases d with
  | tup ys =>
    cases e
    obtain ⟨a, vs, rfl, h1, h2⟩ := hd
    exact ⟨a, vs, rfl, h2, .inr ⟨hK ▸ h1, rfl⟩⟩
  | rol ys =>
    cases e
    obtain ⟨a, vs, rfl, h1, h2⟩ := hd
    exact ⟨a, vs, rfl, h2, .inl ⟨hK ▸ h1.sq, fun _ => nofun⟩⟩
  | ref n =>
    simp only [itemsD] at e
    split at e
    · cases e
      obtain ⟨a, vs, rfl, _, h3, h4⟩ := lstAt r hd (by assumption)
      exact ⟨a, vs, rfl, h4, .inl ⟨SqL.of h3, fun _ => nofun⟩⟩
    · cases e
  | non => cases e
  | bl _ => cases e
  | int _ => cases e
  | str _ => cases e
  | fn _ => cases e
theorem flats_rd {H : Hp} {as : List Addr} : ∀ {ds : List D} {us vs : List V}, ds.mapM flatD = some us → RDs P H as ds vs → vs = us ∧ us.all flatV = true
  | [], us, vs, h, hd => by simp at h; subst h; cases hd; exact ⟨rfl, rfl⟩
  | d :: ds, us, vs, h, hd => by
    obtain ⟨x, ys, h1, h2, rfl⟩ := mapM_cons h
    obtain ⟨v, ws, rfl, q1, q2⟩ := hd
    obtain ⟨e1, e2⟩ := flats_rd h2 q2
    subst e1
    cases flat_rd h1 q1
    refine ⟨rfl, ?_⟩
    rw [List.all_cons, e2, Bool.and_true]
    cases d <;> simp [flatD] at h1 <;> (subst h1; rfl)
theorem inD_split {H : Hp} {as : List Addr} {st : Sto} {d e : D} {x y : V} {k : Bool} (hK : P.K = X.K) (r : RS P H as st) (hd : RD P H as d x) (he : RD P H as e y) (h : inD st d e = some k) :
    ∃ p xs, y = .ref p ∧ (SqL X.K H p xs ∨ SqT X.K H p xs) ∧ flatV x = true ∧ xs.all flatV = true ∧ k = inV x xs := by
  unfold inD at h
  split at h
  · rename_i a ys h1 h2
    split at h
    · rename_i us h3
      cases h
      obtain ⟨p, vs, rfl, q1, q2⟩ := itemsAt hK r he h2
      obtain ⟨e1, e2⟩ := flats_rd h3 q1
      subst e1
      cases flat_rd h1 hd
      refine ⟨p, vs, rfl, q2.imp (·.1) (·.1), ?_, e2, rfl⟩
      cases d <;> simp [flatD] at h1 <;> (subst h1; rfl)
    · cases h
  · cases h
theorem ops_in (hK : P.K = X.K) : OpS X P (compareOp .In) evIn := by
  intro pins s σ H x y v u Q I rx ry ⟨d, e, st, as, r, hd, he, h⟩
  unfold evIn at h
  split at h
  · rename_i k hk
    obtain ⟨p, xs, rfl, h1, h2, h3, h4⟩ := inD_split hK r hd he hk
    exact op_in_seq pins s σ H _ _ v u Q I rx ry ⟨p, xs, rfl, h1, h2, h3, h.here r (by rw [h4]; rfl)⟩
  · exact h.elim
theorem ops_notIn (hK : P.K = X.K) : OpS X P (compareOp .NotIn) evNotIn := by
  intro pins s σ H x y v u Q I rx ry ⟨d, e, st, as, r, hd, he, h⟩
  unfold evNotIn at h
  split at h
  · rename_i k hk
    obtain ⟨p, xs, rfl, h1, h2, h3, h4⟩ := inD_split hK r hd he hk
    exact op_notIn_seq pins s σ H _ _ v u Q I rx ry ⟨p, xs, rfl, h1, h2, h3, h.here r (by rw [h4]; rfl)⟩
  · exact h.elim
/-- truth -/
theorem tru_of {H : Hp} {as : List Addr} {st : Sto} {d : D} {v : V} {k : Bool} (hK : P.K = X.K) (r : RS P H as st) (hd : RD P H as d v) (h : truD st d = some k) : TruV X.K v H k := by
  cases d with
  | non => cases h; cases hd; rfl
  | bl b => cases h; cases hd; rfl
  | int i => cases h; cases hd; rfl
  | str x =>
    simp only [truD] at h
    split at h
    · cases h; cases hd
      exact ⟨by rw [sizeLine_eq]; assumption, rfl⟩
    · cases h
  | tup xs =>
    cases h
    obtain ⟨a, vs, rfl, h1, h2⟩ := hd
    refine .inr (.inl ⟨vs, hK ▸ h1, ?_⟩)
    have := h2.length
    cases xs <;> cases vs <;> simp at this ⊢
  | rol xs =>
    cases h
    obtain ⟨a, vs, rfl, h1, h2⟩ := hd
    refine .inl ⟨vs, hK ▸ h1.sq, ?_⟩
    have := h2.length
    cases xs <;> cases vs <;> simp at this ⊢
  | ref n =>
    simp only [truD] at h
    split at h
    next xs e =>
      cases h
      obtain ⟨a, vs, rfl, _, h3, h4⟩ := lstAt r hd e
      refine .inl ⟨vs, SqL.of h3, ?_⟩
      have := h4.length
      cases xs <;> cases vs <;> simp at this ⊢
    next xs e =>
      cases h
      obtain ⟨a, vs, rfl, _, h3, h4⟩ := dctAt r hd e
      refine .inr (.inr ⟨vs, h3, ?_⟩)
      have := congrArg List.length h4.1
      cases xs <;> cases vs <;> simp at this ⊢
    next => cases h
  | fn _ => cases h
end
end Ev
end

section
set_option Elab.async false
set_option linter.all false
set_option maxRecDepth 100000
set_option autoImplicit false
set_option maxHeartbeats 1000000
/-! Ev6: built-in calls, subscripts, slices, methods -/
namespace Ev
open PySem L2
def CallS (X : Cx) (P : Pm) (f : Value) (b : D → Sto → Out D) : Prop :=
  CallR X f (fun xs H Q => ∃ v d st as, xs = [v] ∧ RS P H as st ∧ RD P H as d v ∧ OOk P H as (RDr P) (b d st) Q fun _ _ => False)
section
variable {X : Cx} {P : Pm}
theorem intsD_eq : ∀ {ds : List D} {ns : List Int}, intsD ds = some ns → ds = ns.map D.int
  | [], ns, h => by cases h; rfl
  | d :: ds, ns, h => by
    cases d <;> simp [intsD] at h
    obtain ⟨a, h1, rfl⟩ := h
    rw [intsD_eq h1]; rfl
theorem blsD_eq : ∀ {ds : List D} {ns : List Bool}, blsD ds = some ns → ds = ns.map D.bl
  | [], ns, h => by cases h; rfl
  | d :: ds, ns, h => by
    cases d <;> simp [blsD] at h
    obtain ⟨a, h1, rfl⟩ := h
    rw [blsD_eq h1]; rfl
theorem bs_len (hK : P.K = X.K) : CallS X P (.builtin "len") biLen := by
  intro pins s σ H xs us Q I rv ⟨v, d, st, as, e0, r, hd, h⟩
  subst e0
  cases d with
  | str x =>
    simp only [biLen] at h
    split at h
    · cases hd
      exact call_len pins s σ H _ us Q I rv ⟨_, _, rfl, ⟨by rw [sizeLine_eq]; assumption, rfl⟩, h.here r rfl⟩
    · exact h.elim
  | tup ys =>
    obtain ⟨a, vs, rfl, h1, h2⟩ := hd
    exact call_len pins s σ H _ us Q I rv ⟨_, _, rfl, .inr ⟨vs, hK ▸ h1, rfl⟩, by rw [← h2.length]; exact h.here r rfl⟩
  | rol ys =>
    obtain ⟨a, vs, rfl, h1, h2⟩ := hd
    exact call_len pins s σ H _ us Q I rv ⟨_, _, rfl, .inl ⟨vs, hK ▸ h1.sq, rfl⟩, by rw [← h2.length]; exact h.here r rfl⟩
  | ref n =>
    simp only [biLen] at h
    split at h
    next ys e =>
      obtain ⟨a, vs, rfl, _, h1, h2⟩ := lstAt r hd e
      exact call_len pins s σ H _ us Q I rv ⟨_, _, rfl, .inl ⟨vs, SqL.of h1, rfl⟩, by rw [← h2.length]; exact h.here r rfl⟩
    next ys e =>
      obtain ⟨a, vs, rfl, _, h1, h2⟩ := dctAt r hd e
      have hl := congrArg List.length h2.1
      simp at hl
      exact call_lenD pins s σ H _ us Q I rv ⟨a, vs, rfl, h1, by rw [hl]; exact h.here r rfl⟩
    next => exact h.elim
  | non => exact h.elim
  | bl _ => exact h.elim
  | int _ => exact h.elim
  | fn _ => exact h.elim
theorem bs_abs : CallS X P (.builtin "abs") biAbs := by
  intro pins s σ H xs us Q I rv ⟨v, d, st, as, e0, r, hd, h⟩
  subst e0
  unfold biAbs at h
  split at h
  · cases hd
    exact call_abs pins s σ H _ us Q I rv ⟨_, rfl, h.here r rfl⟩
  · exact h.elim
theorem bs_int : CallS X P (.type "int") biInt := by
  intro pins s σ H xs us Q I rv ⟨v, d, st, as, e0, r, hd, h⟩
  subst e0
  unfold biInt at h
  split at h
  · cases hd
    exact call_int1 pins s σ H _ us Q I rv (.inl ⟨_, rfl, h.here r rfl⟩)
  · cases hd
    exact call_int1 pins s σ H _ us Q I rv (.inr ⟨_, rfl, h.here r rfl⟩)
  · exact h.elim
theorem bs_tuple (hK : P.K = X.K) : CallS X P (.type "tuple") biTuple := by
  intro pins s σ H xs us Q I rv ⟨v, d, st, as, e0, r, hd, h⟩
  subst e0
  simp only [biTuple] at h
  split at h
  · rename_i ys e
    split at h
    · rename_i hl
      obtain ⟨a, vs, rfl, q1, q2⟩ := itemsAt hK r hd e
      rcases q2 with ⟨q2, _⟩ | ⟨q2, q3⟩
      · exact call_tuple_of pins s σ H _ us Q I rv ⟨a, vs, rfl, .inl ⟨q2, fun l hl => h.newT r q1 hl⟩⟩
      · exact call_tuple_of pins s σ H _ us Q I rv ⟨a, vs, rfl, .inr ⟨q2, h.here r ⟨a, vs, rfl, hK ▸ q2, q1⟩⟩⟩
    · exact h.elim
  · exact h.elim
theorem bs_list (hK : P.K = X.K) : CallS X P (.type "list") biList := by
  intro pins s σ H xs us Q I rv ⟨v, d, st, as, e0, r, hd, h⟩
  subst e0
  simp only [biList] at h
  split at h
  · rename_i ys e
    unfold Ev.newL at h
    split at h
    · obtain ⟨a, vs, rfl, q1, q2⟩ := itemsAt hK r hd e
      exact call_list_of pins s σ H _ us Q I rv ⟨a, vs, rfl, q2.imp (·.1) (·.1), fun l hl => h.newL r q1 hl⟩
    · exact h.elim
  · exact h.elim
theorem bs_sum (hc : X.calm = true) : CallS X P (.builtin "sum") biSum := by
  intro pins s σ H xs us Q I rv ⟨v, d, st, as, e0, r, hd, h⟩
  subst e0
  unfold biSum at h
  split at h
  · split at h
    · rename_i e
      split at h
      · rename_i hn
        obtain ⟨a, vs, rfl, _, h1, h2⟩ := lstAt r hd e
        rw [intsD_eq hn] at h2
        rw [h2.ints] at h1
        exact cr_sum hc pins s σ H _ us Q I rv ⟨a, _, rfl, SqL.of h1, h.here r rfl⟩
      · exact h.elim
    · exact h.elim
  · exact h.elim
theorem bs_all (hc : X.calm = true) : CallS X P (.builtin "all") biAll := by
  intro pins s σ H xs us Q I rv ⟨v, d, st, as, e0, r, hd, h⟩
  subst e0
  unfold biAll at h
  split at h
  · split at h
    · rename_i e
      split at h
      · rename_i hn
        obtain ⟨a, vs, rfl, _, h1, h2⟩ := lstAt r hd e
        rw [blsD_eq hn] at h2
        rw [h2.bls] at h1
        exact cr_all hc pins s σ H _ us Q I rv ⟨a, _, rfl, SqL.of h1, h.here r rfl⟩
      · exact h.elim
    · exact h.elim
  · exact h.elim
theorem bs_any (hc : X.calm = true) : CallS X P (.builtin "any") biAny := by
  intro pins s σ H xs us Q I rv ⟨v, d, st, as, e0, r, hd, h⟩
  subst e0
  unfold biAny at h
  split at h
  · split at h
    · rename_i e
      split at h
      · rename_i hn
        obtain ⟨a, vs, rfl, _, h1, h2⟩ := lstAt r hd e
        rw [blsD_eq hn] at h2
        rw [h2.bls] at h1
        exact cr_any hc pins s σ H _ us Q I rv ⟨a, _, rfl, SqL.of h1, h.here r rfl⟩
      · exact h.elim
    · exact h.elim
  · exact h.elim

/-! ### sorting -/
theorem insI_perm (x : Int) : ∀ l : List Int, (insI x l).Perm (x :: l)
  | [] => .refl _
  | y :: ys => by
    unfold insI
    split
    · exact .refl _
    · exact ((insI_perm x ys).cons y).trans (.swap x y ys)
theorem sortInts_perm : ∀ l : List Int, (sortInts l).Perm l
  | [] => .refl _
  | x :: xs => (insI_perm x _).trans ((sortInts_perm xs).cons x)
theorem insI_sorted (x : Int) : ∀ l : List Int, l.Pairwise (· ≤ ·) → (insI x l).Pairwise (· ≤ ·)
  | [], _ => by simp [insI]
  | y :: ys, h => by
    obtain ⟨h1, h2⟩ := List.pairwise_cons.mp h
    unfold insI
    split
    · rename_i hxy
      refine List.pairwise_cons.mpr ⟨fun z hz => ?_, h⟩
      rcases List.mem_cons.mp hz with e | e
      · omega
      · have := h1 z e
        omega
    · rename_i hxy
      refine List.pairwise_cons.mpr ⟨fun z hz => ?_, insI_sorted x ys h2⟩
      rcases List.mem_cons.mp ((insI_perm x ys).mem_iff.mp hz) with e | e
      · omega
      · exact h1 z e
theorem sortInts_sorted : ∀ l : List Int, (sortInts l).Pairwise (· ≤ ·)
  | [] => .nil
  | x :: xs => insI_sorted x _ (sortInts_sorted xs)
theorem sorted_one : ∀ {l l' : List Int}, l.Perm l' → l.Pairwise (· ≤ ·) → l'.Pairwise (· ≤ ·) → l = l'
  | [], l', p, _, _ => (List.nil_perm.mp p).symm
  | x :: xs, [], p, _, _ => absurd (List.perm_nil.mp p) (by simp)
  | x :: xs, y :: ys, p, h, g => by
    obtain ⟨h1, h2⟩ := List.pairwise_cons.mp h
    obtain ⟨g1, g2⟩ := List.pairwise_cons.mp g
    have e : x = y := by
      rcases List.mem_cons.mp (p.mem_iff.mp List.mem_cons_self) with e | e
      · exact e
      · rcases List.mem_cons.mp (p.mem_iff.mpr List.mem_cons_self) with e' | e'
        · exact e'.symm
        · have a := h1 y e'
          have b := g1 x e
          omega
    subst e
    rw [sorted_one (List.Perm.cons_inv p) h2 g2]
theorem keyInts_eq : ∀ {kvs : List (Key × D)} {ks : List Int}, keyInts kvs = some ks → kvs.map (·.1) = ks.map Sum.inl
  | [], ks, h => by cases h; rfl
  | (k, d) :: r, ks, h => by
    cases k <;> simp [keyInts] at h
    obtain ⟨a, h1, rfl⟩ := h
    simp [keyInts_eq h1]
theorem bs_sortK (hc : X.calm = true) : CallS X P (.builtin "sorted") biSortK := by
  intro pins s σ H xs us Q I rv ⟨v, d, st, as, e0, r, hd, h⟩
  subst e0
  unfold biSortK at h
  split at h
  · split at h
    · rename_i e
      split at h
      · rename_i ks hk
        split at h
        · rename_i hl
          unfold Ev.newL at h
          split at h
          · obtain ⟨a, vs, rfl, _, h1, h2⟩ := dctAt r hd e
            refine call_sortedDI hc pins s σ H _ us Q I rv ⟨a, vs, ks, rfl, .inl h1, by rw [h2.1, keyInts_eq hk], hl, fun ys p hp hs hn => ?_⟩
            have e1 : ys = sortInts ks := sorted_one (hp.trans (sortInts_perm ks).symm) hs (sortInts_sorted ks)
            rw [e1]
            refine h.newL r ?_ hn
            have hin : ∀ l : List Int, RDs P H as (l.map D.int) (l.map V.int) := fun l => by
              induction l with
              | nil => rfl
              | cons a l ih => exact ⟨_, _, rfl, rfl, ih⟩
            exact hin _
          · exact h.elim
        · exact h.elim
      · exact h.elim
    · exact h.elim
  · exact h.elim
end
end Ev
end

section
set_option Elab.async false
set_option linter.all false
set_option maxRecDepth 100000
set_option autoImplicit false
set_option maxHeartbeats 1000000
/-! Ev7: repr, isinstance(x, tuple) -/
namespace Ev
open PySem L2 PySem.Spec PyProof.Rows
mutual
theorem noDict_of : ∀ p : PyData, p.canLay0 = true → p.hasDict = false
  | .none, _ => rfl
  | .bool _, _ => rfl
  | .int _, _ => rfl
  | .str _, _ => rfl
  | .list xs, h => by simp only [PyData.hasDict]; exact noDicts_of xs (by simpa only [PyData.canLay0] using h)
  | .tuple xs, h => by simp only [PyData.hasDict]; exact noDicts_of xs (by simpa only [PyData.canLay0] using h)
  | .dict _, h => by simp [PyData.canLay0] at h
theorem noDicts_of : ∀ ps : List PyData, PyData.canLayAll0 ps = true → PyData.hasDictAll ps = false
  | [], _ => rfl
  | p :: ps, h => by
    simp only [PyData.canLayAll0, Bool.and_eq_true] at h
    simp only [PyData.hasDictAll, noDict_of p h.1, noDicts_of ps h.2, Bool.or_false]
end
section
variable {X : Cx} {P : Pm}
theorem bs_repr (hK : P.K = X.K) (hg : X.A.guards = some []) (hu : X.A.units + 80 < cLine) : CallS X P (.builtin "repr") biRepr := by
  intro pins s σ H xs us Q I rv ⟨v, d, st, as, e0, r, hd, h⟩
  subst e0
  obtain ⟨u, rfl, ru⟩ := rv.one
  simp only [biRepr] at h
  split at h
  next p hp =>
    split at h
    next hs =>
      obtain ⟨s1, s2⟩ := Bool.and_eq_true_iff.mp hs
      have s2' : p.shown.length ≤ sizeLine := by rw [sizeLine_eq]; exact of_decide_eq_true s2
      have q := h.here (v := V.str p.shown) r rfl
      obtain ⟨l1, l2⟩ := lay_of 64 d p hp
      have hdp : Dp X.K H v p := hK ▸ dp_of r _ _ _ _ hp hd
      obtain ⟨bs, rd⟩ := Dp.reads I p v u hdp ru
      have hsm : p.hasDict = true → sysModules ∉ bs := PyData.noDict_hsm (noDict_of p l1)
      have fin : ∀ (h' : Heap) (tk : Nat) (t : Tok), (∀ b o, s.heap.get? b = some o → h'.get? b = some o) → EP X pins σ Q (.str p.shown t) { s with heap := h', toks := tk } := fun h' tk t hk => ⟨.str p.shown, H, I.kept hk, ⟨t, rfl⟩, q⟩
      cases rd with
      | none => exact PySem.P.repr_of_none (fin s.heap _ _ fun _ _ e => e)
      | bool b => exact PySem.P.repr_of_bool (fin s.heap _ _ fun _ _ e => e)
      | int i t => exact PySem.P.repr_of_int (by simpa [PyData.showable] using s1) (fin s.heap _ _ fun _ _ e => e)
      | str x t => exact PySem.P.repr_of_str (fin s.heap _ _ fun _ _ e => e) s2'
      | list a1 a2 a3 a4 => exact repr_of_reads' (.list a1 a2 a3 a4) s1 hsm hg (by omega) (fun _ _ e => e) (fun h' t tk hk => fin h' tk t hk) s2'
      | tuple a1 a2 a3 a4 => exact repr_of_reads' (.tuple a1 a2 a3 a4) s1 hsm hg (by omega) (fun _ _ e => e) (fun h' t tk hk => fin h' tk t hk) s2'
      | dict a1 a2 a3 a4 a5 => simp [PyData.canLay0] at l1
    next => exact h.elim
  next => exact h.elim

theorem rol_ty {H : Hp} {a : Addr} {vs : List V} (h : SqR X.K H a vs) : TyX X.K H (.ref a) (.type "list") := by
  rcases h with ⟨o, h⟩ | ⟨o, its, n, h1, h2, _⟩
  · exact .base (.frz h)
  · exact .kList h1 h2
theorem tup_ty {H : Hp} {a : Addr} {vs : List V} (h : SqT X.K H a vs) : TyX X.K H (.ref a) (.type "tuple") := by
  rcases h with (h | ⟨o, h⟩) | ⟨o, its, n, h1, h2, _⟩
  · exact .base (.tup h)
  · exact .fTuple h
  · exact .kTuple h1 h2
theorem bs_is (hK : P.K = X.K) (T : String) : CallR X (.builtin "isinstance") (fun xs H Q => ∃ v d st as, xs = [v, .ty T] ∧ RS P H as st ∧ RD P H as d v ∧ OOk P H as (RDr P) (biIs T d st) Q fun _ _ => False) := by
  intro pins s σ H xs us Q I rv ⟨v, d, st, as, e0, r, hd, h⟩
  unfold biIs at h
  split at h
  next t ht =>
    split at h
    next b hb =>
      refine call_isi pins s σ H xs us Q I rv ⟨v, .ty T, .type t, .type T, b, e0, .ty T, ?_, kit_ty hb, h.here r rfl⟩
      cases d with
      | non => cases ht; cases hd; exact .base .non
      | bl _ => cases ht; cases hd; exact .base (.bl _)
      | int _ => cases ht; cases hd; exact .base (.int _)
      | str _ => cases ht; cases hd; exact .base (.str _)
      | tup _ =>
        cases ht
        obtain ⟨a, vs, rfl, h1, _⟩ := hd
        exact tup_ty (hK ▸ h1)
      | rol _ =>
        cases ht
        obtain ⟨a, vs, rfl, h1, _⟩ := hd
        exact rol_ty (hK ▸ h1)
      | ref n =>
        simp only [tyN] at ht
        split at ht
        next e =>
          cases ht
          obtain ⟨a, vs, rfl, _, h3, _⟩ := lstAt r hd e
          exact .base (.lst h3)
        next e =>
          cases ht
          obtain ⟨a, vs, rfl, _, h3, _⟩ := dctAt r hd e
          exact .base (.dK h3)
        next => cases ht
      | fn _ => cases ht
    next => exact h.elim
  next => exact h.elim
end
end Ev
end

section
set_option Elab.async false
set_option linter.all false
set_option maxRecDepth 100000
set_option autoImplicit false
set_option maxHeartbeats 1000000
/-! Ev8: forgetting; expressions -/
namespace Ev
open PySem L2
section
variable {P : Pm} {H : Hp} {as new : List Addr}
mutual
theorem RD.cut : ∀ (d : D) (v : V), closed as.length d = true → RD P H (as ++ new) d v → RD P H as d v
  | .non, _, _, h => h
  | .bl _, _, _, h => h
  | .int _, _, _, h => h
  | .str _, _, _, h => h
  | .tup xs, _, c, ⟨a, vs, e, h1, h2⟩ => ⟨a, vs, e, h1, RDs.cut xs vs (by simpa only [closed] using c) h2⟩
  | .rol xs, _, c, ⟨a, vs, e, h1, h2⟩ => ⟨a, vs, e, h1, RDs.cut xs vs (by simpa only [closed] using c) h2⟩
  | .ref n, _, c, ⟨a, e, h⟩ => ⟨a, e, by
      have hn : n < as.length := by simpa only [closed, decide_eq_true_eq] using c
      rw [List.getElem?_append_left hn] at h
      exact h⟩
  | .fn _, _, _, h => h
theorem RDs.cut : ∀ (ds : List D) (vs : List V), closeds as.length ds = true → RDs P H (as ++ new) ds vs → RDs P H as ds vs
  | [], _, _, h => h
  | x :: xs, _, c, ⟨v, ws, e, h1, h2⟩ => by
    simp only [closeds, Bool.and_eq_true] at c
    exact ⟨v, ws, e, RD.cut x v c.1 h1, RDs.cut xs ws c.2 h2⟩
end
theorem RO.cut {a : Addr} {o : MO} (c : closedO as.length o = true) (h : RO P H (as ++ new) a o) : RO P H as a o := by
  cases o with
  | lst xs => obtain ⟨vs, e, z⟩ := h; exact ⟨vs, e, RDs.cut _ _ c z⟩
  | dct k => obtain ⟨vs, e, z1, z2⟩ := h; exact ⟨vs, e, z1, RDs.cut _ _ c z2⟩
  | lok k => obtain ⟨o, vs, e, z1, z2⟩ := h; exact ⟨o, vs, e, z1, RDs.cut _ _ c z2⟩
mutual
theorem RD.grow : ∀ (d : D) (v : V), RD P H as d v → RD P H (as ++ new) d v
  | .non, _, h => h
  | .bl _, _, h => h
  | .int _, _, h => h
  | .str _, _, h => h
  | .tup xs, _, ⟨a, vs, e, h1, h2⟩ => ⟨a, vs, e, h1, RDs.grow xs vs h2⟩
  | .rol xs, _, ⟨a, vs, e, h1, h2⟩ => ⟨a, vs, e, h1, RDs.grow xs vs h2⟩
  | .ref n, _, ⟨a, e, h⟩ => ⟨a, e, by
      rw [List.getElem?_append_left (List.getElem?_eq_some_iff.mp h).1]
      exact h⟩
  | .fn _, _, h => h
theorem RDs.grow : ∀ (ds : List D) (vs : List V), RDs P H as ds vs → RDs P H (as ++ new) ds vs
  | [], _, h => h
  | x :: xs, _, ⟨v, ws, e, h1, h2⟩ => ⟨v, ws, e, RD.grow x v h1, RDs.grow xs ws h2⟩
end
theorem RO.grow {a : Addr} {o : MO} (h : RO P H as a o) : RO P H (as ++ new) a o := by
  cases o with
  | lst xs => obtain ⟨vs, e, z⟩ := h; exact ⟨vs, e, RDs.grow _ _ z⟩
  | dct k => obtain ⟨vs, e, z1, z2⟩ := h; exact ⟨vs, e, z1, RDs.grow _ _ z2⟩
  | lok k => obtain ⟨o, vs, e, z1, z2⟩ := h; exact ⟨o, vs, e, z1, RDs.grow _ _ z2⟩
end
/-- the younger objects forgotten -/
theorem RS.cut {P : Pm} {H : Hp} {as new : List Addr} {st : Sto} (r : RS P H (as ++ new) st) (c : (st.take as.length).all (closedO as.length) = true) : RS P H as (st.take as.length) := by
  have hl := r.len
  rw [List.length_append] at hl
  refine ⟨by rw [List.length_take]; omega, (List.nodup_append.mp r.nd).1, fun n o h => ?_⟩
  have hn : n < as.length := by
    have := (List.getElem?_eq_some_iff.mp h).1
    rw [List.length_take] at this
    omega
  have h' : st[n]? = some o := by rw [← h, List.getElem?_take_of_lt hn]
  obtain ⟨a, h1, h2⟩ := r.ob n o h'
  rw [List.getElem?_append_left hn] at h1
  exact ⟨a, h1, RO.cut (List.all_eq_true.mp c o (List.mem_of_getElem? h)) h2⟩
theorem Stp.cut {H H' : Hp} {as new : List Addr} (s : Stp H as H' (as ++ new)) : Stp H as H' as := ⟨⟨[], by simp, by simp⟩, s.fr, s.so, s.fz⟩
theorem gc_ok {P : Pm} {H : Hp} {as : List Addr} {st st' : Sto} {d : D} {Q : VK} {E : Addr → Hp → Prop} (r : RS P H as st) (h : OOk P H as (RDr P) (gc st.length d st') Q E) : OOk P H as (RDr P) (.ok d st') Q E := by
  intro v H' as' s r' hd
  obtain ⟨new, rfl, hf⟩ := s.pre
  rw [← r.len] at h
  unfold gc at h
  split at h
  · rename_i c1
    split at h
    · rename_i c2
      exact h v H' as s.cut (r'.cut c1) (RD.cut d v c2 hd)
    · rename_i c2
      cases d with
      | ref k =>
        dsimp only at h
        split at h
        next o ho =>
          split at h
          · rename_i c3
            obtain ⟨a, rfl, ha⟩ := hd
            obtain ⟨b, hb, ro⟩ := r'.ob k o ho
            rw [ha] at hb; cases hb
            have hk : a ∈ new := by
              rw [List.getElem?_append_right c3.2] at ha
              exact List.mem_of_getElem? ha
            have rc := r'.cut c1
            have hl : as.length = (List.take as.length st').length := rc.len
            have hna : a ∉ as := fun hm => (List.nodup_append.mp r'.nd).2.2 a hm a hk rfl
            refine h _ H' (as ++ [a]) ⟨⟨[a], rfl, fun b hb => by rw [List.mem_singleton.mp hb]; exact hf a hk⟩, s.fr, s.so, s.fz⟩ ⟨by rw [List.length_append, List.length_append, ← hl]; rfl, List.nodup_append.mpr ⟨rc.nd, by simp, fun x hx y hy => by rw [List.mem_singleton.mp hy]; rintro rfl; exact hna hx⟩, fun n q hq => ?_⟩ ⟨a, rfl, by rw [List.getElem?_append_right (Nat.le_refl _), Nat.sub_self]; rfl⟩
            by_cases hn : n < as.length
            · rw [List.getElem?_append_left (by rw [← hl]; exact hn)] at hq
              obtain ⟨b, h1, h2⟩ := rc.ob n q hq
              exact ⟨b, by rw [List.getElem?_append_left hn]; exact h1, RO.grow h2⟩
            · have hn2 : n = as.length := by
                have := (List.getElem?_eq_some_iff.mp hq).1
                rw [List.length_append, ← hl] at this
                simp at this
                omega
              subst hn2
              rw [List.getElem?_append_right (by rw [← hl]; exact Nat.le_refl _), ← hl, Nat.sub_self] at hq
              simp at hq
              subst hq
              exact ⟨a, by rw [List.getElem?_append_right (Nat.le_refl _), Nat.sub_self]; rfl, RO.grow (RO.cut c3.1 ro)⟩
          · exact h v H' _ s r' hd
        next => exact h v H' _ s r' hd
      | non => exact h v H' _ s r' hd
      | bl _ => exact h v H' _ s r' hd
      | int _ => exact h v H' _ s r' hd
      | str _ => exact h v H' _ s r' hd
      | tup _ => exact h v H' _ s r' hd
      | rol _ => exact h v H' _ s r' hd
      | fn _ => exact h v H' _ s r' hd
  · exact h v H' _ s r' hd

theorem OOk.bind {α β γ δ : Type} {P : Pm} {H : Hp} {as : List Addr} {rel : Hp → List Addr → α → β → Prop} {rel2 : Hp → List Addr → γ → δ → Prop} {o : Out α} {f : α → Sto → Out γ} {Q : δ → Hp → Prop} {E : Addr → Hp → Prop} (h : OOk P H as rel2 (o.bind f) Q E) :
    OOk P H as rel o (fun v H' => ∃ d st' as', Stp H as H' as' ∧ RS P H' as' st' ∧ rel H' as' d v ∧ OOk P H' as' rel2 (f d st') Q E) E := by
  cases o with
  | ok d st' => exact fun v H' as' s r hd => ⟨d, st', as', s, r, hd, OOk.step s h⟩
  | exc c st' => exact h
  | stk => exact h
theorem OOk.noexc {α β : Type} {P : Pm} {H : Hp} {as : List Addr} {rel : Hp → List Addr → α → β → Prop} {o : Out α} {Q : β → Hp → Prop} {E E' : Addr → Hp → Prop} (h : OOk P H as rel (Ev.noexc o) Q E) : OOk P H as rel o Q E' := by
  cases o with
  | ok d st' => exact h
  | exc c st' => exact h.elim
  | stk => exact h

/-- where a body runs -/
structure Cok (X : Cx) (P : Pm) (W : WX) (k : Nat) : Prop where
  hK : P.K = X.K
  calm : X.calm = true
  nd : X.N.Nodup
  tk : Takes X W
  gd : X.A.guards = some []
  rm : Room k X.A
  un : X.A.units + 200 < cLine
  po : PassesOwn (model X.prog X.w) X.A X.env X.xe
abbrev SE (X : Cx) (P : Pm) (W : WX) (F : Fns) (e : Expr) (c : E) : Prop := PE X e (tO P W (evE F c))
abbrev ST (X : Cx) (P : Pm) (W : WX) (F : Fns) (e : Expr) (c : E) : Prop := PT X e (tT P W (evT F c))
abbrev SA (X : Cx) (P : Pm) (W : WX) (F : Fns) (es : List Expr) (cs : EL) : Prop := PA X es (tA P W (evEL F cs))
section
variable {X : Cx} {P : Pm} {W : WX} {k : Nat} {F : Fns} {pos : Pos}

theorem s_v (i : Nat) {x : Str} (hN : X.N[i]? = some x := by rfl) (hv : Vis X.env.scope x := by first | exact Or.inl rfl | exact Or.inr (Or.inl rfl) | exact Or.inr (Or.inr rfl)) (hd : (x == ("__debug__" : Str)) = false := by decide) (hcd : (x == ("__classdict__" : Str)) = false := by decide) : SE X P W F (.Name x pos) (.v i) :=
  PE.imp (pe_var hN hv hd hcd) fun σ H Q h => by
    obtain ⟨env, st, as, r, re, h⟩ := h
    simp only [evE] at h
    split at h
    · obtain ⟨v, h1, h2⟩ := re.at_ i _ (by assumption)
      exact ⟨v, h1, h.here r h2⟩
    · exact h.elim
theorem s_c {e : Expr} {d : D} {v : V} (h : PE X e (tC v)) (hd : ∀ H as, RD P H as d v) : SE X P W F e (.k d) :=
  PE.imp h fun σ H Q h => by
    obtain ⟨env, st, as, r, re, h⟩ := h
    exact OOk.here (P := P) (rel := RDr P) h r (hd H as)
theorem s_int {i : Int} {j : Nat} : SE X P W F (.Constant (.int i) j pos) (.k (.int i)) := s_c pe_int fun _ _ => rfl
theorem s_bl {i : Bool} {j : Nat} : SE X P W F (.Constant (.bool i) j pos) (.k (.bl i)) := s_c pe_bl fun _ _ => rfl
theorem s_non {j : Nat} : SE X P W F (.Constant .none j pos) (.k .non) := s_c pe_non fun _ _ => rfl
theorem s_str {i : Str} {j : Nat} : SE X P W F (.Constant (.str i) j pos) (.k (.str i)) := s_c pe_str fun _ _ => rfl
theorem s_glob {x : Str} {v : V} {u : Value} {d : D} (hg : Gl X x) (hm : X.mg x = some u) (rv : RelV v u) (hd : ∀ H as, RD P H as d v) (hdb : (x == ("__debug__" : Str)) = false := by decide) : SE X P W F (.Name x pos) (.k d) := s_c (pe_glob hg hm rv hdb) hd

/-- two values, then what is made of them -/
theorem two {α : Type} {ta tb : En → Sto → Out D} {g : D → D → Sto → Out D} {r : R2} {σ : L2.St} {H : Hp} {Q : VK}
    (hr : ∀ (x y : V) (H : Hp) (Q : VK), (∃ d e st as, RS P H as st ∧ RD P H as d x ∧ RD P H as e y ∧ OOk P H as (RDr P) (g d e st) Q fun _ _ => False) → r x y H Q)
    (h : tO P W (fun env st => (ta env st).bind fun x st => (tb env st).bind fun y st => noexc (g x y st)) σ H Q) : tOp r (tO P W ta) (tO P W tb) σ H Q := by
  obtain ⟨env, st, as, rs, re, h⟩ := h
  refine ⟨env, st, as, rs, re, (OOk.bind h).imp (fun x H1 q => ?_) fun _ _ z => z⟩
  obtain ⟨d, st1, as1, s1, r1, hd, h⟩ := q
  refine ⟨env, st1, as1, r1, re.mv (rs.mv s1), (OOk.bind h).imp (fun y H2 q => ?_) fun _ _ z => z⟩
  obtain ⟨e, st2, as2, s2, r2, he, h⟩ := q
  exact hr x y H2 Q ⟨d, e, st2, as2, r2, RD.mv (r1.mv s2) _ _ hd, he, h.noexc⟩
theorem s_op {op : Operator} {o : Bop} {a b : Expr} {ca cb : E} (ho : OpS X P (binaryOp op) (evOp o)) (ha : SE X P W F a ca) (hb : SE X P W F b cb) : SE X P W F (.BinOp a op b pos) (.op o ca cb) :=
  PE.imp (pe_op ho ha hb) fun σ H Q h => two (α := Unit) (fun _ _ _ _ q => q) (by simpa only [evE] using h)
theorem s_cmp {op : CmpOp} {o : Cop} {a b : Expr} {ca cb : E} (ho : OpS X P (compareOp op) (evCmp o)) (ha : SE X P W F a ca) (hb : SE X P W F b cb) (hm : behindInMarks op b = false) : SE X P W F (.Compare a [op] [b] pos) (.cmp o ca cb) :=
  PE.imp (pe_cmpR ho ha hb hm) fun σ H Q h => two (α := Unit) (fun _ _ _ _ q => q) (by simpa only [evE] using h)
theorem rd_non {H : Hp} {as : List Addr} {d : D} {v : V} (h : RD P H as d v) : decide (v = .non) = decide (d = .non) := by
  cases d with
  | non => cases h; rfl
  | bl _ => cases h; rfl
  | int _ => cases h; rfl
  | str _ => cases h; rfl
  | tup _ => obtain ⟨a, vs, rfl, _⟩ := h; rfl
  | rol _ => obtain ⟨a, vs, rfl, _⟩ := h; rfl
  | ref _ => obtain ⟨a, rfl, _⟩ := h; rfl
  | fn _ => obtain ⟨a, rfl, _⟩ := h; rfl
theorem s_isN {a : Expr} {ca : E} {j : Nat} {pos' : Pos} (ha : SE X P W F a ca) : SE X P W F (.Compare a [.Is] [.Constant .none j pos'] pos) (.isN ca) :=
  PE.imp (pe_cmp (pc_isN ha) rfl) fun σ H Q h => by
    obtain ⟨env, st, as, rs, re, h⟩ := h
    simp only [evE] at h
    refine ⟨env, st, as, rs, re, (OOk.bind h).imp (fun x H1 q => ?_) fun _ _ z => z⟩
    obtain ⟨d, st1, as1, s1, r1, hd, h⟩ := q
    exact h.here r1 (show _ = _ by rw [rd_non hd])
theorem s_notN {a : Expr} {ca : E} {j : Nat} {pos' : Pos} (ha : SE X P W F a ca) : SE X P W F (.Compare a [.IsNot] [.Constant .none j pos'] pos) (.notN ca) :=
  PE.imp (pe_cmp (pc_notN ha) rfl) fun σ H Q h => by
    obtain ⟨env, st, as, rs, re, h⟩ := h
    simp only [evE] at h
    refine ⟨env, st, as, rs, re, (OOk.bind h).imp (fun x H1 q => ?_) fun _ _ z => z⟩
    obtain ⟨d, st1, as1, s1, r1, hd, h⟩ := q
    exact h.here r1 (show _ = _ by rw [rd_non hd])

/-! ### argument lists, displays -/
theorem sa_nil : SA X P W F [] .nil := PA.imp pa_nil fun σ H Q h => by
  obtain ⟨env, st, as, rs, re, h⟩ := h
  simp only [evEL] at h
  exact h.here rs rfl
theorem sa_cons {e : Expr} {es : List Expr} {c : E} {cs : EL} (ha : SE X P W F e c) (hr : SA X P W F es cs) (hs : starEach (e :: es) X.env = (false, eval e X.env) :: starEach es X.env := by rfl) : SA X P W F (e :: es) (.cons c cs) :=
  PA.imp (pa_cons ha hr hs) fun σ H Q h => by
    obtain ⟨env, st, as, rs, re, h⟩ := h
    simp only [evEL] at h
    refine ⟨env, st, as, rs, re, (OOk.bind h).imp (fun x H1 q => ?_) fun _ _ z => z⟩
    obtain ⟨d, st1, as1, s1, r1, hd, h⟩ := q
    refine ⟨env, st1, as1, r1, re.mv (rs.mv s1), (OOk.bind h).imp (fun y H2 q => ?_) fun _ _ z => z⟩
    obtain ⟨e, st2, as2, s2, r2, he, h⟩ := q
    exact h.here r2 ⟨x, y, rfl, RD.mv (r1.mv s2) _ _ hd, he⟩
theorem s_tup {es : List Expr} {cs : EL} {x1 : Nat} (h : SA X P W F es cs) : SE X P W F (.Tuple es x1 pos) (.tup cs) :=
  PE.imp (pe_tup h) fun σ H Q h => by
    obtain ⟨env, st, as, rs, re, h⟩ := h
    simp only [evE] at h
    refine ⟨env, st, as, rs, re, (OOk.bind h).imp (fun x H1 q => ?_) fun _ _ z => z⟩
    obtain ⟨d, st1, as1, s1, r1, hd, h⟩ := q
    split at h
    · rename_i hl
      exact ⟨by rw [sizeLine_eq, ← RDs.length hd]; exact hl, fun p hp => h.newT r1 hd hp⟩
    · exact h.elim
theorem s_lst {es : List Expr} {cs : EL} (h : SA X P W F es cs) : SE X P W F (.List es pos) (.lst cs) :=
  PE.imp (pe_lst h) fun σ H Q h => by
    obtain ⟨env, st, as, rs, re, h⟩ := h
    simp only [evE] at h
    refine ⟨env, st, as, rs, re, (OOk.bind h).imp (fun x H1 q => ?_) fun _ _ z => z⟩
    obtain ⟨d, st1, as1, s1, r1, hd, h⟩ := q
    unfold Ev.newL at h
    split at h
    · rename_i hl
      exact ⟨by rw [sizeLine_eq, ← RDs.length hd]; exact hl, fun p hp => h.newL r1 hd hp⟩
    · exact h.elim
end
end Ev
end

section
set_option Elab.async false
set_option linter.all false
set_option maxRecDepth 100000
set_option autoImplicit false
set_option maxHeartbeats 1000000
/-! Ev9: subscripts, built-in calls, methods -/
namespace Ev
open PySem L2 PySem.Spec PyProof.Rows
theorem OOk.bind0 {α β γ δ : Type} {P : Pm} {H : Hp} {as : List Addr} {rel : Hp → List Addr → α → β → Prop} {rel2 : Hp → List Addr → γ → δ → Prop} {o : Out α} {f : α → Sto → Out γ} {Q : δ → Hp → Prop} {E : Addr → Hp → Prop} (h : OOk P H as rel2 (o.bind f) Q E) :
    OOk P H as rel o (fun v H' => ∃ d st' as', Stp H as H' as' ∧ RS P H' as' st' ∧ rel H' as' d v ∧ OOk P H as rel2 (f d st') Q E) E := by
  cases o with
  | ok d st' => exact fun v H' as' s r hd => ⟨d, st', as', s, r, hd, h⟩
  | exc c st' => exact h
  | stk => exact h
section
variable {X : Cx} {P : Pm} {W : WX} {k : Nat} {F : Fns} {pos : Pos}

/-! ### keys -/
theorem kV_keyD {H : Hp} {as : List Addr} {d : D} {v : V} {k : Key} (h : keyD d = some k) (hd : RD P H as d v) : v = kV k := by
  cases d <;> simp [keyD] at h <;> (subst h; exact hd)
theorem look_rel {H : Hp} {as : List Addr} : ∀ {kvs : List (Key × D)} {kus : List (Key × V)}, RKs P H as kvs kus → ∀ k, match lookK kvs k with
    | some d => ∃ v, valV kus k = some v ∧ RD P H as d v
    | none => valV kus k = none
  | [], [], _, k => rfl
  | [], _ :: _, ⟨h, _⟩, _ => by simp at h
  | _ :: _, [], ⟨h, _⟩, _ => by simp at h
  | (j, d) :: r, (i, v) :: r', ⟨h1, h2⟩, k => by
    simp only [List.map_cons, List.cons.injEq] at h1
    obtain ⟨w, ws, e, q1, q2⟩ := h2
    simp only [List.map_cons, List.cons.injEq] at e
    obtain ⟨rfl, rfl⟩ := e
    obtain ⟨e1, e2⟩ := h1
    subst e1
    by_cases hk : i = k
    · have a1 : lookK ((i, d) :: r) k = some d := by simp [lookK, List.find?_cons, hk]
      have a2 : valV ((i, v) :: r') k = some v := by rw [valV_pos hk]
      rw [a1]
      exact ⟨v, a2, q1⟩
    · have a1 : lookK ((i, d) :: r) k = lookK r k := by simp [lookK, List.find?_cons, hk]
      have a2 : valV ((i, v) :: r') k = valV r' k := by rw [valV_neg hk]
      rw [a1, a2]
      exact look_rel ⟨e2, q2⟩ k
theorem dictAt_rd {H : Hp} {as : List Addr} {st : Sto} {d : D} {v : V} {kvs : List (Key × D)} (r : RS P H as st) (hd : RD P H as d v) (h : Ev.dictAt st d = some kvs) : ∃ a kus, v = .ref a ∧ Rd H a (.dK kus) ∧ RKs P H as kvs kus := by
  cases d with
  | ref n =>
    simp only [Ev.dictAt] at h
    split at h
    · cases h
      obtain ⟨a, vs, rfl, _, h3, h4⟩ := dctAt r hd (by assumption)
      exact ⟨a, vs, rfl, .inl h3, h4⟩
    · cases h
      obtain ⟨a, o, vs, rfl, _, h3, h4⟩ := lokAt r hd (by assumption)
      exact ⟨a, vs, rfl, .inr ⟨o, h3⟩, h4⟩
    · cases h
  | non => cases h
  | bl _ => cases h
  | int _ => cases h
  | str _ => cases h
  | tup _ => cases h
  | rol _ => cases h
  | fn _ => cases h
theorem DGet.rd {H : Hp} {a : Addr} {kvs : List (Key × V)} {k : Key} (e : Rd H a (.dK kvs)) : DGet H a (kV k) (valV kvs k) := .inl ⟨kvs, k, e, rfl, rfl⟩
theorem atI_rel {H : Hp} {as : List Addr} {xs : List D} {vs : List V} {i : Int} {d : D} (h : RDs P H as xs vs) (e : atI xs i = some d) : ∃ v, atI vs i = some v ∧ RD P H as d v := by
  unfold atI at e ⊢
  rw [h.length] at e
  cases q : ixN vs.length i with
  | none => rw [q] at e; cases e
  | some j =>
    rw [q] at e
    exact h.get e

/-! ### subscripts -/
def rIxS (P : Pm) : R2 := fun x y H Q => ∃ d e st as, RS P H as st ∧ RD P H as d x ∧ RD P H as e y ∧ OOk P H as (RDr P) (evIx d e st) Q fun _ _ => False
theorem ix_dict (hu : X.A.units + 1 < cLine) : IxR X (fun x y H Q => ∃ a v, x = V.ref a ∧ DGet H a y (some v) ∧ Q v H) := by
  intro value slice pins s σ H x y v u Q I rx ry ⟨a, z, ex, g, q⟩ hs
  subst ex
  cases rx
  exact tail_any (dict_typeIs I g) PySem.F.slot_dict_getitem.lookup (d_getItem hu I g ry fun w' s3 I3 rw' => ⟨z, H, I3, rw', q⟩) hs
theorem ixs (hK : P.K = X.K) (hu : X.A.units + 1 < cLine) : IxR X (rIxS P) := by
  intro value slice pins s σ H x y v u Q I rx ry ⟨d, e, st, as, r, hd, he, h⟩ hs
  unfold evIx at h
  split at h
  · cases he
    split at h
    · rename_i xs hx
      split at h
      · rename_i z hz
        obtain ⟨a, vs, rfl, q1, q2⟩ := itemsAt hK r hd hx
        obtain ⟨w, hw, rw'⟩ := atI_rel q1 hz
        rcases q2 with ⟨q2, _⟩ | ⟨q2, _⟩
        · exact ix_list value slice pins s σ H _ _ v u Q I rx ry ⟨a, vs, _, w, rfl, rfl, q2, hw, h.here r rw'⟩ hs
        · exact ix_tup value slice pins s σ H _ _ v u Q I rx ry ⟨a, vs, _, w, rfl, rfl, q2, hw, h.here r rw'⟩ hs
      · exact h.elim
    · split at h
      · rename_i kvs hk
        obtain ⟨a, kus, rfl, q1, q2⟩ := dictAt_rd r hd hk
        split at h
        · rename_i z hz
          have q := look_rel q2 (Sum.inl ‹Int›)
          rw [hz] at q
          obtain ⟨w, hw, rw'⟩ := q
          exact ix_dict hu value slice pins s σ H _ _ v u Q I rx ry ⟨a, w, rfl, by rw [← hw]; exact DGet.rd (k := Sum.inl _) q1, h.here r rw'⟩ hs
        · exact h.elim
      · exact h.elim
  · cases he
    split at h
    · rename_i kvs hk
      obtain ⟨a, kus, rfl, q1, q2⟩ := dictAt_rd r hd hk
      split at h
      · rename_i z hz
        have q := look_rel q2 (Sum.inr ‹Str›)
        rw [hz] at q
        obtain ⟨w, hw, rw'⟩ := q
        exact ix_dict hu value slice pins s σ H _ _ v u Q I rx ry ⟨a, w, rfl, by rw [← hw]; exact DGet.rd (k := Sum.inr _) q1, h.here r rw'⟩ hs
      · exact h.elim
    · exact h.elim
  · exact h.elim
theorem s_ix {a b : Expr} {ca cb : E} (c : Cok X P W k) (ha : SE X P W F a ca) (hb : SE X P W F b cb) (hs : PlainIx b := by intro _ _; rfl) : SE X P W F (.Subscript a b pos) (.ix ca cb) :=
  PE.imp (pe_ix (ixs c.hK (by have := c.un; omega)) ha hb hs) fun σ H Q h => two (α := Unit) (fun _ _ _ _ q => q) (by simpa only [evE] using h)

/-! ### slices -/
theorem cut_rel {H : Hp} {as : List Addr} {xs : List D} {vs : List V} (h : RDs P H as xs vs) (lo hi : Option Int) : RDs P H as (cutD xs lo hi) (cutV vs lo hi) := by
  unfold cutD cutV
  rw [h.length]
  exact (h.drop _).take _
def rSlS (P : Pm) : V → Option Int → Option Int → Hp → VK → Prop := fun x lo hi H Q => ∃ d st as, RS P H as st ∧ RD P H as d x ∧ OOk P H as (RDr P) (evSl d lo hi st) Q fun _ _ => False
theorem sls (hK : P.K = X.K) : SlR X (rSlS P) := by
  intro pins s σ H x v vl vu lo hi sl Q I rx hs pl pu ⟨d, st, as, r, hd, h⟩
  unfold evSl at h
  split at h
  · obtain ⟨a, vs, rfl, h1, h2⟩ := hd
    refine sl_tupA pins s σ H _ v vl vu lo hi sl Q I rx hs pl pu ⟨a, vs, rfl, hK ▸ h1, fun e => ?_, fun _ p hp => h.newT r (cut_rel h2 lo hi) hp⟩
    have q := cut_rel (P := P) h2 lo hi
    have e' : cutV vs lo hi = vs := by
      unfold cutV
      rw [e.1, e.2]
      simp
    rw [e'] at q
    exact h.here r ⟨a, vs, rfl, h1, q⟩
  next hno =>
    split at h
    next xs hx =>
      split at h
      · unfold Ev.newL at h
        split at h
        · obtain ⟨a, vs, rfl, q1, q2⟩ := itemsAt hK r hd hx
          rcases q2 with ⟨q2, _⟩ | ⟨_, q3⟩
          · exact sl_list pins s σ H _ v vl vu lo hi sl Q I rx hs pl pu ⟨a, vs, rfl, q2, fun p hp => h.newL r (cut_rel q1 lo hi) hp⟩
          · exact (hno _ q3).elim
        · exact h.elim
      · exact h.elim
    next => exact h.elim
theorem po_no : PO X none (tG P W (fun _ _ (a b : Option Int) => b = a) (evEO F .no)) := ⟨fun pins s σ H Q I h => po_none.run pins s σ H Q I (by
  obtain ⟨env, st, as, r, re, h⟩ := h
  simp only [evEO] at h
  exact h.here r rfl)⟩
theorem po_so {e : Expr} {c : E} (he : SE X P W F e c) : PO X (some e) (tG P W (fun _ _ (a b : Option Int) => b = a) (evEO F (.so c))) := ⟨fun pins s σ H Q I h => (po_some he).run pins s σ H Q I (by
  obtain ⟨env, st, as, r, re, h⟩ := h
  simp only [evEO] at h
  refine ⟨env, st, as, r, re, (OOk.bind h).imp (fun x H1 q => ?_) fun _ _ z => z⟩
  obtain ⟨d, st1, as1, s1, r1, hd, h⟩ := q
  split at h
  · cases hd
    exact ⟨_, rfl, h.here r1 rfl⟩
  · exact h.elim)⟩
theorem s_sl {a : Expr} {lo hi : Option Expr} {ca : E} {cl ch : EO} {p2 : Pos} (c : Cok X P W k) (ha : SE X P W F a ca) (hl : PO X lo (tG P W (fun _ _ (a b : Option Int) => b = a) (evEO F cl))) (hh : PO X hi (tG P W (fun _ _ (a b : Option Int) => b = a) (evEO F ch))) : SE X P W F (.Subscript a (.Slice lo hi none p2) pos) (.sl ca cl ch) :=
  PE.imp (pe_slice (sls c.hK) ha hl hh) fun σ H Q h => by
    obtain ⟨env, st, as, rs, re, h⟩ := h
    simp only [evE] at h
    refine ⟨env, st, as, rs, re, (OOk.bind h).imp (fun x H1 q => ?_) fun _ _ z => z⟩
    obtain ⟨d, st1, as1, s1, r1, hd, h⟩ := q
    refine ⟨env, st1, as1, r1, re.mv (rs.mv s1), (OOk.bind h).imp (fun y H2 q => ?_) fun _ _ z => z⟩
    obtain ⟨l, st2, as2, s2, r2, rfl, h⟩ := q
    refine ⟨env, st2, as2, r2, (re.mv (rs.mv s1)).mv (r1.mv s2), (OOk.bind h).imp (fun y H3 q => ?_) fun _ _ z => z⟩
    obtain ⟨u, st3, as3, s3, r3, rfl, h⟩ := q
    exact ⟨d, st3, as3, r3, RD.mv (r2.mv s3) _ _ (RD.mv (r1.mv s2) _ _ hd), h.noexc⟩

/-! ### built-in calls of one argument -/
theorem bi_one {f : D → Sto → Out D} {te : En → Sto → Out D} {r : List V → Hp → VK → Prop} {b : Bi} {σ : L2.St} {H : Hp} {Q : VK} (hb : evBi0 b = f)
    (hr : ∀ (x : V) (H : Hp) (Q : VK), (∃ v d st as, [x] = [v] ∧ RS P H as st ∧ RD P H as d v ∧ OOk P H as (RDr P) (f d st) Q fun _ _ => False) → r [x] H Q)
    (h : tO P W (fun env st => (te env st).bind fun d st1 => noexc (evBi b st.length d st1)) σ H Q) : tCB r (tCons (tO P W te) tNil) σ H Q := by
  obtain ⟨env, st, as, rs, re, h⟩ := h
  refine ⟨env, st, as, rs, re, (OOk.bind0 h).imp (fun x H1 q => ?_) fun _ _ z => z⟩
  obtain ⟨d, st1, as1, s1, r1, hd, h⟩ := q
  refine hr x H1 Q ⟨x, d, st1, as1, rfl, r1, hd, ?_⟩
  unfold evBi at h
  rw [hb] at h
  cases e : f d st1 with
  | stk => rw [e] at h; exact h.elim
  | exc c st2 => rw [e] at h; exact h.elim
  | ok z st2 =>
    rw [e, Out.bind_ok] at h
    have h := h.noexc (E' := fun _ _ => False)
    intro v H2 as2 s2 r2 hz
    exact gc_ok rs h v H2 as2 (s1.trans s2) r2 hz
theorem s_biB {x : Str} {id : String} {e : Expr} {c : E} {b : Bi} {p : Pos} (hc : CallS X P (.builtin id) (evBi0 b)) (hg : Gl X x) (hm : X.mg x = none) (hv : bootBuiltins x = some (.builtin id)) (he : SE X P W F e c) (hn : x ≠ "__name__" := by decide) (hdb : (x == ("__debug__" : Str)) = false := by decide)
    (hs : starEach [e] X.env = (false, eval e X.env) :: starEach [] X.env := by rfl) (hpl : (backTo pos (starEach [] X.env)).any (·.1) = false := by rfl) : SE X P W F (.Call (.Name x p) [e] [] pos) (.bi b c) :=
  PE.imp (pe_callB hc hg hm hv (pa_cons he pa_nil hs) hn hdb hs hpl) fun σ H Q h => bi_one (f := evBi0 b) rfl (fun x H Q q => q) (by simpa only [evE] using h)
theorem s_biT {x : Str} {T : String} {e : Expr} {c : E} {b : Bi} {p : Pos} (hc : CallS X P (.type T) (evBi0 b)) (hg : Gl X x) (hm : X.mg x = none) (hv : bootBuiltins x = some (.type T)) (he : SE X P W F e c) (hn : x ≠ "__name__" := by decide) (hdb : (x == ("__debug__" : Str)) = false := by decide)
    (hs : starEach [e] X.env = (false, eval e X.env) :: starEach [] X.env := by rfl) (hpl : (backTo pos (starEach [] X.env)).any (·.1) = false := by rfl) : SE X P W F (.Call (.Name x p) [e] [] pos) (.bi b c) :=
  PE.imp (pe_callTy hc hg hm hv (pa_cons he pa_nil hs) hn hdb hs hpl) fun σ H Q h => bi_one (f := evBi0 b) rfl (fun x H Q q => q) (by simpa only [evE] using h)
/-- isinstance(e, T) -/
theorem s_is {T : String} {e : Expr} {c : E} {x : Str} {p p2 : Pos} (hK : P.K = X.K) (hg : Gl X "isinstance") (hm : X.mg "isinstance" = none) (hv : bootBuiltins "isinstance" = some (.builtin "isinstance")) (he : SE X P W F e c) (hx : PE X (.Name x p2) (tC (.ty T)))
    (hs : starEach [e, .Name x p2] X.env = (false, eval e X.env) :: starEach [.Name x p2] X.env := by rfl) (hs2 : starEach [.Name x p2] X.env = (false, eval (.Name x p2) X.env) :: starEach [] X.env := by rfl) (hpl : (backTo pos (starEach [.Name x p2] X.env)).any (·.1) = false := by rfl) : SE X P W F (.Call (.Name "isinstance" p) [e, .Name x p2] [] pos) (.bi (.isI T) c) :=
  PE.imp (pe_callB (bs_is hK T) hg hm hv (pa_cons he (pa_cons hx pa_nil hs2) hs) (by decide) (by decide) hs hpl) fun σ H Q h =>
    bi_one (f := evBi0 (.isI T)) (r := fun vs H Q => ∃ x, vs = [x] ∧ ∃ v d st as, [x, V.ty T] = [v, .ty T] ∧ RS P H as st ∧ RD P H as d v ∧ OOk P H as (RDr P) (biIs T d st) Q fun _ _ => False) rfl
      (fun x H Q ⟨v, d, st, as, e, a, b, c⟩ => ⟨x, rfl, v, d, st, as, by cases e; rfl, a, b, c⟩) (by simpa only [evE] using h) |> fun q => by
        obtain ⟨env, st, as, rs, re, q⟩ := q
        refine ⟨env, st, as, rs, re, q.imp (fun x H1 q => ?_) fun _ _ z => z⟩
        obtain ⟨y, e, q⟩ := q
        cases e
        exact q
end
end Ev
end

section
set_option Elab.async false
set_option linter.all false
set_option maxRecDepth 100000
set_option autoImplicit false
set_option maxHeartbeats 1000000
/-! Ev10: methods, dicts, tests -/
namespace Ev
open PySem L2 PySem.Spec PyProof.Rows
section
variable {X : Cx} {P : Pm} {W : WX} {k : Nat} {F : Fns} {pos : Pos}
theorem isL_ty {H : Hp} {as : List Addr} {st : Sto} {d : D} {v : V} (r : RS P H as st) (hd : RD P H as d v) (h : ¬ isL st d = false) : tyV X.K "list" v H := by
  cases d with
  | ref n =>
    simp only [isL] at h
    split at h
    · obtain ⟨a, vs, rfl, _, h1, _⟩ := lstAt r hd (by assumption)
      exact .inl ⟨rfl, _, SqL.of h1⟩
    · exact (h rfl).elim
  | non => exact (h rfl).elim
  | bl _ => exact (h rfl).elim
  | int _ => exact (h rfl).elim
  | str _ => exact (h rfl).elim
  | tup _ => exact (h rfl).elim
  | rol _ => exact (h rfl).elim
  | fn _ => exact (h rfl).elim
/-- a written list of ours -/
theorem OOk.wr {H : Hp} {as : List Addr} {st : Sto} {n : Nat} {a : Addr} {d : D} {v : V} {xs : List D} {vs : List V} {Q : VK} {E : Addr → Hp → Prop} (h : OOk P H as (RDr P) (.ok d (st.set n (.lst xs))) Q E) (r : RS P H as st) (ha : as[n]? = some a) {vs0 : List V} (hl : H a = some (.lst vs0)) (hd : RDs P H as xs vs) (hv : RD P H as d v) : Q v (upd H a (.lst vs)) := by
  obtain ⟨s, r'⟩ := r.write (o := .lst vs) (m := .lst xs) ha (fun o u z => by rw [hl] at z; cases z) fun mv => ⟨vs, upd_same, RDs.mv mv _ _ hd⟩
  exact h v _ as s r' (RD.mv (r.mv s) _ _ hv)
def MthS (X : Cx) (P : Pm) (id : String) (g : D → D → Sto → Out D) : Prop := MtM X id (fun x xs H Q => ∃ y d e st as, xs = [y] ∧ RS P H as st ∧ RD P H as d x ∧ RD P H as e y ∧ OOk P H as (RDr P) (g d e st) Q fun _ _ => False)
theorem ms_append : MthS X P "list.append" (evMth1 .append) := by
  intro pins s σ H x xs v us Q I rx rv ⟨y, d, e, st, as, e0, r, hd, he, h⟩
  subst e0
  cases d with
  | ref n =>
    simp only [evMth1] at h
    split at h
    · split at h
      · obtain ⟨a, vs, rfl, ha, h1, h2⟩ := lstAt r hd (by assumption)
        exact mt_append pins s σ H _ _ v us Q I rx rv ⟨a, vs, y, rfl, rfl, h1, by rw [sizeLine_eq, ← h2.length]; assumption, h.wr r ha h1 (h2.app (RDs.one he)) rfl⟩
      · exact h.elim
    · exact h.elim
  | _ => exact h.elim
theorem ms_extend : MthS X P "list.extend" (evMth1 .extend) := by
  intro pins s σ H x xs v us Q I rx rv ⟨y, d, e, st, as, e0, r, hd, he, h⟩
  subst e0
  cases d with
  | ref n =>
    cases e with
    | ref m =>
      simp only [evMth1] at h
      split at h
      · split at h
        · rename_i xs ys e1 e2 hl
          obtain ⟨a, vs, rfl, ha, h1, h2⟩ := lstAt r hd e1
          obtain ⟨b, ws, rfl, hb, h3, h4⟩ := lstAt r he e2
          exact mt_extend pins s σ H _ _ v us Q I rx rv ⟨a, b, vs, ws, rfl, rfl, h1, h3, by rw [sizeLine_eq, ← h2.length, ← h4.length]; exact hl, h.wr r ha h1 (h2.app h4) rfl⟩
        · exact h.elim
      · exact h.elim
    | _ => exact h.elim
  | _ => exact h.elim
theorem s_mth1 {o e : Expr} {co ce : E} {name : Str} {id : String} {apos : Pos} {m : Mt} (hm : MthS X P id (evMth1 m)) (slot : Slot "list" name id) (hty : typeOf (.builtin id) = pure (.type "method_descriptor")) (ho : SE X P W F o co) (he : SE X P W F e ce)
    (hbase : attributeBase o name X.env (eval o X.env) = eval o X.env := by rfl)
    (hfew : ((backTo pos (starEach (e :: []) X.env)).all (fun x => !x.1) && (backToKw pos (keywordEach [] X.env)).all (fun x => x.1.isSome) && decide ((e :: []).length + ([] : List Keyword).length + (if ([] : List Keyword).isEmpty then 0 else 1) < 30)) = true := by rfl)
    (hline : (apos.endLine == pos.line) = true := by rfl) (hs : starEach (e :: []) X.env = (false, eval e X.env) :: starEach [] X.env := by rfl) (hplain : (backTo pos (starEach [] X.env)).any (·.1) = false := by rfl) :
    SE X P W F (.Call (.Attribute o name apos) [e] [] pos) (.mth1 m co ce) :=
  PE.imp (pe_bm PySem.F.plainAttrs_list slot hty hm ho (pa_cons he pa_nil hs) hbase hfew hline hs hplain) fun σ H Q h => by
    obtain ⟨env, st, as, rs, re, h⟩ := h
    simp only [evE] at h
    refine ⟨env, st, as, rs, re, (OOk.bind h).imp (fun x H1 q => ?_) fun _ _ z => z⟩
    obtain ⟨d, st1, as1, s1, r1, hd, h⟩ := q
    split at h
    · exact h.elim
    · rename_i hl
      refine ⟨isL_ty r1 hd hl, env, st1, as1, r1, re.mv (rs.mv s1), (OOk.bind h).imp (fun y H2 q => ?_) fun _ _ z => z⟩
      obtain ⟨e', st2, as2, s2, r2, he', h⟩ := q
      exact ⟨y, d, e', st2, as2, rfl, r2, RD.mv (r1.mv s2) _ _ hd, he', h.noexc⟩
/-- xs.pop() -/
theorem s_pop {o : Expr} {co : E} {apos : Pos} (ho : SE X P W F o co) (hbase : attributeBase o "pop" X.env (eval o X.env) = eval o X.env := by rfl) (hline : (apos.endLine == pos.line) = true := by rfl) : SE X P W F (.Call (.Attribute o "pop" apos) [] [] pos) (.mth0 .pop co) :=
  PE.imp (pe_bm0 PySem.F.plainAttrs_list PySem.F.slot_list_pop PySem.F.type_list_pop mt_pop ho hbase hline) fun σ H Q h => by
    obtain ⟨env, st, as, rs, re, h⟩ := h
    simp only [evE] at h
    refine ⟨env, st, as, rs, re, (OOk.bind h).imp (fun x H1 q => ?_) fun _ _ z => z⟩
    obtain ⟨d, st1, as1, s1, r1, hd, h⟩ := q
    have h := h.noexc (E' := fun _ _ => False)
    cases d with
    | ref n =>
      simp only [evMth0] at h
      split at h
      · rename_i xs e1
        split at h
        · rename_i z hz
          obtain ⟨a, vs, rfl, ha, h1, h2⟩ := lstAt r1 hd e1
          rw [h2.length] at hz
          obtain ⟨w, hw, hwd⟩ := h2.get hz
          refine ⟨.inl ⟨rfl, _, SqL.of h1⟩, a, vs, w, rfl, rfl, h1, hw, h.wr r1 ha h1 ?_ hwd⟩
          rw [List.dropLast_eq_take, List.dropLast_eq_take, h2.length]
          exact h2.take _
        · exact h.elim
      · exact h.elim
    | _ => exact h.elim

/-! ### dicts -/
theorem isDc_rd {H : Hp} {as : List Addr} {st : Sto} {d : D} {v : V} (r : RS P H as st) (hd : RD P H as d v) (h : ¬ isDc st d = false) : ∃ a, v = .ref a ∧ IsD H a := by
  unfold isDc at h
  cases e : Ev.dictAt st d with
  | none => rw [e] at h; exact (h rfl).elim
  | some kvs =>
    obtain ⟨a, kus, rfl, q1, q2⟩ := dictAt_rd r hd e
    exact ⟨a, rfl, .inl ⟨kus, q1⟩⟩
theorem get_rd {H : Hp} {as : List Addr} {st : Sto} {d x e : D} {v y z : V} {Q : VK} (r : RS P H as st) (hd : RD P H as d v) (hx : RD P H as x y) (he : RD P H as e z) (h : OOk P H as (RDr P) (evGet d x e st) Q fun _ _ => False) : ∃ a o, v = .ref a ∧ DGet H a y o ∧ Q (o.getD z) H := by
  unfold evGet at h
  split at h
  · rename_i kvs k hk1 hk2
    obtain ⟨a, kus, rfl, q1, q2⟩ := dictAt_rd r hd hk1
    cases kV_keyD hk2 hx
    have q := look_rel q2 k
    refine ⟨a, valV kus k, rfl, DGet.rd q1, ?_⟩
    cases hl : lookK kvs k with
    | none =>
      rw [hl] at q h
      have q : valV kus k = none := q
      rw [q]
      exact h.here r he
    | some d' =>
      rw [hl] at q h
      obtain ⟨w, hw, hwd⟩ := q
      rw [hw]
      exact h.here r hwd
  · exact h.elim
theorem s_get1 {o e : Expr} {co ce : E} {apos : Pos} (c : Cok X P W k) (ho : SE X P W F o co) (he : SE X P W F e ce) (m : M1 X o "get" apos e pos := by exact ⟨rfl, rfl, rfl, rfl⟩) : SE X P W F (.Call (.Attribute o "get" apos) [e] [] pos) (.get1 co ce) :=
  PE.imp (pe_dget1 (by have := c.un; omega) ho he m) fun σ H Q h => by
    obtain ⟨env, st, as, rs, re, h⟩ := h
    simp only [evE] at h
    refine ⟨env, st, as, rs, re, (OOk.bind h).imp (fun x H1 q => ?_) fun _ _ z => z⟩
    obtain ⟨d, st1, as1, s1, r1, hd, h⟩ := q
    split at h
    · exact h.elim
    · rename_i hl
      obtain ⟨a, rfl, hD⟩ := isDc_rd r1 hd hl
      refine ⟨a, rfl, hD, env, st1, as1, r1, re.mv (rs.mv s1), (OOk.bind h).imp (fun y H2 q => ?_) fun _ _ z => z⟩
      obtain ⟨e', st2, as2, s2, r2, he', h⟩ := q
      obtain ⟨b, o, eb, g, q⟩ := get_rd r2 (RD.mv (r1.mv s2) _ _ hd) he' (e := .non) (z := .non) rfl h.noexc
      cases eb
      exact ⟨o, g, q⟩
theorem s_get2 {o e f : Expr} {co ce cf : E} {apos : Pos} (c : Cok X P W k) (ho : SE X P W F o co) (he : SE X P W F e ce) (hf : SE X P W F f cf) (m : M2 X o "get" apos e f pos := by exact ⟨rfl, rfl, rfl, rfl⟩) : SE X P W F (.Call (.Attribute o "get" apos) [e, f] [] pos) (.get2 co ce cf) :=
  PE.imp (pe_dget2 (by have := c.un; omega) ho he hf m) fun σ H Q h => by
    obtain ⟨env, st, as, rs, re, h⟩ := h
    simp only [evE] at h
    refine ⟨env, st, as, rs, re, (OOk.bind h).imp (fun x H1 q => ?_) fun _ _ z => z⟩
    obtain ⟨d, st1, as1, s1, r1, hd, h⟩ := q
    split at h
    · exact h.elim
    · rename_i hl
      obtain ⟨a, rfl, hD⟩ := isDc_rd r1 hd hl
      refine ⟨a, rfl, hD, env, st1, as1, r1, re.mv (rs.mv s1), (OOk.bind h).imp (fun y H2 q => ?_) fun _ _ z => z⟩
      obtain ⟨e', st2, as2, s2, r2, he', h⟩ := q
      refine ⟨env, st2, as2, r2, (re.mv (rs.mv s1)).mv (r1.mv s2), (OOk.bind h).imp (fun z H3 q => ?_) fun _ _ z => z⟩
      obtain ⟨f', st3, as3, s3, r3, hf', h⟩ := q
      obtain ⟨b, o, eb, g, q⟩ := get_rd r3 (RD.mv (r2.mv s3) _ _ (RD.mv (r1.mv s2) _ _ hd)) (RD.mv (r2.mv s3) _ _ he') hf' h.noexc
      cases eb
      exact ⟨o, g, q⟩
/-- {} -/
theorem s_dnew : SE X P W F (.Dict [] [] pos) (.dct [] .nil) :=
  PE.imp pe_dnewK fun σ H Q h => by
    obtain ⟨env, st, as, rs, re, h⟩ := h
    simp only [evE, evEL, Out.bind_ok] at h
    rw [if_pos ⟨rfl, by simp, List.nodup_nil⟩] at h
    intro p hp
    obtain ⟨s, r'⟩ := rs.alloc (o := .dK []) (m := .dct []) hp ⟨[], upd_same, rfl, rfl⟩
    exact h _ _ _ s r' ⟨p, rfl, by rw [← rs.len, List.getElem?_append_right (Nat.le_refl _), Nat.sub_self]; rfl⟩
end
end Ev
end

section
set_option Elab.async false
set_option linter.all false
set_option maxRecDepth 100000
set_option autoImplicit false
set_option maxHeartbeats 1000000
/-! Ev11: tests, and, or, not, if-else -/
namespace Ev
open PySem L2 PySem.Spec PyProof.Rows
section
variable {X : Cx} {P : Pm} {W : WX} {k : Nat} {F : Fns} {pos : Pos}
theorem truO_split {H : Hp} {as : List Addr} {o : Out D} {Q : Bool → Hp → Prop} {E : Addr → Hp → Prop} (hK : P.K = X.K) (h : OOk P H as RBr (truO o) Q E) :
    OOk P H as (RDr P) o (fun v H' => ∃ b, TruV X.K v H' b ∧ Q b H') E := by
  cases o with
  | stk => exact h
  | exc c st => exact h
  | ok d st =>
    intro v H' as' s r hd
    simp only [truO, Out.bind_ok] at h
    split at h
    · rename_i b hb
      exact ⟨b, tru_of hK r hd hb, h b H' as' s r rfl⟩
    · exact h.elim
theorem st_val {e : Expr} {c : E} (hK : P.K = X.K) (he : SE X P W F e c) (hi : ∀ whole, isTrue e X.env whole = (do let v ← whole; standAt e.pos; holding [v] (truthy v)) := by intro _; rfl) : ST X P W F e c :=
  PT.imp (pt_truth he hi) fun σ H Q h => by
    obtain ⟨env, st, as, rs, re, h⟩ := h
    exact ⟨env, st, as, rs, re, truO_split hK h⟩
theorem cmp_bl {o : Cop} {d e r : D} {st st' : Sto} (h : evCmp o d e st = .ok r st') : ∃ b, r = .bl b := by
  cases o
  case eq => simp only [evCmp, evEq] at h; split at h <;> cases h; exact ⟨_, rfl⟩
  case ne => simp only [evCmp, evNe] at h; split at h <;> cases h; exact ⟨_, rfl⟩
  case lt => simp only [evCmp] at h; unfold evLt at h; split at h <;> cases h; exact ⟨_, rfl⟩
  case le => simp only [evCmp] at h; unfold evLe at h; split at h <;> cases h; exact ⟨_, rfl⟩
  case gt => simp only [evCmp] at h; unfold evGt at h; split at h <;> cases h; exact ⟨_, rfl⟩
  case ge => simp only [evCmp] at h; unfold evGe at h; split at h <;> cases h; exact ⟨_, rfl⟩
  case isin => simp only [evCmp, evIn] at h; split at h <;> cases h; exact ⟨_, rfl⟩
  case notin => simp only [evCmp, evNotIn] at h; split at h <;> cases h; exact ⟨_, rfl⟩
theorem st_cmp {op : CmpOp} {o : Cop} {a b : Expr} {ca cb : E} (ho : OpS X P (compareOp op) (evCmp o)) (ha : SE X P W F a ca) (hb : SE X P W F b cb) (hm : behindInMarks op b = false) : ST X P W F (.Compare a [op] [b] pos) (.cmp o ca cb) :=
  PT.imp (pt_cmpR ho ha hb hm) fun σ H Q h => by
    refine two (α := Unit) (g := evCmp o) (fun _ _ _ _ q => q) ?_
    obtain ⟨env, st, as, rs, re, h⟩ := h
    refine ⟨env, st, as, rs, re, ?_⟩
    simp only [evT, evE] at h
    cases e1 : evE F ca env st with
    | stk => simp only [e1, Out.bind_stk, truO] at h ⊢; exact h
    | exc c st1 => simp only [e1, Out.bind_exc, truO] at h ⊢; exact h
    | ok d st1 =>
      simp only [e1, Out.bind_ok] at h ⊢
      cases e2 : evE F cb env st1 with
      | stk => simp only [e2, Out.bind_stk, truO] at h ⊢; exact h
      | exc c st1 => simp only [e2, Out.bind_exc, truO] at h ⊢; exact h
      | ok e st2 =>
        simp only [e2, Out.bind_ok] at h ⊢
        cases e3 : evCmp o d e st2 with
        | stk => rw [e3] at h; exact h
        | exc c st1 => rw [e3] at h; exact h
        | ok z st3 =>
          obtain ⟨q, rfl⟩ := cmp_bl e3
          rw [e3] at h
          simp only [noexc_ok, truO, Out.bind_ok, truD] at h
          intro v H' as' s r hd
          cases hd
          exact ⟨q, rfl, h q H' as' s r rfl⟩
theorem st_isN {a : Expr} {ca : E} {j : Nat} {pos' : Pos} (ha : SE X P W F a ca) : ST X P W F (.Compare a [.Is] [.Constant .none j pos'] pos) (.isN ca) :=
  PT.imp (pt_cmp (pc_isN ha) rfl) fun σ H Q h => by
    obtain ⟨env, st, as, rs, re, h⟩ := h
    simp only [evT, evE] at h
    refine ⟨env, st, as, rs, re, ?_⟩
    cases e1 : evE F ca env st with
    | stk => simp only [e1, Out.bind_stk, truO] at h; exact h
    | exc c st1 => simp only [e1, Out.bind_exc, truO] at h; exact h
    | ok d st1 =>
      simp only [e1, Out.bind_ok, truO, truD] at h
      intro v H' as' s r hd
      exact ⟨_, rfl, h _ H' as' s r (rd_non hd)⟩
theorem st_notN {a : Expr} {ca : E} {j : Nat} {pos' : Pos} (ha : SE X P W F a ca) : ST X P W F (.Compare a [.IsNot] [.Constant .none j pos'] pos) (.notN ca) :=
  PT.imp (pt_cmp (pc_notN ha) rfl) fun σ H Q h => by
    obtain ⟨env, st, as, rs, re, h⟩ := h
    simp only [evT, evE] at h
    refine ⟨env, st, as, rs, re, ?_⟩
    cases e1 : evE F ca env st with
    | stk => simp only [e1, Out.bind_stk, truO] at h; exact h
    | exc c st1 => simp only [e1, Out.bind_exc, truO] at h; exact h
    | ok d st1 =>
      simp only [e1, Out.bind_ok, truO, truD] at h
      intro v H' as' s r hd
      exact ⟨_, rfl, h _ H' as' s r (show _ = _ by rw [rd_non hd])⟩
abbrev SW (X : Cx) (P : Pm) (W : WX) (F : Fns) (e : Expr) (c : E) : Prop := PW X e (tT P W (evT F c))
theorem evT_and (a b : E) (env : En) (st : Sto) : evT F (.and a b) env st = (evT F a env st).bind fun q st => if q = true then evT F b env st else .ok false st := by
  simp only [evT, evE]
  cases evE F a env st with
  | stk => rfl
  | exc c st => rfl
  | ok d st1 =>
    simp only [Out.bind_ok, truO]
    cases e : truD st1 d with
    | none => rfl
    | some q => cases q <;> simp [e]
theorem evT_or (a b : E) (env : En) (st : Sto) : evT F (.or a b) env st = (evT F a env st).bind fun q st => if q = true then .ok true st else evT F b env st := by
  simp only [evT, evE]
  cases evE F a env st with
  | stk => rfl
  | exc c st => rfl
  | ok d st1 =>
    simp only [Out.bind_ok, truO]
    cases e : truD st1 d with
    | none => rfl
    | some q => cases q <;> simp [e]
theorem sw_and1 {a : Expr} {c : E} (ha : ST X P W F a c) : SW X P W F (.BoolOp .And [a] pos) c := pw_and1 ha
theorem sw_or1 {a : Expr} {c : E} (ha : ST X P W F a c) : SW X P W F (.BoolOp .Or [a] pos) c := pw_or1 ha
theorem sw_and {a b : Expr} {rest : List Expr} {ca cb : E} (ha : ST X P W F a ca) (hb : SW X P W F (.BoolOp .And (b :: rest) pos) cb) : SW X P W F (.BoolOp .And (a :: b :: rest) pos) (.and ca cb) :=
  PW.imp (pw_and ha hb) fun σ H Q h => by
    obtain ⟨env, st, as, rs, re, h⟩ := h
    rw [evT_and] at h
    refine ⟨env, st, as, rs, re, (OOk.bind h).imp (fun x H1 q => ?_) fun _ _ z => z⟩
    obtain ⟨d, st1, as1, s1, r1, rfl, h⟩ := q
    cases x with
    | true => exact iteT ⟨env, st1, as1, r1, re.mv (rs.mv s1), h⟩
    | false => exact iteF (h.here r1 rfl)
theorem sw_or {a b : Expr} {rest : List Expr} {ca cb : E} (ha : ST X P W F a ca) (hb : SW X P W F (.BoolOp .Or (b :: rest) pos) cb) : SW X P W F (.BoolOp .Or (a :: b :: rest) pos) (.or ca cb) :=
  PW.imp (pw_or ha hb) fun σ H Q h => by
    obtain ⟨env, st, as, rs, re, h⟩ := h
    rw [evT_or] at h
    refine ⟨env, st, as, rs, re, (OOk.bind h).imp (fun x H1 q => ?_) fun _ _ z => z⟩
    obtain ⟨d, st1, as1, s1, r1, rfl, h⟩ := q
    cases x with
    | true => exact iteT (h.here r1 rfl)
    | false => exact iteF ⟨env, st1, as1, r1, re.mv (rs.mv s1), h⟩
theorem st_w {e : Expr} {c : E} (h : SW X P W F e c) : ST X P W F e c := h.pt
theorem evT_not (a : E) (env : En) (st : Sto) : evT F (.not a) env st = (evT F a env st).bind fun q st => .ok (!q) st := by
  simp only [evT, evE]
  cases e : truO (evE F a env st) with
  | stk => rfl
  | exc c st => rfl
  | ok d st1 => rfl
theorem st_not {a : Expr} {ca : E} (ha : ST X P W F a ca) : ST X P W F (.UnaryOp .Not a pos) (.not ca) :=
  PT.imp (pt_not ha) fun σ H Q h => by
    obtain ⟨env, st, as, rs, re, h⟩ := h
    rw [evT_not] at h
    refine ⟨env, st, as, rs, re, (OOk.bind h).imp (fun x H1 q => ?_) fun _ _ z => z⟩
    obtain ⟨d, st1, as1, s1, r1, rfl, h⟩ := q
    exact h.here r1 rfl
theorem s_not {a : Expr} {ca : E} (hK : P.K = X.K) (ha : SE X P W F a ca) : SE X P W F (.UnaryOp .Not a pos) (.not ca) :=
  PE.imp (pe_notT ha) fun σ H Q h => by
    obtain ⟨env, st, as, rs, re, h⟩ := h
    simp only [evE] at h
    refine ⟨env, st, as, rs, re, ?_⟩
    refine (truO_split (Q := fun b H' => ∃ st' as', RS P H' as' st' ∧ OOk P H' as' (RDr P) (.ok (.bl (!b)) st') Q fun C H' => W (.ref C) none σ H') hK ?_).imp (fun v H' ⟨b, tv, st', as', r', q⟩ => ⟨b, tv, q.here r' rfl⟩) fun _ _ z => z
    refine (OOk.bind h).imp (fun x H1 q => ?_) fun _ _ z => z
    obtain ⟨d, st1, as1, s1, r1, rfl, h⟩ := q
    exact ⟨st1, as1, r1, h⟩
theorem s_one {op : BoolOp} {a : Expr} {c : E} (h : SE X P W F a c) : SE X P W F (.BoolOp op [a] pos) c := pe_one h
theorem s_and {a b : Expr} {rest : List Expr} {ca cb : E} (hK : P.K = X.K) (ha : SE X P W F a ca) (hb : SE X P W F (.BoolOp .And (b :: rest) pos) cb) : SE X P W F (.BoolOp .And (a :: b :: rest) pos) (.and ca cb) :=
  PE.imp (pe_andT ha hb) fun σ H Q h => by
    obtain ⟨env, st, as, rs, re, h⟩ := h
    simp only [evE] at h
    refine ⟨env, st, as, rs, re, (OOk.bind h).imp (fun x H1 q => ?_) fun _ _ z => z⟩
    obtain ⟨d, st1, as1, s1, r1, hd, h⟩ := q
    split at h
    · rename_i hb
      exact ⟨true, tru_of hK r1 hd hb, iteT ⟨env, st1, as1, r1, re.mv (rs.mv s1), h⟩⟩
    · rename_i hb
      exact ⟨false, tru_of hK r1 hd hb, iteF (h.here r1 hd)⟩
    · exact h.elim
theorem s_or {a b : Expr} {rest : List Expr} {ca cb : E} (hK : P.K = X.K) (ha : SE X P W F a ca) (hb : SE X P W F (.BoolOp .Or (b :: rest) pos) cb) : SE X P W F (.BoolOp .Or (a :: b :: rest) pos) (.or ca cb) :=
  PE.imp (pe_orT ha hb) fun σ H Q h => by
    obtain ⟨env, st, as, rs, re, h⟩ := h
    simp only [evE] at h
    refine ⟨env, st, as, rs, re, (OOk.bind h).imp (fun x H1 q => ?_) fun _ _ z => z⟩
    obtain ⟨d, st1, as1, s1, r1, hd, h⟩ := q
    split at h
    · rename_i hb
      exact ⟨true, tru_of hK r1 hd hb, iteT (h.here r1 hd)⟩
    · rename_i hb
      exact ⟨false, tru_of hK r1 hd hb, iteF ⟨env, st1, as1, r1, re.mv (rs.mv s1), h⟩⟩
    · exact h.elim
theorem s_ifx {c a b : Expr} {cc ca cb : E} (hc : ST X P W F c cc) (ha : SE X P W F a ca) (hb : SE X P W F b cb) : SE X P W F (.IfExp c a b pos) (.ifx cc ca cb) :=
  PE.imp (pe_ifExp hc ha hb) fun σ H Q h => by
    obtain ⟨env, st, as, rs, re, h⟩ := h
    simp only [evE] at h
    refine ⟨env, st, as, rs, re, (OOk.bind h).imp (fun x H1 q => ?_) fun _ _ z => z⟩
    obtain ⟨d, st1, as1, s1, r1, rfl, h⟩ := q
    cases x with
    | true => exact iteT ⟨env, st1, as1, r1, re.mv (rs.mv s1), h⟩
    | false => exact iteF ⟨env, st1, as1, r1, re.mv (rs.mv s1), h⟩
end
end Ev
end

section
set_option Elab.async false
set_option linter.all false
set_option maxRecDepth 100000
set_option autoImplicit false
set_option maxHeartbeats 1000000
/-! Ev12: targets, what is walked -/
namespace Ev
open PySem L2 PySem.Spec PyProof.Rows
def Chg (l : List Nat) (σ σ' : L2.St) : Prop := σ'.length = σ.length ∧ ∀ i : Nat, i ∉ l → σ'[i]? = σ[i]?
theorem Chg.refl {l : List Nat} {σ : L2.St} : Chg l σ σ := ⟨rfl, fun _ _ => rfl⟩
theorem Chg.trans {l m : List Nat} {σ σ' σ'' : L2.St} (a : Chg l σ σ') (b : Chg m σ' σ'') : Chg (l ++ m) σ σ'' := ⟨b.1.trans a.1, fun i hi => by
  rw [List.mem_append, not_or] at hi
  rw [b.2 i hi.2, a.2 i hi.1]⟩
theorem Chg.set {i : Nat} {v : Option V} {σ : L2.St} : Chg [i] σ (σ.set i v) := ⟨by simp, fun j hj => by
  rw [List.getElem?_set_ne]
  exact fun e => hj (by simp [e])⟩
theorem PG.imp {X : Cx} {e : Expr} {t t' : TG} (h : PG X e t) (i : ∀ v σ H Q, t' v σ H Q → t v σ H Q) : PG X e t' := ⟨fun pins s σ H v u Q I r hw => h.run pins s σ H v u Q I r (i v σ H Q hw)⟩
theorem PGs.imp {X : Cx} {e : List Expr} {t t' : TGs} (h : PGs X e t) (i : ∀ v σ H Q, t' v σ H Q → t v σ H Q) : PGs X e t' := ⟨fun pins s σ H v u Q I r hw => h.run pins s σ H v u Q I r (i v σ H Q hw)⟩
def tGt (P : Pm) (g : G) : TG := fun v σ H Q => ∃ d env st as env', RS P H as st ∧ RE P H as env σ ∧ RD P H as d v ∧ bindG g d env = some env' ∧ ∀ σ', RE P H as env' σ' → Chg (gsl g) σ σ' → Q σ' H
def tGts (P : Pm) (g : GL) : TGs := fun vs σ H Q => ∃ ds env st as env', RS P H as st ∧ RE P H as env σ ∧ RDs P H as ds vs ∧ bindGs g ds env = some env' ∧ ∀ σ', RE P H as env' σ' → Chg (gsls g) σ σ' → Q σ' H
abbrev SG (X : Cx) (P : Pm) (e : Expr) (g : G) : Prop := PG X e (tGt P g)
abbrev SGs (X : Cx) (P : Pm) (e : List Expr) (g : GL) : Prop := PGs X e (tGts P g)
theorem RE.set {P : Pm} {H : Hp} {as : List Addr} {env : En} {σ : L2.St} {i : Nat} {d : D} {v : V} (re : RE P H as env σ) (hd : RD P H as d v) : RE P H as (env.set i (some d)) (σ.set i (some v)) := ⟨by simp [re.len], fun j e h => by
  by_cases hj : i = j
  · subst hj
    have hl : i < env.length := by
      have := (List.getElem?_eq_some_iff.mp h).1
      simpa using this
    rw [List.getElem?_set_self hl] at h
    cases h
    exact ⟨v, by rw [List.getElem?_set_self (by rw [← re.len]; exact hl)], hd⟩
  · rw [List.getElem?_set_ne hj] at h ⊢
    exact re.at_ j e h⟩
section
variable {X : Cx} {P : Pm} {W : WX} {k : Nat} {F : Fns} {pos : Pos}
theorem sg_n (i : Nat) {x : Str} (hN : X.N.Nodup) (hi : X.N[i]? = some x := by rfl) (hx : Loc X.env.scope x := by first | exact Or.inl rfl | exact Or.inr rfl) (hf : X.fn x = true ∨ X.env.scope.names.lookup x = some .local := by first | exact .inl rfl | exact .inr rfl | assumption) : SG X P (.Name x pos) (.n i) :=
  PG.imp (pg_name hN hi hx hf) fun v σ H Q ⟨d, env, st, as, env', r, re, hd, hb, q⟩ => by
    simp only [bindG] at hb
    cases hb
    exact q _ (re.set hd) Chg.set
theorem sgs_nil : SGs X P [] .nil := PGs.imp pgs_nil fun v σ H Q ⟨ds, env, st, as, env', r, re, hd, hb, q⟩ => by
  cases ds with
  | nil =>
    cases hd
    cases hb
    exact ⟨rfl, q _ re Chg.refl⟩
  | cons _ _ => cases hb
theorem sgs_cons {e : Expr} {es : List Expr} {g : G} {gs : GL} (h1 : SG X P e g) (h2 : SGs X P es gs) (hs : (assignEach (e :: es) X.env).map (·.2) = assign e X.env :: (assignEach es X.env).map (·.2) := by rfl) : SGs X P (e :: es) (.cons g gs) := PGs.imp (pgs_cons h1 h2 hs) fun v σ H Q ⟨ds, env, st, as, env', r, re, hd, hb, q⟩ => by
  cases ds with
  | nil => cases hb
  | cons d ds =>
    simp only [bindGs] at hb
    split at hb
    · rename_i env1 h1
      obtain ⟨v, ws, rfl, q1, q2⟩ := hd
      refine ⟨v, ws, rfl, d, env, st, as, env1, r, re, q1, h1, fun σ1 re1 c1 => ?_⟩
      exact ⟨ds, env1, st, as, env', r, re1, q2, hb, fun σ2 re2 c2 => q σ2 re2 (c1.trans c2)⟩
    · cases hb
theorem bindGs_len : ∀ {gs : GL} {ds : List D} {env env' : En} {n : Nat}, bindGs gs ds env = some env' → (∃ m, m = ds.length) := fun h => ⟨_, rfl⟩
def GL.len : GL → Nat
  | .nil => 0
  | .cons _ gs => gs.len + 1
theorem bindGs_length : ∀ {gs : GL} {ds : List D} {env env' : En}, bindGs gs ds env = some env' → ds.length = gs.len
  | .nil, [], _, _, _ => rfl
  | .nil, _ :: _, _, _, h => by cases h
  | .cons _ _, [], _, _, h => by cases h
  | .cons g gs, d :: ds, env, env', h => by
    simp only [bindGs] at h
    split at h
    · simp [GL.len, bindGs_length h]
    · cases h
theorem sg_t {es : List Expr} {kk : Nat} {gs : GL} (c : Cok X P W k) (h : SGs X P es gs) (hn : (assignEach es X.env).length = gs.len := by rfl) (hst : (assignEach es X.env).findIdx? (·.1) = none := by rfl) : SG X P (.Tuple es kk pos) (.t gs) :=
  PG.imp (pg_tup c.calm h hn hst) fun v σ H Q ⟨d, env, st, as, env', r, re, hd, hb, q⟩ => by
    cases d with
    | tup ds =>
      simp only [bindG] at hb
      obtain ⟨a, vs, rfl, h1, h2⟩ := hd
      refine ⟨a, vs, rfl, c.hK ▸ h1, by rw [← h2.length, bindGs_length hb], ds, env, st, as, env', r, re, h2, hb, q⟩
    | _ => cases hb

/-! ### what is walked -/
def ItOk (P : Pm) (J : It) (H1 : Hp) (as1 : List Addr) (items : List D) (chk : Sto → Bool) : Prop := ∀ (H : Hp) (as : List Addr) (st : Sto) (i : Nat), Stp H1 as1 H as → RS P H as st → chk st = true →
  (∀ d, items[i]? = some d → J.go i H ∧ ∀ x H', J.yld i H x H' → Stp H as H' as ∧ RS P H' as st ∧ RD P H' as d x) ∧ (i = items.length → J.stop i H)
def ItR (P : Pm) : Hp → List Addr → (List D × Chk) → It → Prop := fun H as p J => ItOk P J H as p.1 p.2.ok
abbrev SI (X : Cx) (P : Pm) (W : WX) (F : Fns) (tg e : Expr) (c : I) : Prop := PI X tg e (tG P W (ItR P) (evI F c))
theorem PI.imp {tg e : Expr} {t t' : TI} (h : PI X tg e t) (i : ∀ σ H Q, t' σ H Q → t σ H Q) : PI X tg e t' := ⟨fun pins s σ H R I hw => h.run pins s σ H R I (i σ H R hw)⟩
theorem PI.or {tg e : Expr} {t t' : TI} (h : PI X tg e t) (h' : PI X tg e t') : PI X tg e (fun σ H R => t σ H R ∨ t' σ H R) := ⟨fun pins s σ H R I hw => hw.elim (h.run pins s σ H R I) (h'.run pins s σ H R I)⟩

theorem it_rol {H1 : Hp} {as1 : List Addr} {st1 : Sto} {a : Addr} {xs : List D} {vs : List V} (hK : P.K = X.K) (r1 : RS P H1 as1 st1) (h : SqR P.K H1 a vs) (hd : RDs P H1 as1 xs vs) (chk : Sto → Bool) : ItOk P (Itl X.K a) H1 as1 xs chk := fun H as st i s r _ => by
  have h' : SqL X.K H a vs := hK ▸ (r1.rol s h).sq
  have hd' := RDs.mv (r1.mv s) _ _ hd
  refine ⟨fun d e => ?_, fun e => ⟨vs, h', by rw [e, hd.length]; exact Nat.le_refl _⟩⟩
  obtain ⟨v, h1, h2⟩ := hd'.get e
  refine ⟨⟨vs, v, h', h1⟩, fun x H' ⟨e1, e2⟩ => ?_⟩
  subst e1
  have e3 := e2 vs h'
  rw [h1] at e3
  cases e3
  exact ⟨Stp.refl, r, h2⟩
theorem it_ref {H1 : Hp} {as1 : List Addr} {st1 : Sto} {n : Nat} {a : Addr} {xs : List D} (hK : P.K = X.K) (r1 : RS P H1 as1 st1) (ha : as1[n]? = some a) : ItOk P (Itl X.K a) H1 as1 xs (Chk.at_ n (.lst xs)).ok := fun H as st i s r hc => by
  have hc : st[n]? = some (.lst xs) := of_decide_eq_true hc
  obtain ⟨b, hb, vs, h1, hd⟩ := r.ob n _ hc
  rw [s.at_ ha] at hb
  cases hb
  refine ⟨fun d e => ?_, fun e => ⟨vs, SqL.of h1, by rw [e, hd.length]; exact Nat.le_refl _⟩⟩
  obtain ⟨v, q1, q2⟩ := hd.get e
  refine ⟨⟨vs, v, SqL.of h1, q1⟩, fun x H' ⟨e1, e2⟩ => ?_⟩
  subst e1
  have e3 := e2 vs (SqL.of h1)
  rw [q1] at e3
  cases e3
  exact ⟨Stp.refl, r, q2⟩
theorem it_tup {H1 : Hp} {as1 : List Addr} {st1 : Sto} {a : Addr} {xs : List D} {vs : List V} (hK : P.K = X.K) (r1 : RS P H1 as1 st1) (h : SqT P.K H1 a vs) (hd : RDs P H1 as1 xs vs) (chk : Sto → Bool) : ItOk P (Itt X.K a) H1 as1 xs chk := fun H as st i s r _ => by
  have h' : SqT X.K H a vs := hK ▸ r1.tup s h
  have hd' := RDs.mv (r1.mv s) _ _ hd
  refine ⟨fun d e => ?_, fun e => ⟨vs, h', by rw [e, hd.length]; exact Nat.le_refl _⟩⟩
  obtain ⟨v, h1, h2⟩ := hd'.get e
  refine ⟨⟨vs, v, h', h1⟩, fun x H' ⟨e1, e2⟩ => ?_⟩
  subst e1
  have e3 := e2 vs h'
  rw [h1] at e3
  cases e3
  exact ⟨Stp.refl, r, h2⟩
/-- a tuple or not -/
theorem tup_or (F : Fns) (c : E) (env : En) (st : Sto) : (∃ xs st1, evE F c env st = .ok (.tup xs) st1) ∨ ∀ d st1, evE F c env st = .ok d st1 → ∀ xs, d ≠ .tup xs := by
  cases e : evE F c env st with
  | ok d st1 =>
    cases d with
    | tup xs => exact .inl ⟨xs, st1, rfl⟩
    | _ => exact .inr fun d st2 h xs => by cases h; exact nofun
  | _ => exact .inr nofun
theorem si_of {tg e : Expr} {c : E} (hK : P.K = X.K) (he : SE X P W F e c) : SI X P W F tg e (.of c) :=
  PI.imp (PI.or (pi_list he) (pi_tup he)) fun σ H R h => by
    obtain ⟨env, st, as, rs, re, h⟩ := h
    simp only [evI] at h
    rcases tup_or F c env st with ⟨xs, st1, e1⟩ | hno
    · refine .inr ⟨env, st, as, rs, re, ?_⟩
      rw [e1] at h ⊢
      intro v H' as' s r hd
      obtain ⟨a, vs, rfl, h1, h2⟩ := hd
      exact ⟨a, rfl, ⟨vs, hK ▸ h1⟩, h _ H' as' s r (it_tup hK r h1 h2 _)⟩
    · refine .inl ⟨env, st, as, rs, re, ?_⟩
      cases e1 : evE F c env st with
      | stk => rw [e1] at h; exact h
      | exc q st1 => rw [e1] at h; exact h
      | ok d st1 =>
        rw [e1] at h
        simp only [Out.bind_ok] at h
        intro v H' as' s r hd
        cases d with
        | tup xs => exact (hno _ _ e1 xs rfl).elim
        | rol xs =>
          simp only [walkD] at h
          obtain ⟨a, vs, rfl, h1, h2⟩ := hd
          exact ⟨a, rfl, ⟨vs, hK ▸ h1.sq⟩, h _ H' as' s r (it_rol hK r h1 h2 _)⟩
        | ref n =>
          simp only [walkD] at h
          split at h
          · rename_i p e2
            split at e2
            · cases e2
              obtain ⟨a, vs, rfl, ha, h1, h2⟩ := lstAt r hd (by assumption)
              exact ⟨a, rfl, ⟨vs, SqL.of h1⟩, h _ H' as' s r (it_ref hK r ha)⟩
            · cases e2
          · exact h.elim
        | non => exact h.elim
        | bl _ => exact h.elim
        | int _ => exact h.elim
        | str _ => exact h.elim
        | fn _ => exact h.elim
theorem rangeL_get {lo c : Int} {n i : Nat} {d : D} (h : (rangeL lo c n)[i]? = some d) : i < n ∧ d = .int (lo + (i : Int) * c) := by
  unfold rangeL at h
  rw [List.getElem?_map] at h
  cases e : (List.range n)[i]? with
  | none => rw [e] at h; cases h
  | some j =>
    rw [e] at h
    obtain ⟨h1, h2⟩ := List.getElem?_eq_some_iff.mp e
    rw [List.getElem_range] at h2
    rw [List.length_range] at h1
    subst h2
    cases h
    exact ⟨h1, rfl⟩
theorem rangeL_len {lo c : Int} {n : Nat} : (rangeL lo c n).length = n := by unfold rangeL; rw [List.length_map, List.length_range]
theorem it_r {H1 : Hp} {as1 : List Addr} {lo : Int} {n : Nat} (chk : Sto → Bool) : ItOk P (Itr lo n) H1 as1 (rangeL lo 1 n) chk := fun H as st i s r _ => by
  refine ⟨fun d e => ?_, fun e => ?_⟩
  · obtain ⟨h1, rfl⟩ := rangeL_get e
    refine ⟨h1, fun x H' ⟨e1, e2⟩ => ?_⟩
    subst e1 e2
    exact ⟨Stp.refl, r, by rw [Int.mul_one]; rfl⟩
  · rw [rangeL_len] at e
    exact Nat.le_of_eq e.symm
theorem it_c {H1 : Hp} {as1 : List Addr} {lo c : Int} {n : Nat} (chk : Sto → Bool) : ItOk P (Itc lo c n) H1 as1 (rangeL lo c n) chk := fun H as st i s r _ => by
  refine ⟨fun d e => ?_, fun e => ?_⟩
  · obtain ⟨h1, rfl⟩ := rangeL_get e
    refine ⟨h1, fun x H' ⟨e1, e2⟩ => ?_⟩
    subst e1 e2
    exact ⟨Stp.refl, r, rfl⟩
  · rw [rangeL_len] at e
    exact Nat.le_of_eq e.symm
theorem si_r1 {tg a : Expr} {c : E} {p : Pos} (hg : Gl X "range") (hm : X.mg "range" = none) (ha : SE X P W F a c) (hs : starEach [a] X.env = [(false, eval a X.env)] := by rfl) (hs1 : starEach (a :: []) X.env = (false, eval a X.env) :: starEach [] X.env := by rfl) : SI X P W F tg (.Call (.Name "range" p) [a] [] pos) (.r1 c) :=
  PI.imp (pi_range1 hg hm (pa_cons ha pa_nil hs1) hs) fun σ H R h => by
    obtain ⟨env, st, as, rs, re, h⟩ := h
    simp only [evI] at h
    refine ⟨env, st, as, rs, re, (OOk.bind h).imp (fun x H1 q => ?_) fun _ _ z => z⟩
    obtain ⟨d, st1, as1, s1, r1, hd, h⟩ := q
    split at h
    · split at h
      · rename_i hj
        cases hd
        have hj := of_decide_eq_true hj
        exact ⟨_, rfl, hj.1, hj.2, h.here r1 (it_r _)⟩
      · exact h.elim
    · exact h.elim
theorem si_r2 {tg a b : Expr} {ca cb : E} {p : Pos} (hg : Gl X "range") (hm : X.mg "range" = none) (ha : SE X P W F a ca) (hb : SE X P W F b cb) (hs : starEach [a, b] X.env = [(false, eval a X.env), (false, eval b X.env)] := by rfl) (hs2 : starEach [b] X.env = [(false, eval b X.env)] := by rfl)
    (hsa : starEach (a :: [b]) X.env = (false, eval a X.env) :: starEach [b] X.env := by rfl) (hsb : starEach (b :: []) X.env = (false, eval b X.env) :: starEach [] X.env := by rfl) : SI X P W F tg (.Call (.Name "range" p) [a, b] [] pos) (.r2 ca cb) :=
  PI.imp (pi_range2 hg hm (pa_cons ha (pa_cons hb pa_nil hsb) hsa) hs hs2) fun σ H R h => by
    obtain ⟨env, st, as, rs, re, h⟩ := h
    simp only [evI] at h
    refine ⟨env, st, as, rs, re, (OOk.bind h).imp (fun x H1 q => ?_) fun _ _ z => z⟩
    obtain ⟨d, st1, as1, s1, r1, hd, h⟩ := q
    refine ⟨env, st1, as1, r1, re.mv (rs.mv s1), (OOk.bind h).imp (fun y H2 q => ?_) fun _ _ z => z⟩
    obtain ⟨e, st2, as2, s2, r2, he, h⟩ := q
    split at h
    · split at h
      · rename_i hj
        cases hd
        cases he
        have h1 := of_decide_eq_true hj.1
        have h2 := of_decide_eq_true hj.2
        exact ⟨_, _, rfl, ⟨h1.1, h1.2, h2.1, h2.2⟩, h.here r2 (it_r _)⟩
      · exact h.elim
    · exact h.elim
theorem si_r3 {tg a b c : Expr} {ca cb cc : E} {p : Pos} (hg : Gl X "range") (hm : X.mg "range" = none) (ha : SE X P W F a ca) (hb : SE X P W F b cb) (hc : SE X P W F c cc)
    (hs : starEach [a, b, c] X.env = (false, eval a X.env) :: starEach [b, c] X.env := by rfl) (hpl : (backTo pos (starEach [b, c] X.env)).any (·.1) = false := by rfl)
    (hsb : starEach [b, c] X.env = (false, eval b X.env) :: starEach [c] X.env := by rfl) (hsc : starEach [c] X.env = (false, eval c X.env) :: starEach [] X.env := by rfl) : SI X P W F tg (.Call (.Name "range" p) [a, b, c] [] pos) (.r3 ca cb cc) :=
  PI.imp (pi_range3 hg hm (pa_cons ha (pa_cons hb (pa_cons hc pa_nil hsc) hsb) hs) hs hpl) fun σ H R h => by
    obtain ⟨env, st, as, rs, re, h⟩ := h
    simp only [evI] at h
    refine ⟨env, st, as, rs, re, (OOk.bind h).imp (fun x H1 q => ?_) fun _ _ z => z⟩
    obtain ⟨d, st1, as1, s1, r1, hd, h⟩ := q
    refine ⟨env, st1, as1, r1, re.mv (rs.mv s1), (OOk.bind h).imp (fun y H2 q => ?_) fun _ _ z => z⟩
    obtain ⟨e, st2, as2, s2, r2, he, h⟩ := q
    refine ⟨env, st2, as2, r2, (re.mv (rs.mv s1)).mv (r1.mv s2), (OOk.bind h).imp (fun z H3 q => ?_) fun _ _ z => z⟩
    obtain ⟨f, st3, as3, s3, r3, hf, h⟩ := q
    split at h
    · split at h
      · rename_i hj
        cases hd
        cases he
        cases hf
        obtain ⟨h1, h2, rfl⟩ := hj
        have h1 := of_decide_eq_true h1
        have h2 := of_decide_eq_true h2
        exact ⟨_, _, _, _, rfl, RgC.neg h1.1 h1.2 h2.1 h2.2, h.here r3 (it_c _)⟩
      · exact h.elim
    · exact h.elim
end
end Ev
end

section
set_option Elab.async false
set_option linter.all false
set_option maxRecDepth 100000
set_option autoImplicit false
set_option maxHeartbeats 1000000
/-! Ev13: enumerate over a tuple -/
namespace Ev
open PySem L2 PySem.Spec PyProof.Rows
open AutoSeq1 (wpAny_loadPart')
theorem enumNewT (l : Addr) (items : Array Value) (n : Nat) (dct : Option Addr) (sl : Array (Option Value)) :
    Meets (Builtin.«enumerate.__new__» ⟨[.type "enumerate", .ref l], []⟩) (fun _ R s => s.heap.get? l = some { cls := .type "tuple", dict := dct, data := .seq items n, slots := sl } ∧
      R (.ok (.ret (.ref (s.heap.push { cls := .type "tuple_iterator", data := .fields #[.ref l, .int 0 0] }).objs.size)))
        { s with heap := (s.heap.push { cls := .type "tuple_iterator", data := .fields #[.ref l, .int 0 0] }).push { cls := .type "enumerate", data := .fields #[.none, .bool false, .ref s.heap.objs.size, rawInt 0, .none, .none] } }) :=
  .of_wp fun prog w A R s h => by
    obtain ⟨hp, g, d, tk, os⟩ := s
    obtain ⟨hl, h⟩ := h
    have hsub := sub_enumerate
    have hT : Heap.IsTuple (Shared.heap ⟨hp, g, d, tk, os⟩) l items := ⟨_, hl, rfl, n, rfl⟩
    wp_walk using wpAny_loadPart' hl
    refine wpAny_stack_any fun st => wpAny_pure ?_
    split
    · rename_i c _ _ _ _ _
      cases (c == Value.type "enumerate") <;>
      · wp_walk using wpAny_loadPart' hl, wpAny_pyIter_tuple hT
        exact ⟨_, rfl, h⟩
    · wp_walk using wpAny_loadPart' hl, wpAny_pyIter_tuple hT
      exact ⟨_, rfl, h⟩

/-- the tuple at a, each item in a new pair -/
def IteT (K : PySem.W.Frag) (a : Addr) : It :=
  ⟨fun i H => ∃ (xs : List V) (x : V), SqT K H a xs ∧ xs[i]? = some x, fun i H v H' => ∃ T x, v = .ref T ∧ H T = none ∧ H' = upd H T (.tup [.int (i : Nat), x]) ∧ ∀ xs, SqT K H a xs → xs[i]? = some x, fun i H => ∃ xs : List V, SqT K H a xs ∧ xs.length = i⟩
theorem turnEnumT {P : Program} {w : World} {K : PySem.W.Frag} {elts : List Expr} {kk : Nat} {tpos : Pos} (a e it : Addr) :
    Turn P w K (.Tuple elts kk tpos) (IteT K a) [e, it] e (fun i h => (∃ old, IsEnum h e it ((i : Nat) : Int) old) ∧ h.IsTupleIter it a i ∧ e ≠ it) where
  mem := by simp
  obj := fun i h ⟨⟨old, he⟩, ⟨o, ho, hc, hd⟩, _⟩ b hb => by
    rcases (show b = e ∨ b = it by simpa using hb) with rfl | rfl
    · exact ⟨_, he, fun v q => nomatch q⟩
    · exact ⟨o, ho, fun v q => by rw [hd] at q; cases q⟩
  keep := fun i h h' ⟨⟨old, he⟩, hi, hne⟩ k => ⟨⟨old, k e (by simp) _ he⟩, hi.at fun o q => k it (by simp) o q, hne⟩
  item := by
    intro X hP hw hK hc i pins s σ H E I hf ⟨⟨old, he⟩, hit, hne⟩ ⟨xs, x, hq, hx⟩
    subst hP hw hK
    obtain ⟨its, rv, p, hz⟩ := I.tuple hq
    have hl := rv.length
    have hel : e < s.heap.objs.size := Heap.lt_size he
    have hil : it < s.heap.objs.size := let ⟨_, q, _⟩ := hit; Heap.lt_size q
    have nai : a ≠ it := fun z => by
      obtain ⟨o, h1, h2, _⟩ := p
      obtain ⟨o', h3, h4, _⟩ := hit
      rw [z, h3] at h1; cases h1; rw [h4] at h2; exact absurd (Value.type.inj h2) (by decide)
    have nae : e ≠ a := fun z => by
      obtain ⟨o, h1, h2, _⟩ := p
      rw [← z, he] at h1; cases h1; exact absurd (Value.type.inj h2) (by decide)
    refine wpAny_pyNext_enum_itemD (Draws.tuple (A := X.A.in1) (I.ok.hd hc) it a nai its.toArray) he ⟨hit, p⟩ (by have := (List.getElem?_eq_some_iff.mp hx).1; rw [List.size_toArray]; omega) hne (by simp [hne, nae]) fun u h' tk hu ho hst hT hsz hk => ?_
    have hu : its[i]? = some u := by simpa using hu
    obtain ⟨u', hu', ru⟩ := rv.get hx
    rw [hu] at hu'; cases hu'
    refine ⟨_, rfl, wpAny_letOwnedTupleGo_enum (s := { s with heap := h', toks := tk + 1 }) ho fun h'' he' sb => ?_⟩
    have hT2 : h''.get? s.heap.objs.size = some { cls := .type "tuple", data := .seq #[.int i tk, u] } := (sb.2 _ (Nat.ne_of_gt hel)).trans hT
    have nw : ObjOk X.prog X.w (upd H s.heap.objs.size (.tup [.int (i : Nat), x])) h'' s.heap.objs.size (.tup [.int (i : Nat), x]) :=
      ⟨by show 2 ≤ sizeLine; decide, [.int i tk, u], .cons ⟨_, rfl⟩ (.cons ru .nil), ⟨_, hT2, rfl, _, rfl⟩⟩
    have I1 : Inv X pins σ (upd H s.heap.objs.size (.tup [.int (i : Nat), x])) { s with heap := h'', toks := tk + 1 } :=
      I.turnedNew (ch := [e, it]) (fun b ob hb q => (sb.2 b (fun z => hb (by simp [z]))).trans (hk b ob (fun z => hb (by simp [z])) (fun z => hb (by simp [z])) q)) hf (Nat.le_refl _) nw
    refine ⟨.ref s.heap.objs.size, _, I1, rfl, ⟨_, x, rfl, I.hok.fresh (Nat.le_refl _), rfl, fun ys hy => by rw [I.tuple_inj hy hq]; exact hx⟩, ⟨⟨u, by rw [show ((i + 1 : Nat) : Int) = (i : Int) + 1 by omega]; exact he'⟩, hst.1.at fun o q => (sb.2 it (Ne.symm hne)).trans q, hne⟩, fun b hb => ?_⟩
    have hb' : b < s.heap.objs.size := by
      rcases (show b = e ∨ b = it by simpa using hb) with z | z
      · rw [z]; exact hel
      · rw [z]; exact hil
    rw [upd_ne (Nat.ne_of_lt hb')]
    exact (hf b hb).1
  done := by
    intro X hP hw hK hc i pins s σ H E I hf ⟨⟨old, he⟩, hit, hne⟩ ⟨xs, hq, hx⟩
    subst hP hw hK hx
    obtain ⟨its, rv, p, hz⟩ := I.tuple hq
    have hl := rv.length
    obtain ⟨f0, f1, f2, f3, f4, f5⟩ := hf it (by simp)
    have nai : a ≠ it := fun z => by
      obtain ⟨o, h1, h2, _⟩ := p
      obtain ⟨o', h3, h4, _⟩ := hit
      rw [z, h3] at h1; cases h1; rw [h4] at h2; exact absurd (Value.type.inj h2) (by decide)
    exact wpAny_pyNext_enum_endD (Draws.tuple (A := X.A.in1) (I.ok.hd hc) it a nai its.toArray) he ⟨by rw [List.size_toArray, ← hl]; exact hit, p⟩ fun h' eb => ⟨rfl, I.turned (t' := s.toks) (fun b o hb q => eb b o hb q) f0 f1 f3 f4 f5⟩
  self := fun A i s Q E ⟨⟨_, he⟩, _⟩ h => wpAny_pyIter_enum he h
def iEnumT (K : PySem.W.Frag) (ta : TA) : TI := fun σ H R => ta σ H fun vs H1 => ∃ a xs, vs = [.ref a] ∧ SqT K H1 a xs ∧ R (IteT K a) H1
theorem pi_enumT {X : Cx} {e : Expr} {ta : TA} {p pos tpos : Pos} {elts : List Expr} {kk : Nat} (hg : Gl X "enumerate") (hm : X.mg "enumerate" = none) (ha : PA X [e] ta) (hs : starEach [e] X.env = [(false, eval e X.env)] := by rfl) :
    PI X (.Tuple elts kk tpos) (.Call (.Name "enumerate" p) [e] [] pos) (iEnumT X.K ta) := ⟨fun pins s σ H R I h => by
  refine Call_ (ld_blt I hg hm boot_enumerate (PyProof.Rows.callWith_type1 (thn (ha.run pos pins s σ H _ I h) fun us s1 ⟨vs, H1, I1, r1, a, xs, ex, hq, q⟩ => ?_) hs rfl))
  subst ex
  cases r1 with
  | cons r rr =>
    cases rr
    cases r
    obtain ⟨its, rv, ⟨⟨c, dct, dt, sl⟩, hl, hc, n, hd⟩, hz⟩ := I1.tuple hq
    simp only at hc hd
    subst hc hd
    refine callType_new F.called_enumerate (by decide) (F.typeCall_enumerate_1 _) (F.newCall_enumerate_1 _) (fun obj => F.args_object_init_2 obj _) F.entry_enumerate_new (enumNewT a its.toArray n dct sl) ⟨hl, ?_⟩
    have hz : (s1.heap.push { cls := .type "tuple_iterator", data := .fields #[.ref a, .int 0 0] }).objs.size = s1.heap.objs.size + 1 := Heap.size_push ..
    show _ ∧ _
    rw [hz]
    have he : IsEnum ((s1.heap.push { cls := .type "tuple_iterator", data := .fields #[.ref a, .int 0 0] }).push { cls := .type "enumerate", data := .fields #[.none, .bool false, .ref s1.heap.objs.size, rawInt 0, .none, .none] }) (s1.heap.objs.size + 1) s1.heap.objs.size 0 .none := by
      have := Heap.get?_push_size (s1.heap.push { cls := .type "tuple_iterator", data := .fields #[.ref a, .int 0 0] }) (o := { cls := .type "enumerate", data := .fields #[.none, .bool false, .ref s1.heap.objs.size, rawInt 0, .none, .none] }) rfl
      rw [hz] at this
      exact this
    have hk : ∀ b o, s1.heap.get? b = some o → ((s1.heap.push { cls := .type "tuple_iterator", data := .fields #[.ref a, .int 0 0] }).push { cls := .type "enumerate", data := .fields #[.none, .bool false, .ref s1.heap.objs.size, rawInt 0, .none, .none] }).get? b = some o := fun b o x => Heap.get?_push_of_some _ (Heap.get?_push_of_some _ x)
    refine ⟨⟨_, he, rfl⟩, wpAny_pyIter_enum he ?_⟩
    have I2 : Inv X pins σ H1 { s1 with heap := (s1.heap.push { cls := .type "tuple_iterator", data := .fields #[.ref a, .int 0 0] }).push { cls := .type "enumerate", data := .fields #[.none, .bool false, .ref s1.heap.objs.size, rawInt 0, .none, .none] } } := I1.kept (t' := s1.toks) hk
    refine ⟨s1.heap.objs.size + 1, [s1.heap.objs.size + 1, s1.heap.objs.size], _, _, H1, rfl, I2, turnEnumT a (s1.heap.objs.size + 1) s1.heap.objs.size, ⟨⟨.none, he⟩, ⟨_, Heap.get?_push_of_some _ (Heap.get?_push_size _ rfl), rfl, rfl⟩, Nat.succ_ne_self _⟩, fun b hb => ?_, q⟩
    have hle : s1.heap.objs.size ≤ b := by
      rcases (show b = s1.heap.objs.size + 1 ∨ b = s1.heap.objs.size by simpa using hb) with z | z
      · rw [z]; exact Nat.le_add_right _ _
      · rw [z]; exact Nat.le_refl _
    exact I1.fpOk hle (I1.hok.fresh hle)⟩
end Ev
end

section
set_option Elab.async false
set_option linter.all false
set_option maxRecDepth 100000
set_option autoImplicit false
set_option maxHeartbeats 1000000
/-! Ev14: enumerate, zip, comprehensions -/
namespace Ev
open PySem L2 PySem.Spec PyProof.Rows
section
variable {X : Cx} {P : Pm} {W : WX} {k : Nat} {F : Fns} {pos : Pos}
theorem enumL_get {xs : List D} {i : Nat} {d : D} (h : (enumL xs)[i]? = some d) : ∃ x, xs[i]? = some x ∧ d = .tup [.int (i : Int), x] := by
  unfold enumL at h
  rw [List.getElem?_map, List.getElem?_zipIdx] at h
  cases e : xs[i]? with
  | none => rw [e] at h; cases h
  | some x =>
    rw [e] at h
    simp at h
    exact ⟨x, rfl, h.symm⟩
theorem enumL_len {xs : List D} : (enumL xs).length = xs.length := by unfold enumL; rw [List.length_map, List.length_zipIdx]
theorem zipL_get {xs ys : List D} {i : Nat} {d : D} (h : (zipL xs ys)[i]? = some d) : ∃ x y, xs[i]? = some x ∧ ys[i]? = some y ∧ d = .tup [x, y] := by
  unfold zipL at h
  rw [List.getElem?_map] at h
  cases e : (xs.zip ys)[i]? with
  | none => rw [e] at h; cases h
  | some p =>
    rw [e] at h
    cases h
    obtain ⟨h1, h2⟩ := List.getElem?_zip_eq_some.mp e
    exact ⟨p.1, p.2, h1, h2, rfl⟩
theorem zipL_len {xs ys : List D} : (zipL xs ys).length = min xs.length ys.length := by unfold zipL; rw [List.length_map, List.length_zip]
/-- a new pair is given out -/
theorem pair_new {H : Hp} {as : List Addr} {st : Sto} {T : Addr} {d e : D} {x y : V} (r : RS P H as st) (hT : H T = none) (hd : RD P H as d x) (he : RD P H as e y) :
    Stp H as (upd H T (.tup [x, y])) as ∧ RS P (upd H T (.tup [x, y])) as st ∧ RD P (upd H T (.tup [x, y])) as (.tup [d, e]) (.ref T) := by
  obtain ⟨s, r'⟩ := r.new hT (.tup [x, y])
  exact ⟨s, r', T, [x, y], rfl, SqT.of upd_same, RDs.mv (r.mv s) _ _ ⟨x, [y], rfl, hd, y, [], rfl, he, rfl⟩⟩
theorem ite_any {H1 : Hp} {as1 : List Addr} {a : Addr} {xs : List D} {chk : Sto → Bool}
    (h : ∀ (H : Hp) (as : List Addr) (st : Sto), Stp H1 as1 H as → RS P H as st → chk st = true → ∃ vs, SqL X.K H a vs ∧ RDs P H as xs vs) : ItOk P (Ite X.K a) H1 as1 (enumL xs) chk := fun H as st i s r hc => by
  obtain ⟨vs, h', hd⟩ := h H as st s r hc
  refine ⟨fun d e => ?_, fun e => ⟨vs, h', by rw [e, enumL_len, hd.length]; exact Nat.le_refl _⟩⟩
  obtain ⟨x, hx, rfl⟩ := enumL_get e
  obtain ⟨v, h1, h2⟩ := hd.get hx
  refine ⟨⟨vs, v, h', h1⟩, fun y H' ⟨T, z, e1, e2, e3, e4⟩ => ?_⟩
  subst e1 e3
  have e5 := e4 vs h'
  rw [h1] at e5
  cases e5
  exact pair_new r e2 rfl h2
theorem iteT_any {H1 : Hp} {as1 : List Addr} {a : Addr} {xs : List D} {chk : Sto → Bool}
    (h : ∀ (H : Hp) (as : List Addr) (st : Sto), Stp H1 as1 H as → RS P H as st → ∃ vs, SqT X.K H a vs ∧ RDs P H as xs vs) : ItOk P (IteT X.K a) H1 as1 (enumL xs) chk := fun H as st i s r hc => by
  obtain ⟨vs, h', hd⟩ := h H as st s r
  refine ⟨fun d e => ?_, fun e => ⟨vs, h', by rw [e, enumL_len, hd.length]⟩⟩
  obtain ⟨x, hx, rfl⟩ := enumL_get e
  obtain ⟨v, h1, h2⟩ := hd.get hx
  refine ⟨⟨vs, v, h', h1⟩, fun y H' ⟨T, z, e1, e2, e3, e4⟩ => ?_⟩
  subst e1 e3
  have e5 := e4 vs h'
  rw [h1] at e5
  cases e5
  exact pair_new r e2 rfl h2
theorem si_en {elts : List Expr} {kk : Nat} {tpos : Pos} {e : Expr} {c : E} {p : Pos} (hK : P.K = X.K) (hg : Gl X "enumerate") (hm : X.mg "enumerate" = none) (he : SE X P W F e c) (hs : starEach [e] X.env = [(false, eval e X.env)] := by rfl) (hs1 : starEach (e :: []) X.env = (false, eval e X.env) :: starEach [] X.env := by rfl) : SI X P W F (.Tuple elts kk tpos) (.Call (.Name "enumerate" p) [e] [] pos) (.en c) :=
  PI.imp (PI.or (pi_enum hg hm (pa_cons he pa_nil hs1) hs) (pi_enumT hg hm (pa_cons he pa_nil hs1) hs)) fun σ H R h => by
    obtain ⟨env, st, as, rs, re, h⟩ := h
    simp only [evI] at h
    rcases tup_or F c env st with ⟨xs, st1, e1⟩ | hno
    · refine .inr ⟨env, st, as, rs, re, ?_⟩
      rw [e1] at h ⊢
      intro v H' as' s r hd
      obtain ⟨a, vs, rfl, h1, h2⟩ := hd
      refine ⟨a, vs, rfl, hK ▸ h1, h _ H' as' s r (iteT_any fun H2 as2 st2 s2 r2 => ⟨vs, hK ▸ r.tup s2 h1, RDs.mv (r.mv s2) _ _ h2⟩)⟩
    · refine .inl ⟨env, st, as, rs, re, ?_⟩
      cases e1 : evE F c env st with
      | stk => rw [e1] at h; exact h
      | exc q st1 => rw [e1] at h; exact h
      | ok d st1 =>
        rw [e1] at h
        simp only [Out.bind_ok] at h
        intro v H' as' s r hd
        cases d with
        | tup xs => exact (hno _ _ e1 xs rfl).elim
        | rol xs =>
          simp only [walkD] at h
          obtain ⟨a, vs, rfl, h1, h2⟩ := hd
          exact ⟨a, vs, rfl, hK ▸ h1.sq, h _ H' as' s r (ite_any fun H2 as2 st2 s2 r2 _ => ⟨vs, hK ▸ (r.rol s2 h1).sq, RDs.mv (r.mv s2) _ _ h2⟩)⟩
        | ref n =>
          simp only [walkD] at h
          split at h
          · rename_i p e2
            split at e2
            · cases e2
              obtain ⟨a, vs, rfl, ha, h1, h2⟩ := lstAt r hd (by assumption)
              refine ⟨a, vs, rfl, SqL.of h1, h _ H' as' s r (ite_any fun H2 as2 st2 s2 r2 hc => ?_)⟩
              obtain ⟨b, hb, ws, q1, q2⟩ := r2.ob n _ (of_decide_eq_true hc)
              rw [s2.at_ ha] at hb
              cases hb
              exact ⟨ws, SqL.of q1, q2⟩
            · cases e2
          · exact h.elim
        | non => exact h.elim
        | bl _ => exact h.elim
        | int _ => exact h.elim
        | str _ => exact h.elim
        | fn _ => exact h.elim
theorem si_zi {elts : List Expr} {kk : Nat} {tpos : Pos} {a b : Expr} {ca cb : E} {p : Pos} (hK : P.K = X.K) (hg : Gl X "zip") (hm : X.mg "zip" = none) (ha : SE X P W F a ca) (hb : SE X P W F b cb)
    (hsa : starEach (a :: [b]) X.env = (false, eval a X.env) :: starEach [b] X.env := by rfl) (hsb : starEach (b :: []) X.env = (false, eval b X.env) :: starEach [] X.env := by rfl)
    (hpl : (backTo pos (starEach [b] X.env)).any (·.1) = false := by rfl) : SI X P W F (.Tuple elts kk tpos) (.Call (.Name "zip" p) [a, b] [] pos) (.zi ca cb) :=
  PI.imp (RZ.pi_zipA hg hm (pa_cons ha (pa_cons hb pa_nil hsb) hsa) hsa hpl) fun σ H R h => by
    obtain ⟨env, st, as, rs, re, h⟩ := h
    simp only [evI] at h
    refine ⟨env, st, as, rs, re, (OOk.bind h).imp (fun x H1 q => ?_) fun _ _ z => z⟩
    obtain ⟨d, st1, as1, s1, r1, hd, h⟩ := q
    refine ⟨env, st1, as1, r1, re.mv (rs.mv s1), (OOk.bind h).imp (fun y H2 q => ?_) fun _ _ z => z⟩
    obtain ⟨e, st2, as2, s2, r2, he, h⟩ := q
    replace hd := RD.mv (r1.mv s2) _ _ hd
    split at h
    · rename_i xs ys
      obtain ⟨a, vs, rfl, h1, h2⟩ := hd
      obtain ⟨b, ws, rfl, h3, h4⟩ := he
      refine ⟨a, b, vs, ws, rfl, .inr ⟨hK ▸ h1, hK ▸ h3, h.here r2 fun H as st i s r _ => ?_⟩⟩
      have q1 : SqT X.K H a vs := hK ▸ r2.tup s h1
      have q3 : SqT X.K H b ws := hK ▸ r2.tup s h3
      have q2 := RDs.mv (r2.mv s) _ _ h2
      have q4 := RDs.mv (r2.mv s) _ _ h4
      refine ⟨fun d e => ?_, fun e => ⟨vs, ws, q1, q3, by rw [e, zipL_len, q2.length, q4.length]; omega⟩⟩
      obtain ⟨x, y, hx, hy, rfl⟩ := zipL_get e
      obtain ⟨v, p1, p2⟩ := q2.get hx
      obtain ⟨w, p3, p4⟩ := q4.get hy
      refine ⟨⟨vs, ws, v, w, q1, q3, p1, p3⟩, fun z H' ⟨T, z1, z2, e1, e2, e3, e4, e5⟩ => ?_⟩
      subst e1 e3
      have e6 := e4 vs q1
      have e7 := e5 ws q3
      rw [p1] at e6
      rw [p3] at e7
      cases e6
      cases e7
      exact pair_new r e2 p2 p4
    · rename_i n m
      split at h
      · rename_i xs ys g1 g2
        obtain ⟨a, vs, rfl, ha, h1, h2⟩ := lstAt r2 hd g1
        obtain ⟨b, ws, rfl, hb, h3, h4⟩ := lstAt r2 he g2
        refine ⟨a, b, vs, ws, rfl, .inl ⟨SqL.of h1, SqL.of h3, h.here r2 fun H as st i s r hc => ?_⟩⟩
        obtain ⟨c1, c2⟩ := Bool.and_eq_true_iff.mp hc
        obtain ⟨a', ea, vs', q1, q2⟩ := r.ob _ _ (of_decide_eq_true c1)
        rw [s.at_ ha] at ea
        cases ea
        obtain ⟨b', eb, ws', q3, q4⟩ := r.ob _ _ (of_decide_eq_true c2)
        rw [s.at_ hb] at eb
        cases eb
        refine ⟨fun d e => ?_, fun e => ⟨vs', ws', SqL.of q1, SqL.of q3, by rw [e, zipL_len, q2.length, q4.length]; omega⟩⟩
        obtain ⟨x, y, hx, hy, rfl⟩ := zipL_get e
        obtain ⟨v, p1, p2⟩ := q2.get hx
        obtain ⟨w, p3, p4⟩ := q4.get hy
        refine ⟨⟨vs', ws', v, w, SqL.of q1, SqL.of q3, p1, p3⟩, fun z H' ⟨T, z1, z2, e1, e2, e3, e4, e5⟩ => ?_⟩
        subst e1 e3
        have e6 := e4 vs' (SqL.of q1)
        have e7 := e5 ws' (SqL.of q3)
        rw [p1] at e6
        rw [p3] at e7
        cases e6
        cases e7
        exact pair_new r e2 p2 p4
      · exact h.elim
    · exact h.elim
end
end Ev
end

section
set_option Elab.async false
set_option linter.all false
set_option maxRecDepth 100000
set_option autoImplicit false
set_option maxHeartbeats 1000000
/-! Ev15: comprehensions -/
namespace Ev
open PySem L2 PySem.Spec PyProof.Rows
abbrev W0 : WX := fun _ _ _ _ => False
section
variable {X : Cx} {P : Pm} {W : WX} {k : Nat} {F : Fns} {pos : Pos}
theorem Cok.blk (c : Cok X P W k) (s : Shared) (H : Hp) (scope : Scope) (cenv : PySem.Env) (fp : List Addr) : Cok (X.blk s H scope cenv fp) P W0 k := ⟨c.hK, c.calm, c.nd, takes0, c.gd, c.rm, c.un, PassesOwn.never⟩
theorem wipe_get {σ : L2.St} {i : Nat} : ∀ {vs : List Nat}, (wipe σ vs)[i]? = if i ∈ vs then (σ[i]?).map (fun _ => none) else σ[i]?
  | [] => by simp [wipe]
  | v :: vs => by
    simp only [wipe]
    by_cases h : v = i
    · subst h
      by_cases hl : v < σ.length
      · rw [List.getElem?_set_self (by rw [wipe_length]; exact hl)]
        simp [hl]
      · rw [List.getElem?_eq_none (by rw [List.length_set, wipe_length]; omega)]
        simp [List.getElem?_eq_none (show σ.length ≤ v by omega)]
    · rw [List.getElem?_set_ne h, wipe_get]
      simp [List.mem_cons, show ¬ i = v from fun e => h e.symm]
theorem wipe_chg {σ σ' : L2.St} {l vs : List Nat} (h : Chg l (wipe σ vs) σ') (hl : ∀ i ∈ l, i ∈ vs) : wipe σ' vs = wipe σ vs := by
  have hlen : σ'.length = σ.length := by rw [h.1, wipe_length]
  apply List.ext_getElem?
  intro i
  rw [wipe_get, wipe_get]
  by_cases hi : i ∈ vs
  · rw [if_pos hi, if_pos hi]
    by_cases hz : i < σ.length
    · simp [hz, hlen]
    · rw [List.getElem?_eq_none (by omega), List.getElem?_eq_none (by omega)]
  · rw [if_neg hi, if_neg hi]
    have := h.2 i (fun q => hi (hl i q))
    rw [this, wipe_get, if_neg hi]
theorem RE.wipe {H : Hp} {as : List Addr} {env : En} {σ : L2.St} (re : RE P H as env σ) : ∀ vs : List Nat, RE P H as (wipeE env vs) (L2.wipe σ vs)
  | [] => re
  | v :: vs => by
    have ih := RE.wipe re vs
    refine ⟨by simp only [wipeE, L2.wipe, List.length_set]; exact ih.len, fun i d h => ?_⟩
    simp only [wipeE] at h
    by_cases hv : v = i
    · subst hv
      have hl : v < (wipeE env vs).length := by
        have := (List.getElem?_eq_some_iff.mp h).1
        simpa using this
      rw [List.getElem?_set_self hl] at h
      cases h
    · rw [List.getElem?_set_ne hv] at h
      simp only [L2.wipe]
      rw [List.getElem?_set_ne hv]
      exact ih.at_ i d h
/-- an object that is not ours changes -/
theorem RS.off {H : Hp} {as : List Addr} {st : Sto} {D : Addr} {vs : List V} {ws : List V} (r : RS P H as st) (hD : H D = some (.lst vs)) (hn : D ∉ as) : RS P (upd H D (.lst ws)) as st ∧ Mv P H as (upd H D (.lst ws)) as := by
  have mv : Mv P H as (upd H D (.lst ws)) as := ⟨fun a vs h => ?_, fun a vs h => ?_, fun _ _ h => h⟩
  · refine ⟨⟨r.len, r.nd, fun n o h => ?_⟩, mv⟩
    obtain ⟨a, h1, h2⟩ := r.ob n o h
    have hne : a ≠ D := fun e => hn (e ▸ List.mem_of_getElem? h1)
    refine ⟨a, h1, ?_⟩
    cases o with
    | lst xs => obtain ⟨vs, e, z⟩ := h2; exact ⟨vs, by rw [upd_ne hne]; exact e, RDs.mv mv _ _ z⟩
    | dct xs => obtain ⟨vs, e, z⟩ := h2; exact ⟨vs, by rw [upd_ne hne]; exact e, z.mv mv⟩
    | lok xs => obtain ⟨u, vs, e, z⟩ := h2; exact ⟨u, vs, by rw [upd_ne hne]; exact e, z.mv mv⟩
  · rcases h with (h | ⟨o, h⟩) | h
    · exact .inl (.inl (by rw [upd_ne (fun e => by rw [e, hD] at h; cases h)]; exact h))
    · exact .inl (.inr ⟨o, by rw [upd_ne (fun e => by rw [e, hD] at h; cases h)]; exact h⟩)
    · exact .inr h
  · rcases h with ⟨o, h⟩ | h
    · exact .inl ⟨o, by rw [upd_ne (fun e => by rw [e, hD] at h; cases h)]; exact h⟩
    · exact .inr h
abbrev lcF (F : Fns) (elt : E) (g : G) (c : EO) (own : List Nat) (env : En) (p : List D × Chk) (acc xs : List D) (st : Sto) : Out D :=
  (lcL (bindG g) (fun env st => evC F c env st) (fun env st => evE F elt env st) p.2.ok (wipeE env own) acc xs st).bind fun ys st2 => .ok (.ref st2.length) (st2 ++ [.lst ys])
theorem lc_rd {elt : E} {g : G} {it : I} {c : EO} {own : List Nat} {wi : TI} {σ : L2.St} {H : Hp} {Q : VK} {gx : TG} {tt : TT} {te : TE} (hsub : ∀ i ∈ gsl g, i ∈ own)
    (hgx : ∀ v σ H Q, tGt P g v σ H Q → gx v σ H Q) (htt : ∀ σ H Q, tT P W0 (evC F c) σ H Q → tt σ H Q) (hte : ∀ σ H Q, tO P W0 (evE F elt) σ H Q → te σ H Q)
    (hwi : ∀ R, tG P W (ItR P) (evI F it) σ H R → wi σ H R) (h : tO P W (evE F (.lc elt g it c own)) σ H Q) : tLc wi gx tt te own σ H Q := by
  obtain ⟨env, st, as, rs, re, h⟩ := h
  simp only [evE] at h
  refine hwi _ ⟨env, st, as, rs, re, (OOk.bind h).imp (fun J H1 q => ?_) fun _ _ z => z⟩
  obtain ⟨p, st1, as1, s1, r1, hJ, h⟩ := q
  have re1 := re.mv (rs.mv s1)
  split at h
  · rename_i hlen
    intro D hD
    have hDas : D ∉ as1 := fun hm => by rcases r1.ntup hm with ⟨_, z⟩ | ⟨_, z⟩ | ⟨_, _, z⟩ <;> (rw [hD] at z; cases z)
    refine ⟨fun i m H2 => ∃ st2 as2 acc vs, m = p.1.length - i ∧ i ≤ p.1.length ∧ D ∉ as2 ∧ H2 D = some (.lst vs) ∧ RDs P H2 as2 acc vs ∧ acc.length ≤ i ∧ RS P H2 as2 st2 ∧ Stp H1 as1 H2 as2 ∧
      OOk P H1 as1 (RDr P) (lcF F elt g c own env p acc (p.1.drop i) st2) Q fun C H' => W (.ref C) none σ H', ⟨p.1.length, st1, as1, [], [], rfl, Nat.zero_le _, hDas, upd_same, rfl, Nat.le_refl _, (r1.new hD _).2, (r1.new hD _).1, h⟩, ?_⟩
    rintro i m H2 ⟨st2, as2, acc, vs, rfl, hi, hD2, hvs, hacc, hal, r2, s2, h⟩
    by_cases hlt : i < p.1.length
    · -- a turn
      have hd0 : p.1.drop i = p.1[i] :: p.1.drop (i + 1) := List.drop_eq_getElem_cons hlt
      rw [hd0] at h
      simp only [lcF, lcL] at h
      split at h
      · rename_i hchk
        obtain ⟨hgo, hyl⟩ := (hJ H2 as2 st2 i s2 r2 hchk).1 p.1[i] (by simp [hlt])
        refine .inr ⟨hgo, fun H' => ∃ st2 as2 acc vs, D ∉ as2 ∧ H' D = some (.lst vs) ∧ RDs P H' as2 acc vs ∧ acc.length ≤ i + 1 ∧ RS P H' as2 st2 ∧ Stp H1 as1 H' as2 ∧
          OOk P H1 as1 (RDr P) (lcF F elt g c own env p acc (p.1.drop (i + 1)) st2) Q fun C H' => W (.ref C) none σ H', fun H' ⟨a1, a2, a3, a4, a5⟩ => ⟨p.1.length - (i + 1), by omega, a1, a2, a3, a4, rfl, hlt, a5⟩, fun x H3 hy => ?_⟩
        obtain ⟨s3, r3, hx⟩ := hyl x H3 hy
        split at h
        · exact h.elim
        · rename_i env1 hb
          have s13 := s2.trans s3
          have re3 : RE P H3 as2 (wipeE env own) (L2.wipe σ own) := (re1.mv (r1.mv s13)).wipe own
          refine hgx _ _ _ _ ⟨p.1[i], wipeE env own, st2, as2, env1, r3, re3, hx, hb, fun σ2 re4 hc => ⟨wipe_chg hc hsub, htt _ _ _ ⟨env1, st2, as2, r3, re4, ?_⟩⟩⟩
          -- the test
          have D3 : H3 D = some (.lst vs) := s3.fr _ _ hvs hD2
          cases e : evC F c env1 st2 with
          | stk => rw [e] at h; exact h.elim
          | exc q st3 => rw [e] at h; exact h.elim
          | ok b st3 =>
            rw [e] at h
            simp only [noexc_ok, Out.bind_ok] at h
            intro b' H4 as4 s4 r4 hb4
            cases hb4
            have D4 : H4 D = some (.lst vs) := s4.fr _ _ D3 hD2
            have nD4 : D ∉ as4 := fun hm => by
              obtain ⟨nw, rfl, hf⟩ := s4.pre
              rcases List.mem_append.mp hm with z | z
              · exact hD2 z
              · have := hf D z
                rw [D3] at this; cases this
            have hacc4 : RDs P H4 as4 acc vs := RDs.mv (r3.mv s4) _ _ (RDs.mv (r2.mv s3) _ _ hacc)
            cases b with
            | false => exact iteF ⟨st3, as4, acc, vs, nD4, D4, hacc4, Nat.le_succ_of_le hal, r4, s13.trans s4, h⟩
            | true =>
              refine iteT (hte _ _ _ ⟨env1, st3, as4, r4, re4.mv (r3.mv s4), ?_⟩)
              dsimp only at h
              cases e2 : evE F elt env1 st3 with
              | stk => rw [e2] at h; exact h.elim
              | exc q st3 => rw [e2] at h; exact h.elim
              | ok y st4 =>
                rw [e2] at h
                simp only [noexc_ok, Out.bind_ok] at h
                intro w H5 as5 s5 r5 hw
                have D5 : H5 D = some (.lst vs) := s5.fr _ _ D4 nD4
                have nD5 : D ∉ as5 := fun hm => by
                  obtain ⟨nw, rfl, hf⟩ := s5.pre
                  rcases List.mem_append.mp hm with z | z
                  · exact nD4 z
                  · have := hf D z
                    rw [D4] at this; cases this
                have hacc5 : RDs P H5 as5 acc vs := RDs.mv (r4.mv s5) _ _ hacc4
                obtain ⟨r6, mv6⟩ := r5.off (ws := vs ++ [w]) D5 nD5
                have s15 := (s13.trans s4).trans s5
                refine ⟨vs, D5, by rw [sizeLine_eq, ← hacc.length]; have : p.1.length ≤ SZ := hlen; show acc.length < 16777216; have : p.1.length ≤ 16777216 := this; omega, st4, as5, acc ++ [y], vs ++ [w], nD5, upd_same, RDs.mv mv6 _ _ (hacc5.app (RDs.one hw)), by simp; exact hal, r6, ⟨s15.pre, fun b o hb hn => ?_, fun b hb => ?_, fun b o u hb => by rw [upd_ne (fun e => by rw [e, hD] at hb; cases hb)]; exact s15.fz b o u hb⟩, h⟩
                · rw [upd_ne (fun e => by rw [e, hD] at hb; cases hb)]
                  exact s15.fr b o hb hn
                · by_cases hbd : b = D
                  · rw [hbd]; exact hD
                  · rw [upd_ne hbd] at hb
                    exact s15.so b hb
      · exact h.elim
    · have hi2 : i = p.1.length := by omega
      subst hi2
      rw [List.drop_length] at h
      simp only [lcF, lcL] at h
      split at h
      · rename_i hchk
        refine .inl ⟨(hJ H2 as2 st2 _ s2 r2 hchk).2 rfl, ?_⟩
        simp only [Out.bind_ok] at h
        obtain ⟨nw, rfl, hf⟩ := s2.pre
        refine h _ H2 (as1 ++ nw ++ [D]) ⟨⟨nw ++ [D], by rw [List.append_assoc], fun b hb => ?_⟩, s2.fr, s2.so, s2.fz⟩ ⟨by simp [r2.len.symm, Nat.add_assoc], List.nodup_append.mpr ⟨r2.nd, by simp, fun a ha b hb => by rw [List.mem_singleton.mp hb]; rintro rfl; exact hD2 ha⟩, fun n o ho => ?_⟩ ⟨D, rfl, by rw [← r2.len, List.getElem?_append_right (Nat.le_refl _), Nat.sub_self]; rfl⟩
        · rcases List.mem_append.mp hb with z | z
          · exact hf b z
          · rw [List.mem_singleton.mp z]; exact hD
        · by_cases hn : n < st2.length
          · rw [List.getElem?_append_left hn] at ho
            obtain ⟨a, h1, h2⟩ := r2.ob n o ho
            exact ⟨a, by rw [List.getElem?_append_left (List.getElem?_eq_some_iff.mp h1).1]; exact h1, RO.grow h2⟩
          · have hn2 : n = st2.length := by
              have := (List.getElem?_eq_some_iff.mp ho).1
              rw [List.length_append] at this
              simp at this
              omega
            subst hn2
            rw [List.getElem?_append_right (Nat.le_refl _), Nat.sub_self] at ho
            simp at ho
            subst ho
            exact ⟨D, by rw [← r2.len, List.getElem?_append_right (Nat.le_refl _), Nat.sub_self]; rfl, vs, hvs, RDs.grow _ _ hacc⟩
      · exact h.elim
  · exact h.elim
end
end Ev
end

section
set_option Elab.async false
set_option linter.all false
set_option maxRecDepth 100000
set_option autoImplicit false
set_option maxHeartbeats 1000000
/-! Ev16: comprehensions as rules; calls; raising -/
namespace Ev
open PySem L2 PySem.Spec PyProof.Rows
theorem PTs.imp {X : Cx} {e : List Expr} {t t' : TT} (h : PTs X e t) (i : ∀ σ H Q, t' σ H Q → t σ H Q) : PTs X e t' := ⟨fun pins s σ H Q I hw => h.run pins s σ H Q I (i σ H Q hw)⟩
section
variable {X : Cx} {P : Pm} {W : WX} {k : Nat} {F : Fns} {pos : Pos}
theorem sc_no : PTs X [] (tT P W (evC F .no)) := PTs.imp pts_nil fun σ H Q h => by
  obtain ⟨env, st, as, rs, re, h⟩ := h
  simp only [evC] at h
  exact h.here rs rfl
theorem sc_so {e : Expr} {c : E} (h : ST X P W F e c) : PTs X [e] (tT P W (evC F (.so c))) := PTs.imp (pts_one h) fun σ H Q h => by
  obtain ⟨env, st, as, rs, re, h⟩ := h
  simp only [evC] at h
  exact ⟨env, st, as, rs, re, h⟩
theorem s_lc {elt tg iter : Expr} {ifs : List Expr} {scope : Scope} {own : List (Str × Nat)} {ce : E} {g : G} {it : Ev.I} {cc : EO} (c : Cok X P W k) (hi : SI X P W F tg iter it) (ok : BlkOk X.N X.env.scope scope own) (hsub : ∀ i ∈ gsl g, i ∈ own.map (·.2))
    (hg : ∀ (s : Shared) (H : Hp) (C : Addr) (cl : List (Str × Addr)) (fp : List Addr), SG (X.blk s H scope (compEnvC scope cl C X.env) fp) P tg g) (ht : ∀ (s : Shared) (H : Hp) (C : Addr) (cl : List (Str × Addr)) (fp : List Addr), PTs (X.blk s H scope (compEnvC scope cl C X.env) fp) ifs (tT P W0 (evC F cc)))
    (he : ∀ (s : Shared) (H : Hp) (C : Addr) (cl : List (Str × Addr)) (fp : List Addr), SE (X.blk s H scope (compEnvC scope cl C X.env) fp) P W0 F elt ce) (hs : ∀ x, foldedSetIterable iter X.env x = pure x := by intro _; rfl) :
    SE X P W F (.ListComp elt [⟨tg, iter, ifs, 0⟩] scope pos) (.lc ce g it cc (own.map (·.2))) :=
  PE.imp (pe_lc c.calm c.nd hi ok hg ht he hs) fun σ H Q h => lc_rd hsub (fun _ _ _ _ z => z) (fun _ _ _ z => z) (fun _ _ _ z => z) (fun _ z => z) h

/-! ### what a def promises -/
structure FnG (P : Program) (w : World) (K : PySem.W.Frag) (mg : Str → Option Value) (base : Heap) (k : Nat) (f : Addr) (fd : FuncData) (ps : List Str) (sp : Sp) : Prop where
  len : ∀ vs H Q E, sp vs H Q E → vs.length = ps.length
  run : ∀ (A : Around) (outer : List PySem.Env) (s : Shared) (H : Hp) (args : Args) (us : List Value) (vs : List V) (Q : VK) (E : XK), A.guards = some [] → Room k A → Env0 P w K mg base A outer s H → BindsTo s fd args (ps.zip us) → Vals vs us → sp vs H Q E →
    codeAny (model P w) A (.call (.ref f) args) (CR (L2.CX P w) outer P w H s Q E) s
/-- the promise by the evaluator -/
def spF (P : Pm) (n : Nat) (f : List D → Sto → Out D) : Sp := fun vs H Q E => ∃ ds st as, RS P H as st ∧ RDs P H as ds vs ∧ ds.length = n ∧ OOk P H as (RDr P) (f ds st) Q fun C H' => E (.ref C) none H'
theorem runG {f : Addr} {fd : FuncData} {ps : List Str} {sp : Sp} {j : Nat} (c : Cok X P W k) (hj : j ≤ k) (G : FnG X.prog X.w X.K X.mg X.base j f fd ps sp) (hb : Binds X.K fd ps []) {pins : List (Addr × Obj)} {σ : L2.St} {H : Hp} {s : Shared} {Q : VK} {us : List Value} {vs : List V}
    (I : Inv X pins σ H s) (r : Vals vs us) (h : sp vs H Q (WE W σ)) : wpAny (model X.prog X.w) X.A (call (.ref f) us) (EP X pins σ Q) X.xe s := by
  have hl : us.length = ps.length := r.length.symm.trans (G.len _ _ _ _ h)
  have b := hb s us I.kIn (by rw [List.append_nil]; exact hl)
  rw [List.append_nil] at b
  refine wpAny_call (codeAny_mono (G.run X.A X.stack s H ⟨us, []⟩ us vs Q (WE W σ) c.gd (c.rm.mono hj) I.env0 b r h) fun z s' hq => ?_)
  match z, hq with
  | .error e, hq => exact passAt c.tk σ pins H s e s' I hq
  | .ok (.ret u), hq => exact I.after hq
  | .ok .next, hq => exact hq.elim
  | .ok .brk, hq => exact hq.elim
  | .ok .cont, hq => exact hq.elim
def EL.len : EL → Nat
  | .nil => 0
  | .cons _ es => es.len + 1
theorem evEL_len : ∀ {cs : EL} {env : En} {st st' : Sto} {ds : List D}, evEL F cs env st = .ok ds st' → ds.length = cs.len
  | .nil, _, _, _, _, h => by simp only [evEL] at h; cases h; rfl
  | .cons c cs, env, st, st', ds, h => by
    simp only [evEL] at h
    cases e1 : evE F c env st with
    | stk => rw [e1] at h; cases h
    | exc _ _ => rw [e1] at h; cases h
    | ok d st1 =>
      rw [e1, Out.bind_ok] at h
      cases e2 : evEL F cs env st1 with
      | stk => rw [e2] at h; cases h
      | exc _ _ => rw [e2] at h; cases h
      | ok ds2 st2 =>
        rw [e2, Out.bind_ok] at h
        cases h
        simp [EL.len, evEL_len e2]
theorem s_call {f : Addr} {fd : FuncData} {ps : List Str} {j i : Nat} {x : Str} {p : Pos} {e : Expr} {es : List Expr} {cs : EL} (c : Cok X P W k) (hj : j ≤ k) (G : FnG X.prog X.w X.K X.mg X.base j f fd ps (spF P ps.length (F i))) (hb : Binds X.K fd ps []) (hg : Gl X x) (hm : X.mg x = some (.ref f)) (hk : PySem.W.keepIn X.K (.ref f) = true)
    (ha : SA X P W F (e :: es) cs) (hln : cs.len = ps.length := by rfl) (hdb : (x == ("__debug__" : Str)) = false := by decide) (he : starEach (e :: es) X.env = (false, eval e X.env) :: starEach es X.env := by rfl) (hpl : (backTo pos (starEach es X.env)).any (·.1) = false := by rfl) :
    SE X P W F (.Call (.Name x p) (e :: es) [] pos) (.call i cs) := by
  refine ⟨fun pins s σ H Q I h => ?_⟩
  obtain ⟨env, st, as, rs, re, h⟩ := h
  simp only [evE] at h
  have hA : tA P W (evEL F cs) σ H fun vs H1 => spF P ps.length (F i) vs H1 Q (WE W σ) := by
    refine ⟨env, st, as, rs, re, ?_⟩
    cases e1 : evEL F cs env st with
    | stk => rw [e1] at h; exact h
    | exc q st1 => rw [e1] at h; exact h
    | ok ds st1 =>
      rw [e1] at h
      intro vs H1 as1 s1 r1 hd
      exact ⟨ds, st1, as1, r1, hd, (evEL_len e1).trans hln, OOk.step s1 h⟩
  refine wpAny_Call_Name_kw (ld_glob I hg hm ?_ hdb)
  refine PySem.W.callWith_K (h₀ := X.base) I.ok.mod.kin hk (thn (ha.run pos pins s σ H _ I hA) fun us s1 ⟨vs, H1, I1, r, q⟩ => ⟨I1.kIn, ?_⟩) he hpl
  exact runG c hj G hb I1 r q
theorem s_call0 {f : Addr} {fd : FuncData} {j i : Nat} {x : Str} {p : Pos} (c : Cok X P W k) (hj : j ≤ k) (G : FnG X.prog X.w X.K X.mg X.base j f fd [] (spF P 0 (F i))) (hb : Binds X.K fd [] []) (hg : Gl X x) (hm : X.mg x = some (.ref f)) (hk : PySem.W.keepIn X.K (.ref f) = true)
    (hdb : (x == ("__debug__" : Str)) = false := by decide) : SE X P W F (.Call (.Name x p) [] [] pos) (.call i .nil) := by
  refine ⟨fun pins s σ H Q I h => ?_⟩
  obtain ⟨env, st, as, rs, re, h⟩ := h
  simp only [evE, evEL, Out.bind_ok] at h
  refine wpAny_Call_Name_kw (ld_glob I hg hm ?_ hdb)
  exact PySem.W.callWith_K0 I.kIn hk (runG (us := []) (vs := []) c hj G hb I .nil ⟨[], st, as, rs, rfl, rfl, h⟩)
/-- X(), X an own exception class without own __init__ -/
theorem pmk0 {C : Addr} {bmB : List Value} {B newId initId : String} {x : Str} {p : Pos} (T : ExcBaseFacts B newId initId bmB) (q : PySem.W.excIn X.K C bmB newId = true) (gC : X.mg x = some (.ref C)) (kC : PySem.W.keepIn X.K (.ref C) = true) (r : Raises X (.ref C)) (hg : Gl X x) (hdb : (x == ("__debug__" : Str)) = false := by decide) :
    PMk X (.Call (.Name x p) [] [] pos) (fun _ H Q => Q (.ref C) none H) := by
  intro pins s σ H Q I h
  refine wpAny_Call_Name_kw (ld_glob I hg gC ?_ hdb)
  refine PySem.W.callWith_K0 I.kIn kC ?_
  obtain ⟨bm, N, nm, qn, bs, hdct, sn, sub, ab, col, dd, k0, k1, k2, k3, k5, mN, hC, hN, hni, T'⟩ := exc_obj I.kIn q
  exact wpAny_call_exc_subT T T' hC hN hni (fun h' e hm => mk_of I hm r h (I.hok.gone hm.new)) (Nat.zero_le _)
end
end Ev
end

section
set_option Elab.async false
set_option linter.all false
set_option maxRecDepth 100000
set_option autoImplicit false
set_option maxHeartbeats 1000000
/-! Ev17: statements -/
namespace Ev
open PySem L2 PySem.Spec PyProof.Rows
def SOk (P : Pm) (W : WX) (H : Hp) (as : List Addr) (o : SO) (D : Ends) : Prop := match o with
  | .nx env st => ∀ σ' H' as', Stp H as H' as' → RS P H' as' st → RE P H' as' env σ' → D.nx σ' H'
  | .rt d st => ∀ v H' as', Stp H as H' as' → RS P H' as' st → RD P H' as' d v → D.rt v H'
  | .bk env st => ∀ σ' H' as', Stp H as H' as' → RS P H' as' st → RE P H' as' env σ' → D.bk σ' H'
  | .ct env st => ∀ σ' H' as', Stp H as H' as' → RS P H' as' st → RE P H' as' env σ' → D.ct σ' H'
  | .exc c env st => ∀ σ' H' as' C, Stp H as H' as' → RS P H' as' st → RE P H' as' env σ' → P.ec c = some C → W (.ref C) none σ' H'
  | .stk => False
theorem SOk.step {P : Pm} {W : WX} {H H1 : Hp} {as as1 : List Addr} {o : SO} {D : Ends} (s : Stp H as H1 as1) (h : SOk P W H as o D) : SOk P W H1 as1 o D := by
  cases o with
  | nx env st => exact fun σ' H' as' s' => h σ' H' as' (s.trans s')
  | rt d st => exact fun σ' H' as' s' => h σ' H' as' (s.trans s')
  | bk env st => exact fun σ' H' as' s' => h σ' H' as' (s.trans s')
  | ct env st => exact fun σ' H' as' s' => h σ' H' as' (s.trans s')
  | exc c env st => exact fun σ' H' as' C s' => h σ' H' as' C (s.trans s')
  | stk => exact h
def tS (P : Pm) (W : WX) (f : En → Sto → SO) : TS := fun D σ H => ∃ env st as, RS P H as st ∧ RE P H as env σ ∧ SOk P W H as (f env st) D
abbrev SS (X : Cx) (P : Pm) (W : WX) (F : Fns) (s : Stmt) (c : S) : Prop := PS X s (tS P W (evS F c))
abbrev SSs (X : Cx) (P : Pm) (W : WX) (F : Fns) (s : List Stmt) (c : SL) : Prop := PSs X s (tS P W (evSL F c))
theorem SOk.sb {α β : Type} {P : Pm} {W : WX} {H : Hp} {as : List Addr} {rel : Hp → List Addr → α → β → Prop} {env : En} {σ : L2.St} {o : Out α} {f : α → Sto → SO} {D : Ends} (re : ∀ H' as', Stp H as H' as' → RE P H' as' env σ) (h : SOk P W H as (o.sb env f) D) :
    OOk P H as rel o (fun v H' => ∃ d st' as', Stp H as H' as' ∧ RS P H' as' st' ∧ rel H' as' d v ∧ SOk P W H' as' (f d st') D) fun C H' => W (.ref C) none σ H' := by
  cases o with
  | ok d st' => exact fun v H' as' s r hd => ⟨d, st', as', s, r, hd, SOk.step s h⟩
  | exc c st' => exact fun H' as' C s r e => h σ H' as' C s r (re H' as' s) e
  | stk => exact h
section
variable {X : Cx} {P : Pm} {W : WX} {k : Nat} {F : Fns} {pos : Pos}
theorem ss_nil : SSs X P W F [] .nil := PSs.imp pss_nil fun D σ H ⟨env, st, as, r, re, h⟩ => by
  simp only [evSL] at h
  exact h σ H as Stp.refl r re
theorem ss_cons {s : Stmt} {ss : List Stmt} {c : S} {cs : SL} (h1 : SS X P W F s c) (h2 : SSs X P W F ss cs) : SSs X P W F (s :: ss) (.cons c cs) := PSs.imp (pss_cons h1 h2) fun D σ H ⟨env, st, as, r, re, h⟩ => by
  refine ⟨env, st, as, r, re, ?_⟩
  simp only [evSL] at h
  cases e : evS F c env st with
  | nx env1 st1 =>
    rw [e] at h
    exact fun σ' H' as' s r' re' => ⟨env1, st1, as', r', re', SOk.step s h⟩
  | rt d st1 => rw [e] at h; exact h
  | bk env1 st1 => rw [e] at h; exact h
  | ct env1 st1 => rw [e] at h; exact h
  | exc c env1 st1 => rw [e] at h; exact h
  | stk => rw [e] at h; exact h
theorem ss_pass : SS X P W F (.Pass pos) .pass := PS.imp ps_pass fun D σ H ⟨env, st, as, r, re, h⟩ => by
  simp only [evS] at h
  exact h σ H as Stp.refl r re
theorem ss_break : SS X P W F (.Break pos) .brk := PS.imp ps_break fun D σ H ⟨env, st, as, r, re, h⟩ => by
  simp only [evS] at h
  exact h σ H as Stp.refl r re
theorem ss_continue : SS X P W F (.Continue pos) .cont := PS.imp ps_continue fun D σ H ⟨env, st, as, r, re, h⟩ => by
  simp only [evS] at h
  exact h σ H as Stp.refl r re
theorem ss_retN : SS X P W F (.Return none pos) .retN := PS.imp ps_retN fun D σ H ⟨env, st, as, r, re, h⟩ => by
  simp only [evS] at h
  exact h .non H as Stp.refl r rfl
theorem ss_ret {e : Expr} {c : E} (he : SE X P W F e c) : SS X P W F (.Return (some e) pos) (.ret c) := PS.imp (ps_ret he) fun D σ H ⟨env, st, as, r, re, h⟩ => by
  simp only [evS] at h
  refine ⟨env, st, as, r, re, (SOk.sb (fun H' as' s => re.mv (r.mv s)) h).imp (fun v H1 q => ?_) fun _ _ z => z⟩
  obtain ⟨d, st1, as1, s1, r1, hd, h⟩ := q
  exact h v H1 as1 Stp.refl r1 hd
theorem ss_ex {e : Expr} {c : E} (he : SE X P W F e c) (hs : swapsWith e none pos.line X.env = pure false := by rfl) : SS X P W F (.Expr e pos) (.ex c) := PS.imp (ps_expr he hs) fun D σ H ⟨env, st, as, r, re, h⟩ => by
  simp only [evS] at h
  refine ⟨env, st, as, r, re, (SOk.sb (fun H' as' s => re.mv (r.mv s)) h).imp (fun v H1 q => ?_) fun _ _ z => z⟩
  obtain ⟨d, st1, as1, s1, r1, hd, h⟩ := q
  exact h σ H1 as1 Stp.refl r1 (re.mv (r.mv s1))
/-- behind the value, the target -/
theorem set_rd {g : G} {v : V} {d : D} {env : En} {st : Sto} {as : List Addr} {σ : L2.St} {H : Hp} {D : Ends} (r : RS P H as st) (re : RE P H as env σ) (hd : RD P H as d v) (h : SOk P W H as (match bindG g d env with | some env' => .nx env' st | none => .stk) D) : tGt P g v σ H D.nx := by
  cases e : bindG g d env with
  | none => rw [e] at h; exact h.elim
  | some env' =>
    rw [e] at h
    exact ⟨d, env, st, as, env', r, re, hd, e, fun σ' re' _ => h σ' H as Stp.refl r re'⟩
theorem ss_set {tg e : Expr} {c : E} {g : G} (he : SE X P W F e c) (hg : SG X P tg g) (hs : swapsWithSole [tg] e pos.line X.env = pure false := by rfl) (hw : swappedStores [tg] e X.env = pure none := by rfl) (h1 : (assignEach [tg] X.env).map (·.2) = [assign tg X.env] := by rfl) : SS X P W F (.Assign [tg] e pos) (.set g c) := PS.imp (ps_asg he hg hs hw h1) fun D σ H ⟨env, st, as, r, re, h⟩ => by
  simp only [evS] at h
  refine ⟨env, st, as, r, re, (SOk.sb (fun H' as' s => re.mv (r.mv s)) h).imp (fun v H1 q => ?_) fun _ _ z => z⟩
  obtain ⟨d, st1, as1, s1, r1, hd, h⟩ := q
  exact set_rd r1 (re.mv (r.mv s1)) hd h
theorem ss_setLc {i : Nat} {y : Str} {py : Pos} {elt tg iter : Expr} {ifs : List Expr} {scope : Scope} {own : List (Str × Nat)} {spos : Pos} {ce : E} {g : G} {it : Ev.I} {cc : EO} (c : Cok X P W k) (hy : X.N[i]? = some y) (hyl : X.env.scope.names.lookup y = some .local)
    (hsw : swapsWith (.ListComp elt [⟨tg, iter, ifs, 0⟩] scope pos) (some (.Name y py)) spos.line X.env = pure true) (hi : SI X P W F tg iter it) (ok : BlkOk X.N X.env.scope scope own) (hsub : ∀ i ∈ gsl g, i ∈ own.map (·.2))
    (hg : ∀ (s : Shared) (H : Hp) (C : Addr) (cl : List (Str × Addr)) (fp : List Addr), SG (X.blk s H scope (compEnvC scope cl C X.env) fp) P tg g) (ht : ∀ (s : Shared) (H : Hp) (C : Addr) (cl : List (Str × Addr)) (fp : List Addr), PTs (X.blk s H scope (compEnvC scope cl C X.env) fp) ifs (tT P W0 (evC F cc)))
    (he : ∀ (s : Shared) (H : Hp) (C : Addr) (cl : List (Str × Addr)) (fp : List Addr), SE (X.blk s H scope (compEnvC scope cl C X.env) fp) P W0 F elt ce) (hs : ∀ x, foldedSetIterable iter X.env x = pure x := by intro _; rfl) :
    SS X P W F (.Assign [.Name y py] (.ListComp elt [⟨tg, iter, ifs, 0⟩] scope pos) spos) (.set (.n i) (.lc ce g it cc (own.map (·.2)))) :=
  PS.imp (ps_setLc c.calm c.nd hy hyl hsw hi ok hg ht he hs) fun D σ H ⟨env, st, as, r, re, h⟩ => by
    refine lc_rd hsub (fun _ _ _ _ z => z) (fun _ _ _ z => z) (fun _ _ _ z => z) (fun _ z => z) ⟨env, st, as, r, re, ?_⟩
    simp only [evS] at h
    refine (SOk.sb (fun H' as' s => re.mv (r.mv s)) h).imp (fun v H1 q => ?_) fun _ _ z => z
    obtain ⟨d, st1, as1, s1, r1, hd, h⟩ := q
    simp only [bindG] at h
    exact h _ H1 as1 Stp.refl r1 ((re.mv (r.mv s1)).set hd)
theorem ss_par2 {i j : Nat} {x y : Str} {a b : Expr} {ca cb : E} {px py pt pt2 : Pos} {kt k2 : Nat} (c : Cok X P W k) (hi : X.N[i]? = some x := by rfl) (hj : X.N[j]? = some y := by rfl) (hij : i ≠ j := by decide) (hx : X.env.scope.names.lookup x = some .local := by rfl) (hy : X.env.scope.names.lookup y = some .local := by rfl)
    (ha : SA X P W F [a, b] (.cons ca (.cons cb .nil))) (hw : swappedStores [.Tuple [.Name x px, .Name y py] kt pt] (.Tuple [a, b] k2 pt2) X.env = pure (some [x, y]) := by rfl)
    (hs : swapsWithSole [.Tuple [.Name x px, .Name y py] kt pt] (.Tuple [a, b] k2 pt2) pos.line X.env = pure false := by rfl) : SS X P W F (.Assign [.Tuple [.Name x px, .Name y py] kt pt] (.Tuple [a, b] k2 pt2) pos) (.par2 i j ca cb) := PS.imp (ps_par c.calm c.nd hi hj hij hx hy ha hw hs) fun D σ H ⟨env, st, as, r, re, h⟩ => by
  simp only [evS] at h
  refine ⟨env, st, as, r, re, ?_⟩
  simp only [evEL]
  cases e1 : evE F ca env st with
  | stk => rw [e1] at h; exact h
  | exc q st1 => rw [e1] at h; exact fun H' as' C s r' e => h σ H' as' C s r' (re.mv (r.mv s)) e
  | ok d st1 =>
    rw [e1] at h
    simp only [Out.sb_ok, Out.bind_ok] at h ⊢
    cases e2 : evE F cb env st1 with
    | stk => rw [e2] at h; exact h
    | exc q st1 => rw [e2] at h; exact fun H' as' C s r' e => h σ H' as' C s r' (re.mv (r.mv s)) e
    | ok e st2 =>
      rw [e2] at h
      simp only [Out.sb_ok, Out.bind_ok] at h ⊢
      intro vs H' as' s r' hd
      obtain ⟨v, ws, rfl, h1, w, us, rfl, h2, h3⟩ := hd
      cases h3
      exact ⟨v, w, rfl, h _ H' as' s r' (((re.mv (r.mv s)).set h1).set h2)⟩
theorem ss_par3 {i j l : Nat} {x y z : Str} {a b d : Expr} {ca cb cd : E} {px py pz pt pt2 : Pos} {kt k2 : Nat} (c : Cok X P W k) (hi : X.N[i]? = some x := by rfl) (hj : X.N[j]? = some y := by rfl) (hl : X.N[l]? = some z := by rfl) (hij : i ≠ j := by decide) (hil : i ≠ l := by decide) (hjl : j ≠ l := by decide)
    (hx : X.env.scope.names.lookup x = some .local := by rfl) (hy : X.env.scope.names.lookup y = some .local := by rfl) (hz : X.env.scope.names.lookup z = some .local := by rfl)
    (ha : SA X P W F [a, b, d] (.cons ca (.cons cb (.cons cd .nil)))) (hw : swappedStores [.Tuple [.Name x px, .Name y py, .Name z pz] kt pt] (.Tuple [a, b, d] k2 pt2) X.env = pure (some [x, y, z]) := by rfl)
    (hs : swapsWithSole [.Tuple [.Name x px, .Name y py, .Name z pz] kt pt] (.Tuple [a, b, d] k2 pt2) pos.line X.env = pure false := by rfl) : SS X P W F (.Assign [.Tuple [.Name x px, .Name y py, .Name z pz] kt pt] (.Tuple [a, b, d] k2 pt2) pos) (.par3 i j l ca cb cd) := PS.imp (ps_par3 c.calm c.nd hi hj hl hij hil hjl hx hy hz ha hw hs) fun D σ H ⟨env, st, as, r, re, h⟩ => by
  simp only [evS] at h
  refine ⟨env, st, as, r, re, ?_⟩
  simp only [evEL]
  cases e1 : evE F ca env st with
  | stk => rw [e1] at h; exact h
  | exc q st1 => rw [e1] at h; exact fun H' as' C s r' e => h σ H' as' C s r' (re.mv (r.mv s)) e
  | ok d st1 =>
    rw [e1] at h
    simp only [Out.sb_ok, Out.bind_ok] at h ⊢
    cases e2 : evE F cb env st1 with
    | stk => rw [e2] at h; exact h
    | exc q st1 => rw [e2] at h; exact fun H' as' C s r' e => h σ H' as' C s r' (re.mv (r.mv s)) e
    | ok e st2 =>
      rw [e2] at h
      simp only [Out.sb_ok, Out.bind_ok] at h ⊢
      cases e3 : evE F cd env st2 with
      | stk => rw [e3] at h; exact h
      | exc q st1 => rw [e3] at h; exact fun H' as' C s r' e => h σ H' as' C s r' (re.mv (r.mv s)) e
      | ok f st3 =>
        rw [e3] at h
        simp only [Out.sb_ok, Out.bind_ok] at h ⊢
        intro vs H' as' s r' hd
        obtain ⟨v, ws, rfl, h1, w, us, rfl, h2, u, us, rfl, h3, h4⟩ := hd
        cases h4
        exact ⟨v, w, u, rfl, h _ H' as' s r' ((((re.mv (r.mv s)).set h1).set h2).set h3)⟩
theorem ss_ife {c : Expr} {a b : List Stmt} {cc : E} {ca cb : SL} (hc : ST X P W F c cc) (ha : SSs X P W F a ca) (hb : SSs X P W F b cb) : SS X P W F (.If c a b pos) (.ife cc ca cb) := PS.imp (ps_if hc ha hb) fun D σ H ⟨env, st, as, r, re, h⟩ => by
  simp only [evS] at h
  refine ⟨env, st, as, r, re, (SOk.sb (fun H' as' s => re.mv (r.mv s)) h).imp (fun v H1 q => ?_) fun _ _ z => z⟩
  obtain ⟨d, st1, as1, s1, r1, rfl, h⟩ := q
  cases v with
  | true => exact iteT ⟨env, st1, as1, r1, re.mv (r.mv s1), h⟩
  | false => exact iteF ⟨env, st1, as1, r1, re.mv (r.mv s1), h⟩
end
end Ev
end

section
set_option Elab.async false
set_option linter.all false
set_option maxRecDepth 100000
set_option autoImplicit false
set_option maxHeartbeats 1000000
/-! Ev18: stores into things, op=, loops, raise and try, displays -/
namespace Ev
open PySem L2 PySem.Spec PyProof.Rows
theorem PSet.or {X : Cx} {t t' : TSet} (h : PSet X t) (h' : PSet X t') : PSet X (fun o i v H Q => t o i v H Q ∨ t' o i v H Q) := fun pins s σ H o i v ov iv u Q I ro ri rv q =>
  q.elim (h pins s σ H o i v ov iv u Q I ro ri rv) (h' pins s σ H o i v ov iv u Q I ro ri rv)
section
variable {X : Cx} {P : Pm} {W : WX} {k : Nat} {F : Fns} {pos : Pos}
theorem any_rel {H : Hp} {as : List Addr} (k : Key) : ∀ {kvs : List (Key × D)} {kus : List (Key × V)}, kus.map (·.1) = kvs.map (·.1) → (kus.any fun p => decide (p.1 = k)) = (kvs.any fun p => decide (p.1 = k))
  | [], [], _ => rfl
  | [], _ :: _, h => by simp at h
  | _ :: _, [], h => by simp at h
  | (j, d) :: r, (i, v) :: r', h => by
    simp only [List.map_cons, List.cons.injEq] at h
    rw [List.any_cons, List.any_cons, any_rel (H := H) (as := as) k h.2, h.1]
theorem map_rel {H : Hp} {as : List Addr} {k : Key} {d : D} {v : V} (hd : RD P H as d v) : ∀ {kvs : List (Key × D)} {kus : List (Key × V)}, RKs P H as kvs kus → RKs P H as (kvs.map fun p => if p.1 = k then (p.1, d) else p) (kus.map fun p => if p.1 = k then (p.1, v) else p)
  | [], [], h => h
  | [], _ :: _, ⟨h, _⟩ => by simp at h
  | _ :: _, [], ⟨h, _⟩ => by simp at h
  | (j, e) :: r, (i, u) :: r', ⟨h1, h2⟩ => by
    simp only [List.map_cons, List.cons.injEq] at h1
    obtain ⟨w, ws, e', q1, q2⟩ := h2
    simp only [List.map_cons, List.cons.injEq] at e'
    obtain ⟨rfl, rfl⟩ := e'
    obtain ⟨e1, e2⟩ := h1
    subst e1
    have q := map_rel (k := k) hd (⟨e2, q2⟩ : RKs P H as r r')
    by_cases hk : i = k
    · refine ⟨by simp only [List.map_cons, if_pos hk, q.1], v, _, by simp only [List.map_cons, if_pos hk], by simp only [if_pos hk]; exact hd, q.2⟩
    · refine ⟨by simp only [List.map_cons, if_neg hk, q.1], u, _, by simp only [List.map_cons, if_neg hk], by simp only [if_neg hk]; exact q1, q.2⟩
theorem put_rel {H : Hp} {as : List Addr} {k : Key} {d : D} {v : V} {kvs : List (Key × D)} {kus : List (Key × V)} (hd : RD P H as d v) (h : RKs P H as kvs kus) : RKs P H as (putD kvs k d) (L2.putK kus k v) := by
  unfold putD L2.putK
  rw [any_rel (H := H) (as := as) k h.1]
  split
  · exact map_rel hd h
  · refine ⟨by rw [List.map_append, List.map_append, h.1]; rfl, ?_⟩
    rw [List.map_append, List.map_append]
    exact h.2.app (RDs.one hd)
theorem RKs.length {H : Hp} {as : List Addr} {kvs : List (Key × D)} {kus : List (Key × V)} (h : RKs P H as kvs kus) : kvs.length = kus.length := by
  have := congrArg List.length h.1
  simpa using this.symm
theorem setIx_rd {H : Hp} {as : List Addr} {st st' : Sto} {d i e : D} {o ix v : V} {Q : Hp → Prop} (r : RS P H as st) (ho : RD P H as d o) (hi : RD P H as i ix) (hv : RD P H as e v) (h : evSetIx d i e st = some st') (q : ∀ H', Stp H as H' as → RS P H' as st' → Q H') :
    rSetL o ix v H Q ∨ rSetD o ix v H Q := by
  cases d with
  | ref n =>
    simp only [evSetIx] at h
    split at h
    · rename_i xs e1
      split at h
      · split at h
        · rename_i j hj
          cases h
          cases hi
          obtain ⟨a, vs, rfl, ha, h1, h2⟩ := lstAt r ho e1
          obtain ⟨s, r'⟩ := r.write (o := .lst (vs.set j v)) (m := .lst (xs.set j e)) ha (fun o u z => by rw [h1] at z; cases z) fun mv => ⟨_, upd_same, RDs.mv mv _ _ (h2.set j hv)⟩
          exact .inl ⟨a, vs, _, j, rfl, rfl, h1, by rw [← h2.length]; exact hj, q _ s r'⟩
        · cases h
      · cases h
    · rename_i kvs e1
      split at h
      · rename_i k hk
        split at h
        · rename_i hl
          cases h
          obtain ⟨a, vs, rfl, ha, h1, h2⟩ := dctAt r ho e1
          obtain ⟨s, r'⟩ := r.write (o := .dK (L2.putK vs k v)) (m := .dct (putD kvs k e)) ha (fun o u z => by rw [h1] at z; cases z) fun mv => ⟨_, upd_same, (put_rel hv h2).mv mv⟩
          refine .inr ⟨a, _, rfl, ?_, q _ s r'⟩
          rw [kV_keyD hk hi]
          exact DPut.k h1 (by rw [sizeLine_eq, ← h2.length]; exact hl)
        · cases h
      · cases h
    · cases h
  | _ => cases h
theorem ss_setIx {o i e : Expr} {co ci ce : E} {p : Pos} (c : Cok X P W k) (ho : SE X P W F o co) (hi : SE X P W F i ci) (he : SE X P W F e ce)
    (ha : ∀ v, assign (.Subscript o i p) X.env v = (do
      let ov ← holding [v] (eval o X.env)
      let iv ← holding [v, ov] (eval i X.env)
      standAt p
      holding [v, ov, iv] (setItem ov iv v)
      release [v, ov, iv] []) := by intro _; rfl)
    (hs : swapsWithSole [.Subscript o i p] e pos.line X.env = pure false := by rfl) (hw : swappedStores [.Subscript o i p] e X.env = pure none := by rfl) (h1 : (assignEach [.Subscript o i p] X.env).map (·.2) = [assign (.Subscript o i p) X.env] := by rfl) :
    SS X P W F (.Assign [.Subscript o i p] e pos) (.setIx co ci ce) :=
  PS.imp (ps_asg he (pg_sub ho hi (PSet.or set_list (set_dict (by have := c.un; omega))) ha) hs hw h1) fun D σ H ⟨env, st, as, r, re, h⟩ => by
    simp only [evS] at h
    refine ⟨env, st, as, r, re, (SOk.sb (fun H' as' s => re.mv (r.mv s)) h).imp (fun v H1 q => ?_) fun _ _ z => z⟩
    obtain ⟨x, st1, as1, s1, r1, hx, h⟩ := q
    have re1 := re.mv (r.mv s1)
    refine ⟨env, st1, as1, r1, re1, (SOk.sb (fun H' as' s => re1.mv (r1.mv s)) h).imp (fun w H2 q => ?_) fun _ _ z => z⟩
    obtain ⟨d, st2, as2, s2, r2, hd, h⟩ := q
    have re2 := re1.mv (r1.mv s2)
    refine ⟨env, st2, as2, r2, re2, (SOk.sb (fun H' as' s => re2.mv (r2.mv s)) h).imp (fun w3 H3 q => ?_) fun _ _ z => z⟩
    obtain ⟨i', st3, as3, s3, r3, hi', h⟩ := q
    cases e1 : evSetIx d i' x st3 with
    | none => rw [e1] at h; exact h.elim
    | some st4 =>
      rw [e1] at h
      exact setIx_rd r3 (RD.mv (r2.mv s3) _ _ hd) hi' (RD.mv (r2.mv s3) _ _ (RD.mv (r1.mv s2) _ _ hx)) e1 fun H' s r' => h σ H' _ s r' ((re2.mv (r2.mv s3)).mv (r3.mv s))

/-! ### op= -/
theorem OpR.or' {f : Value → Value → Sem Value} {r r' : R2} (h : OpR X f r) (h' : OpR X f r') : OpR X f (fun x y H Q => r x y H Q ∨ r' x y H Q) := fun pins s σ H x y v u Q I rx ry q =>
  q.elim (h pins s σ H x y v u Q I rx ry) (h' pins s σ H x y v u Q I rx ry)
theorem pip_add : OpS X P (inplaceOp .Add) (evAug .add) := opsI0 iop_add fun d e st P H as Q h => by
  cases d <;> cases e <;> first | exact h.elim | exact ⟨_, _, _, rfl, rfl, rfl, rfl⟩
theorem pip_sub : OpS X P (inplaceOp .Sub) (evAug .sub) := opsI0 iop_sub fun d e st P H as Q h => by
  cases d <;> cases e <;> first | exact h.elim | exact ⟨_, _, _, rfl, rfl, rfl, rfl⟩
theorem pip_and : OpS X P (inplaceOp .BitAnd) (evAug .band) := opsI0 iop_and fun d e st P H as Q h => by
  cases d <;> cases e <;> first | exact h.elim | exact ⟨_, _, _, rfl, rfl, rfl, rfl⟩
theorem pip_or : OpS X P (inplaceOp .BitOr) (evAug .bor) := opsI0 iop_or fun d e st P H as Q h => by
  cases d <;> cases e <;> first | exact h.elim | exact ⟨_, _, _, rfl, rfl, rfl, rfl⟩
theorem pip_xor : OpS X P (inplaceOp .BitXor) (evAug .bxor) := opsI0 iop_xor fun d e st P H as Q h => by
  cases d <;> cases e <;> first | exact h.elim | exact ⟨_, _, _, rfl, rfl, rfl, rfl⟩

theorem ss_aug (i : Nat) {x : Str} {e : Expr} {ce : E} {op : Operator} {o : Bop} {p : Pos} (c : Cok X P W k) (hop : OpS X P (inplaceOp op) (evAug o)) (he : SE X P W F e ce) (hi : X.N[i]? = some x := by rfl) (hx : Loc X.env.scope x := by first | exact Or.inl rfl | exact Or.inr rfl)
    (hf : X.fn x = true ∨ X.env.scope.names.lookup x = some .local := by first | exact .inl rfl | exact .inr rfl | assumption) : SS X P W F (.AugAssign (.Name x p) op e pos) (.aug i o ce) :=
  PS.imp (ps_aug c.nd hi hx he hop hf) fun D σ H ⟨env, st, as, r, re, h⟩ => by
    simp only [evS] at h
    split at h
    · rename_i d e1
      obtain ⟨v, h1, h2⟩ := re.at_ i d e1
      refine ⟨v, h1, env, st, as, r, re, (SOk.sb (fun H' as' s => re.mv (r.mv s)) h).imp (fun y H1 q => ?_) fun _ _ z => z⟩
      obtain ⟨y', st1, as1, s1, r1, hy, h⟩ := q
      have re1 := re.mv (r.mv s1)
      refine ⟨d, y', st1, as1, r1, RD.mv (r.mv s1) _ _ h2, hy, ?_⟩
      cases e2 : evAug o d y' st1 with
      | stk => rw [e2] at h; exact h.elim
      | exc q st2 => rw [e2] at h; exact h.elim
      | ok z st2 =>
        rw [e2] at h
        exact fun w H' as' s' r' hw => h _ H' as' s' r' ((re1.mv (r1.mv s')).set hw)
    · exact h.elim
theorem get_list : PGet X (rIxL X.K) := by
  intro pins s σ H x y v u Q I rx ry h
  obtain ⟨p, xs, i, z, rfl, rfl, hq, he, q⟩ := h
  cases rx
  obtain ⟨t, rfl⟩ := ry
  obtain ⟨its, r, pl, hz⟩ := I.list hq
  obtain ⟨j, h1, h2, h3, h4, h5⟩ := atI_get he
  obtain ⟨w, ew, rw'⟩ := r.get h2
  have hl := r.length
  have hn := line63
  have fin : EP X pins σ Q w s := ⟨z, H, I, rw', q⟩
  by_cases h0 : 0 ≤ i
  · have hj : i.toNat = j := by
      rw [seqIndex_of h0 h5] at h1
      exact Option.some.inj h1
    exact wpAny_getItem_list (x := w) pl.isList h0 (by omega) (by rw [hj]; simpa using ew) fin
  · have hj : (i + (its.toArray.size : Int)).toNat = j := by
      rw [seqIndex_neg (by omega) h4] at h1
      rw [List.size_toArray, ← hl]
      exact Option.some.inj h1
    exact wpAny_getItem_list_neg (x := w) pl.isList (by omega) (by rw [List.size_toArray] <;> omega) (by omega) (by rw [hj]; simpa using ew) fin
theorem get_tup : PGet X (rIxT X.K) := by
  intro pins s σ H x y v u Q I rx ry h
  obtain ⟨p, xs, i, z, rfl, rfl, hq, he, q⟩ := h
  cases rx
  obtain ⟨t, rfl⟩ := ry
  obtain ⟨its, r, pl, hz⟩ := I.tuple hq
  obtain ⟨j, h1, h2, h3, h4, h5⟩ := atI_get he
  obtain ⟨w, ew, rw'⟩ := r.get h2
  have hl := r.length
  have hn := line63
  have fin : EP X pins σ Q w s := ⟨z, H, I, rw', q⟩
  exact getItem_tuple (x := w) (j := j) pl (by omega) (by omega) (by rw [List.size_toArray, ← hl]; exact h1) (by simpa using ew) fin
theorem get_dict (hu : X.A.units + 1 < cLine) : PGet X (fun x y H Q => ∃ a v, x = V.ref a ∧ DGet H a y (some v) ∧ Q v H) := by
  intro pins s σ H x y v u Q I rx ry ⟨a, z, ex, g, q⟩
  subst ex
  cases rx
  exact d_getItem hu I g ry fun w' s3 I3 rw' => ⟨z, H, I3, rw', q⟩
theorem gets (hK : P.K = X.K) (hu : X.A.units + 1 < cLine) : PGet X (rIxS P) := by
  intro pins s σ H x y v u Q I rx ry ⟨d, e, st, as, r, hd, he, h⟩
  unfold evIx at h
  split at h
  · cases he
    split at h
    · rename_i xs hx
      split at h
      · rename_i z hz
        obtain ⟨a, vs, rfl, q1, q2⟩ := itemsAt hK r hd hx
        obtain ⟨w, hw, rw'⟩ := atI_rel q1 hz
        rcases q2 with ⟨q2, _⟩ | ⟨q2, _⟩
        · exact get_list pins s σ H _ _ v u Q I rx ry ⟨a, vs, _, w, rfl, rfl, q2, hw, h.here r rw'⟩
        · exact get_tup pins s σ H _ _ v u Q I rx ry ⟨a, vs, _, w, rfl, rfl, q2, hw, h.here r rw'⟩
      · exact h.elim
    · split at h
      · rename_i kvs hk
        obtain ⟨a, kus, rfl, q1, q2⟩ := dictAt_rd r hd hk
        split at h
        · rename_i z hz
          have q := look_rel q2 (Sum.inl ‹Int›)
          rw [hz] at q
          obtain ⟨w, hw, rw'⟩ := q
          exact get_dict hu pins s σ H _ _ v u Q I rx ry ⟨a, w, rfl, by rw [← hw]; exact DGet.rd (k := Sum.inl _) q1, h.here r rw'⟩
        · exact h.elim
      · exact h.elim
  · cases he
    split at h
    · rename_i kvs hk
      obtain ⟨a, kus, rfl, q1, q2⟩ := dictAt_rd r hd hk
      split at h
      · rename_i z hz
        have q := look_rel q2 (Sum.inr ‹Str›)
        rw [hz] at q
        obtain ⟨w, hw, rw'⟩ := q
        exact get_dict hu pins s σ H _ _ v u Q I rx ry ⟨a, w, rfl, by rw [← hw]; exact DGet.rd (k := Sum.inr _) q1, h.here r rw'⟩
      · exact h.elim
    · exact h.elim
  · exact h.elim
theorem ss_augIx {a i e : Expr} {ca ci ce : E} {op : Operator} {o : Bop} {p : Pos} (c : Cok X P W k) (hop : OpS X P (inplaceOp op) (evAug o)) (ha : SE X P W F a ca) (hi : SE X P W F i ci) (he : SE X P W F e ce)
    (hs : ∀ ov iv new, augStore i ov iv new = (do holding [new, ov, iv] (setItem ov iv new); release [new, ov, iv] []; pure .next) := by intros; rfl) : SS X P W F (.AugAssign (.Subscript a i p) op e pos) (.augIx ca ci o ce) :=
  PS.imp (ps_augS ha hi (gets c.hK (by have := c.un; omega)) he hop (PSet.or set_list (set_dict (by have := c.un; omega))) hs) fun D σ H ⟨env, st, as, r, re, h⟩ => by
    simp only [evS] at h
    refine ⟨env, st, as, r, re, (SOk.sb (fun H' as' s => re.mv (r.mv s)) h).imp (fun v H1 q => ?_) fun _ _ z => z⟩
    obtain ⟨d, st1, as1, s1, r1, hd, h⟩ := q
    have re1 := re.mv (r.mv s1)
    refine ⟨env, st1, as1, r1, re1, (SOk.sb (fun H' as' s => re1.mv (r1.mv s)) h).imp (fun w H2 q => ?_) fun _ _ z => z⟩
    obtain ⟨j, st2, as2, s2, r2, hj, h⟩ := q
    have re2 := re1.mv (r1.mv s2)
    have hd := RD.mv (r1.mv s2) _ _ hd
    refine ⟨d, j, st2, as2, r2, hd, hj, ?_⟩
    cases e2 : evIx d j st2 with
    | stk => rw [e2] at h; exact h.elim
    | exc q st2 => rw [e2] at h; exact h.elim
    | ok x st3 =>
      rw [e2] at h
      simp only [noexc_ok, Out.sb_ok] at h
      intro xv H3 as3 s3 r3 hx
      have h := SOk.step s3 h
      have re3 := re2.mv (r2.mv s3)
      have hd := RD.mv (r2.mv s3) _ _ hd
      have hj := RD.mv (r2.mv s3) _ _ hj
      refine ⟨env, st3, as3, r3, re3, (SOk.sb (fun H' as' s => re3.mv (r3.mv s)) h).imp (fun w H4 q => ?_) fun _ _ z => z⟩
      obtain ⟨y, st4, as4, s4, r4, hy, h⟩ := q
      have re4 := re3.mv (r3.mv s4)
      have hd := RD.mv (r3.mv s4) _ _ hd
      have hj := RD.mv (r3.mv s4) _ _ hj
      refine ⟨x, y, st4, as4, r4, RD.mv (r3.mv s4) _ _ hx, hy, ?_⟩
      cases e3 : evAug o x y st4 with
      | stk => rw [e3] at h; exact h.elim
      | exc q st2 => rw [e3] at h; exact h.elim
      | ok z st5 =>
        rw [e3] at h
        simp only [noexc_ok, Out.sb_ok] at h
        intro zv H5 as5 s5 r5 hz
        cases e4 : evSetIx d j z st5 with
        | none => rw [e4] at h; exact h.elim
        | some st6 =>
          rw [e4] at h
          exact setIx_rd r5 (RD.mv (r4.mv s5) _ _ hd) (RD.mv (r4.mv s5) _ _ hj) hz e4 fun H' s r' => h σ H' _ (s5.trans s) r' ((re4.mv (r4.mv s5)).mv (r5.mv s))

/-! ### loops -/
theorem ss_forI {iter tg : Expr} {body : List Stmt} {it : Ev.I} {g : G} {cb : SL} (c : Cok X P W k) (hi : SI X P W F tg iter it) (hg : SG X P tg g) (hb : SSs X P W F body cb) (hs : ∀ x, foldedSetIterable iter X.env x = pure x := by intro _; rfl) :
    SS X P W F (.For tg iter body [] pos) (.forI g it cb) := PS.imp (ps_for c.po c.calm hi hg hb hs) fun D σ H ⟨env, st, as, r, re, h⟩ => by
  simp only [evS] at h
  refine ⟨env, st, as, r, re, (SOk.sb (fun H' as' s => re.mv (r.mv s)) h).imp (fun J H1 q => ?_) fun _ _ z => z⟩
  obtain ⟨p, st1, as1, s1, r1, hJ, h⟩ := q
  refine ⟨fun i m σ H => i + m = p.1.length ∧ ∃ env st as, Stp H1 as1 H as ∧ RS P H as st ∧ RE P H as env σ ∧ SOk P W H as (forL (bindG g) (fun env st => evSL F cb env st) p.2.ok (p.1.drop i) env st) D, ⟨p.1.length, by omega, env, st1, as1, Stp.refl, r1, re.mv (r.mv s1), by simpa using h⟩, ?_⟩
  rintro i m σ2 H2 ⟨hm, env, st, as, s, r, re, h⟩
  cases m with
  | zero =>
    rw [List.drop_eq_nil_of_le (by omega)] at h
    simp only [forL] at h
    split at h
    · rename_i hc
      exact .inl ⟨(hJ H2 as st i s r hc).2 (by omega), h σ2 H2 as Stp.refl r re⟩
    · exact h.elim
  | succ m =>
    have hl : i < p.1.length := by omega
    rw [List.drop_eq_getElem_cons hl] at h
    simp only [forL] at h
    split at h
    · rename_i hc
      split at h
      · exact h.elim
      · rename_i env1 hb1
        obtain ⟨go, yl⟩ := (hJ H2 as st i s r hc).1 _ (List.getElem?_eq_getElem hl)
        refine .inr ⟨go, fun σ' H' => ∃ env st as, Stp H1 as1 H' as ∧ RS P H' as st ∧ RE P H' as env σ' ∧ SOk P W H' as (forL (bindG g) (fun env st => evSL F cb env st) p.2.ok (p.1.drop (i + 1)) env st) D, fun σ' H' z => ⟨m, Nat.lt_succ_self m, by omega, z⟩, fun x H' y => ?_⟩
        obtain ⟨s', r', rd'⟩ := yl x H' y
        refine ⟨_, env, st, as, env1, r', re.mv (r.mv s'), rd', hb1, fun σ3 re3 _ => ⟨env1, st, as, r', re3, ?_⟩⟩
        have h := SOk.step s' h
        cases e : evSL F cb env1 st with
        | nx env2 st2 => rw [e] at h; exact fun σ4 H4 as4 s4 r4 re4 => ⟨env2, st2, as4, (s.trans s').trans s4, r4, re4, SOk.step s4 h⟩
        | ct env2 st2 => rw [e] at h; exact fun σ4 H4 as4 s4 r4 re4 => ⟨env2, st2, as4, (s.trans s').trans s4, r4, re4, SOk.step s4 h⟩
        | bk env2 st2 => rw [e] at h; exact h
        | rt d st2 => rw [e] at h; exact h
        | exc q env2 st2 => rw [e] at h; exact h
        | stk => rw [e] at h; exact h.elim
    · exact h.elim
theorem ss_wh {t : Expr} {body : List Stmt} {ct : E} {cb : SL} (c : Cok X P W k) (ht : ST X P W F t ct) (hb : SSs X P W F body cb) : SS X P W F (.While t body [] pos) (.wh ct cb) := PS.imp (ps_while c.po ht hb) fun D σ H ⟨env, st, as, r, re, h⟩ => by
  simp only [evS] at h
  refine ⟨fun m σ H => ∃ env st as, RS P H as st ∧ RE P H as env σ ∧ SOk P W H as (whL (fun env st => evT F ct env st) (fun env st => evSL F cb env st) m env st) D, ⟨TURNS, env, st, as, r, re, h⟩, ?_⟩
  rintro m σ H ⟨env, st, as, r, re, h⟩
  cases m with
  | zero => exact h.elim
  | succ m =>
    simp only [whL] at h
    refine ⟨env, st, as, r, re, (SOk.sb (fun H' as' s => re.mv (r.mv s)) h).imp (fun b H1 q => ?_) fun _ _ z => z⟩
    obtain ⟨b', st1, as1, s1, r1, rfl, h⟩ := q
    have re1 := re.mv (r.mv s1)
    cases b with
    | false =>
      rw [if_neg (by decide)]
      exact h σ H1 as1 Stp.refl r1 re1
    | true =>
      rw [if_pos rfl]
      refine ⟨fun σ' H' => ∃ env st as, RS P H' as st ∧ RE P H' as env σ' ∧ SOk P W H' as (whL (fun env st => evT F ct env st) (fun env st => evSL F cb env st) m env st) D, fun σ' H' z => ⟨m, Nat.lt_succ_self m, z⟩, env, st1, as1, r1, re1, ?_⟩
      dsimp only at h
      cases e : evSL F cb env st1 with
      | nx env2 st2 => rw [e] at h; exact fun σ4 H4 as4 s4 r4 re4 => ⟨env2, st2, as4, r4, re4, SOk.step s4 h⟩
      | ct env2 st2 => rw [e] at h; exact fun σ4 H4 as4 s4 r4 re4 => ⟨env2, st2, as4, r4, re4, SOk.step s4 h⟩
      | bk env2 st2 => rw [e] at h; exact h
      | rt d st2 => rw [e] at h; exact h
      | exc q env2 st2 => rw [e] at h; exact h
      | stk => rw [e] at h; exact h.elim
end
end Ev
end

section
set_option Elab.async false
set_option linter.all false
set_option maxRecDepth 100000
set_option autoImplicit false
set_option maxHeartbeats 1000000
/-! Ev19: items of a dict walked, raise and try, displays of dicts -/
namespace Ev
open PySem L2 PySem.Spec PyProof.Rows
section
variable {X : Cx} {P : Pm} {W : WX} {k : Nat} {F : Fns} {pos : Pos}
theorem for_rd {J : It} {H1 : Hp} {as1 : List Addr} {st1 : Sto} {items : List D} {chk : Sto → Bool} {g : G} {cb : SL} {env : En} {σ : L2.St} {D : Ends} (hJ : ItOk P J H1 as1 items chk) (r1 : RS P H1 as1 st1) (re : RE P H1 as1 env σ)
    (h : SOk P W H1 as1 (forL (bindG g) (fun env st => evSL F cb env st) chk items env st1) D) :
    ∃ Wi : Nat → Nat → L2.St → Hp → Prop, (∃ m, Wi 0 m σ H1) ∧ ∀ i m σ H, Wi i m σ H →
      (J.stop i H ∧ D.nx σ H) ∨ (J.go i H ∧ ∃ N : L2.St → Hp → Prop, (∀ σ' H', N σ' H' → ∃ m', m' < m ∧ Wi (i + 1) m' σ' H') ∧ ∀ x H', J.yld i H x H' → tGt P g x σ H' fun σ2 H2 => tS P W (evSL F cb) { D with nx := N, ct := N, bk := D.nx } σ2 H2) := by
  refine ⟨fun i m σ H => i + m = items.length ∧ ∃ env st as, Stp H1 as1 H as ∧ RS P H as st ∧ RE P H as env σ ∧ SOk P W H as (forL (bindG g) (fun env st => evSL F cb env st) chk (items.drop i) env st) D, ⟨items.length, by omega, env, st1, as1, Stp.refl, r1, re, by simpa using h⟩, ?_⟩
  rintro i m σ2 H2 ⟨hm, env, st, as, s, r, re, h⟩
  cases m with
  | zero =>
    rw [List.drop_eq_nil_of_le (by omega)] at h
    simp only [forL] at h
    split at h
    · rename_i hc
      exact .inl ⟨(hJ H2 as st i s r hc).2 (by omega), h σ2 H2 as Stp.refl r re⟩
    · exact h.elim
  | succ m =>
    have hl : i < items.length := by omega
    rw [List.drop_eq_getElem_cons hl] at h
    simp only [forL] at h
    split at h
    · rename_i hc
      split at h
      · exact h.elim
      · rename_i env1 hb1
        obtain ⟨go, yl⟩ := (hJ H2 as st i s r hc).1 _ (List.getElem?_eq_getElem hl)
        refine .inr ⟨go, fun σ' H' => ∃ env st as, Stp H1 as1 H' as ∧ RS P H' as st ∧ RE P H' as env σ' ∧ SOk P W H' as (forL (bindG g) (fun env st => evSL F cb env st) chk (items.drop (i + 1)) env st) D, fun σ' H' z => ⟨m, Nat.lt_succ_self m, by omega, z⟩, fun x H' y => ?_⟩
        obtain ⟨s', r', rd'⟩ := yl x H' y
        refine ⟨_, env, st, as, env1, r', re.mv (r.mv s'), rd', hb1, fun σ3 re3 _ => ⟨env1, st, as, r', re3, ?_⟩⟩
        have h := SOk.step s' h
        cases e : evSL F cb env1 st with
        | nx env2 st2 => rw [e] at h; exact fun σ4 H4 as4 s4 r4 re4 => ⟨env2, st2, as4, (s.trans s').trans s4, r4, re4, SOk.step s4 h⟩
        | ct env2 st2 => rw [e] at h; exact fun σ4 H4 as4 s4 r4 re4 => ⟨env2, st2, as4, (s.trans s').trans s4, r4, re4, SOk.step s4 h⟩
        | bk env2 st2 => rw [e] at h; exact h
        | rt d st2 => rw [e] at h; exact h
        | exc q env2 st2 => rw [e] at h; exact h
        | stk => rw [e] at h; exact h.elim
    · exact h.elim
theorem RKs.get {H : Hp} {as : List Addr} : ∀ {kvs : List (Key × D)} {kus : List (Key × V)} {i : Nat} {p : Key × D} {q : Key × V}, RKs P H as kvs kus → kvs[i]? = some p → kus[i]? = some q → q.1 = p.1 ∧ RD P H as p.2 q.2 := fun {kvs kus i p q} h h1 h2 => by
  have a := congrArg (·[i]?) h.1
  simp only [List.getElem?_map, h1, h2, Option.map_some, Option.some.injEq] at a
  obtain ⟨v, b1, b2⟩ := h.2.get (i := i) (d := p.2) (by simp [h1])
  simp only [List.getElem?_map, h2, Option.map_some, Option.some.injEq] at b1
  subst b1
  exact ⟨a, b2⟩
theorem rd_key {H : Hp} {as : List Addr} (k : Key) : RD P H as (match k with | .inl i => .int i | .inr x => .str x) (kV k) := by cases k <;> rfl
theorem it_items {H1 : Hp} {as1 : List Addr} {st1 : Sto} {n : Nat} {a : Addr} {od : Obj} {kvs : List (Key × D)} {kus : List (Key × V)} (chk : Sto → Bool) (r1 : RS P H1 as1 st1) (e : H1 a = some (.frz od (.dK kus))) (h : RKs P H1 as1 kvs kus) : ItOk P (Iti a od kus) H1 as1 (pairsD kvs) chk := fun H as st i s r _ => by
  have e' := s.fz _ _ _ e
  have h' := h.mv (r1.mv s)
  have hl := h.length
  refine ⟨fun d hd => ?_, fun hi => ⟨e', by rw [hi]; simp [pairsD, hl]⟩⟩
  simp only [pairsD, List.getElem?_map] at hd
  cases hp : kvs[i]? with
  | none => rw [hp] at hd; cases hd
  | some p =>
    rw [hp] at hd
    cases hd
    have hlt : i < kus.length := by rw [← hl]; exact (List.getElem?_eq_some_iff.mp hp).1
    refine ⟨⟨e', hlt⟩, fun x H' ⟨T, k, v, q1, q2, q3, q4⟩ => ?_⟩
    subst q2 q4
    obtain ⟨k1, k2⟩ := h'.get hp q1
    obtain ⟨s', r'⟩ := r.new q3 (.tup [kV k, v])
    refine ⟨s', r', T, [kV k, v], rfl, .inl (.inl upd_same), kV k, [v], rfl, ?_, RDs.one (RD.mv (r.mv s') _ _ k2)⟩
    have k1 : k = p.1 := k1
    rw [k1]
    exact rd_key p.1
/-- the lock taken off -/
theorem unlock_ok {H : Hp} {as : List Addr} {st0 : Sto} {n : Nat} {a : Addr} {od : Obj} {kus : List (Key × V)} {o : SO} {D : Ends} (ha : as[n]? = some a) (h0 : H a = some (.dK kus)) (h : SOk P W H as (unlockS n o) D) :
    SOk P W (upd H a (.frz od (.dK kus))) as o ⟨fun σ' H' => H' a = some (.frz od (.dK kus)) ∧ D.nx σ' (upd H' a (.dK kus)), fun v H' => H' a = some (.frz od (.dK kus)) ∧ D.rt v (upd H' a (.dK kus)), fun σ' H' => H' a = some (.frz od (.dK kus)) ∧ D.bk σ' (upd H' a (.dK kus)), fun σ' H' => H' a = some (.frz od (.dK kus)) ∧ D.ct σ' (upd H' a (.dK kus))⟩ := by
  have key : ∀ {H' : Hp} {as' : List Addr} {st st' : Sto}, Stp (upd H a (.frz od (.dK kus))) as H' as' → RS P H' as' st → unlockD n st = some st' → H' a = some (.frz od (.dK kus)) ∧ Stp H as (upd H' a (.dK kus)) as' ∧ RS P (upd H' a (.dK kus)) as' st' ∧ Mv P H' as' (upd H' a (.dK kus)) as' := fun {H' as' st st'} s r e => by
    have e1 := s.fz a _ _ upd_same
    unfold unlockD at e
    split at e
    · rename_i kvs hs
      cases e
      obtain ⟨b, hb, o', kus', q1, q2⟩ := r.ob n _ hs
      rw [s.at_ ha] at hb
      cases hb
      rw [e1] at q1
      cases q1
      have hm : a ∈ as := List.mem_of_getElem? ha
      refine ⟨e1, ⟨?_, fun b o hb hn => ?_, fun b hb => ?_, fun b o u hb => ?_⟩, r.writeR (o := .dK kus) (m := .dct kvs) (s.at_ ha) fun mv => ⟨kus, upd_same, q2.mv mv⟩, r.mvw (s.at_ ha) _⟩
      · obtain ⟨nw, e2, f⟩ := s.pre
        refine ⟨nw, e2, fun b hb => ?_⟩
        have z := f b hb
        by_cases hba : b = a
        · rw [hba, upd_same] at z; cases z
        · rw [upd_ne hba] at z; exact z
      · have hba : b ≠ a := fun z => hn (z ▸ hm)
        rw [upd_ne hba]
        exact s.fr b o (by rw [upd_ne hba]; exact hb) hn
      · by_cases hba : b = a
        · rw [hba, upd_same] at hb; cases hb
        · rw [upd_ne hba] at hb
          have z := s.so b hb
          rw [upd_ne hba] at z; exact z
      · have hba : b ≠ a := fun z => by rw [z, h0] at hb; cases hb
        rw [upd_ne hba]
        exact s.fz b o u (by rw [upd_ne hba]; exact hb)
    · cases e
  cases o with
  | nx env st =>
    simp only [unlockS] at h
    split at h
    · rename_i st' e
      intro σ' H' as' s r re
      obtain ⟨k1, k2, k3, k4⟩ := key s r e
      exact ⟨k1, h σ' _ as' k2 k3 (re.mv k4)⟩
    · exact h.elim
  | rt d st =>
    simp only [unlockS] at h
    split at h
    · rename_i st' e
      intro v H' as' s r hd
      obtain ⟨k1, k2, k3, k4⟩ := key s r e
      exact ⟨k1, h v _ as' k2 k3 (RD.mv k4 _ _ hd)⟩
    · exact h.elim
  | bk env st =>
    simp only [unlockS] at h
    split at h
    · rename_i st' e
      intro σ' H' as' s r re
      obtain ⟨k1, k2, k3, k4⟩ := key s r e
      exact ⟨k1, h σ' _ as' k2 k3 (re.mv k4)⟩
    · exact h.elim
  | ct env st =>
    simp only [unlockS] at h
    split at h
    · rename_i st' e
      intro σ' H' as' s r re
      obtain ⟨k1, k2, k3, k4⟩ := key s r e
      exact ⟨k1, h σ' _ as' k2 k3 (re.mv k4)⟩
    · exact h.elim
  | exc c env st => exact h.elim
  | stk => exact h.elim
theorem ss_forD {i : Nat} {x : Str} {elts : List Expr} {kk : Nat} {tpos p apos cpos : Pos} {body : List Stmt} {g : G} {cb : SL} (c : Cok X P W k) (he : SE X P W F (.Name x p) (.v i)) (hg : SG X P (.Tuple elts kk tpos) g) (hb : SSs X P W F body cb)
    (hs : ∀ y, foldedSetIterable (.Call (.Attribute (.Name x p) "items" apos) [] [] cpos) X.env y = pure y := by intro _; rfl) (hbase : attributeBase (.Name x p) "items" X.env (eval (.Name x p) X.env) = eval (.Name x p) X.env := by rfl) (hline : (apos.endLine == cpos.line) = true := by rfl) :
    SS X P W F (.For (.Tuple elts kk tpos) (.Call (.Attribute (.Name x p) "items" apos) [] [] cpos) body [] pos) (.forD g i cb) := PS.imp (ps_lock (ps_for c.po c.calm (pi_items he hbase hline) hg hb hs)) fun D σ H ⟨env, st, as, r, re, h⟩ => by
  simp only [evS] at h
  split at h
  · rename_i n e1
    split at h
    · rename_i kvs e2
      obtain ⟨v, hv, hd⟩ := re.at_ i _ e1
      obtain ⟨a, kus, rfl, ha, h1, h2⟩ := dctAt r hd e2
      refine ⟨a, .dK kus, h1, True.intro, fun od => ?_⟩
      have s0 : Stp H as (upd H a (.frz od (.dK kus))) as := Stp.write ha (fun o u z => by rw [h1] at z; cases z) _
      have r0 : RS P (upd H a (.frz od (.dK kus))) as (st.set n (.lok kvs)) := r.writeR ha fun mv => ⟨od, kus, upd_same, h2.mv mv⟩
      have re0 := re.mv (r.mv s0)
      have h0 := unlock_ok (od := od) (st0 := st) ha h1 h
      refine ⟨env, _, as, r0, re0, ?_⟩
      have ee : evE F (.v i) env (st.set n (.lok kvs)) = .ok (.ref n) (st.set n (.lok kvs)) := by simp only [evE]; rw [e1]
      rw [ee]
      intro w H1 as1 s1 r1 hw
      obtain ⟨b, rfl, hb'⟩ := hw
      rw [s1.at_ ha] at hb'
      cases hb'
      have e3 := s1.fz _ _ _ upd_same
      refine ⟨a, od, kus, rfl, e3, ?_⟩
      exact for_rd (it_items (n := n) _ r1 e3 ((h2.mv (r.mv s0)).mv (r0.mv s1))) r1 (re0.mv (r0.mv s1)) (SOk.step s1 h0)
    · exact h.elim
  · exact h.elim

/-! ### raise, try -/
theorem ss_raise {e : Expr} {C : Addr} {i : Nat} (c : Cok X P W k) (he : PMk X e (fun _ H Q => Q (.ref C) none H)) (hi : P.ec i = some C) : SS X P W F (.Raise (some e) none pos) (.raise i) :=
  PS.imp (ps_raise c.calm c.tk he) fun D σ H ⟨env, st, as, r, re, h⟩ => by
    simp only [evS] at h
    exact h σ H as C Stp.refl r re hi
theorem ss_try {x : Str} {C : Addr} {i : Nat} {np pos' : Pos} {body suite : List Stmt} {b₀ : Stmt} {cb ch : SL} (c : Cok X P W k) (hs : X.stack = X.env :: X.outer) (hf : X.env.frame = some X.env.locals) (hn : Names X x (.ref C)) (hex : PySem.W.exmOne X.K (.ref C) (.ref C) = some true) (hec : P.ec i = some C)
    (hb : ∀ (W : WX) (pn : List (Addr × Obj)) (xe : Value → Shared → Prop), Cok (X.tr pn xe) P W k → SSs (X.tr pn xe) P W F body cb) (hh : ∀ (a : Addr) (pn : List (Addr × Obj)), SSs (X.suite a pn) P W0 F (b₀ :: suite) ch) :
    SS X P W F (.Try body [.ExceptHandler (some (.Name x np)) none (b₀ :: suite) pos'] [] [] pos) (.try_ cb i ch) :=
  PS.imp (ps_try_only hs hf hn c.tk (tb := fun W => tS P W (evSL F cb)) (ts := fun _ _ _ => tS P W0 (evSL F ch)) (fun W pn xe tk po => hb W pn xe ⟨c.hK, c.calm, c.nd, tk, c.gd, c.rm, c.un, po⟩) (fun a oe cls d pn _ _ => hh a _)) fun D σ H ⟨env, st, as, r, re, h⟩ => by
    simp only [evS] at h
    refine ⟨env, st, as, r, re, ?_⟩
    cases e : evSL F cb env st with
    | nx env1 st1 => rw [e] at h; exact h
    | rt d st1 => rw [e] at h; exact h
    | bk env1 st1 => rw [e] at h; exact h
    | ct env1 st1 => rw [e] at h; exact h
    | stk => rw [e] at h; exact h
    | exc q env1 st1 =>
      rw [e] at h
      dsimp only at h
      split at h
      · rename_i hq
        subst hq
        intro σ' H' as' C' s' r' re' hC
        rw [hec] at hC
        cases hC
        refine ⟨true, hex, fun _ a ha => ⟨env1, st1, as', r', re', ?_⟩, nofun⟩
        have h := SOk.step s' h
        cases e2 : evSL F ch env1 st1 with
        | nx env1 st1 => rw [e2] at h; exact h
        | rt d st1 => rw [e2] at h; exact h
        | bk env1 st1 => rw [e2] at h; exact h
        | ct env1 st1 => rw [e2] at h; exact h
        | stk => rw [e2] at h; exact h
        | exc q env1 st1 => rw [e2] at h; exact h.elim
      · exact h.elim
end
end Ev
end

section
set_option Elab.async false
set_option linter.all false
set_option maxRecDepth 100000
set_option autoImplicit false
set_option maxHeartbeats 1000000
/-! Ev20: sorted(d.items()) -/
namespace Ev
open PySem L2 PySem.Spec PyProof.Rows L2.DX
theorem raw_ints {knd : List (Key × Value) → Prop} {P : Program} {w : World} : ∀ {es : List DictEntry} {vs : List (Key × Value)} {ps : List (Int × Int)}, Pairs (mixKind P w) es vs → KV (ps.map fun e => ((Sum.inl e.1 : Key), V.int e.2)) vs →
    es.length = ps.length ∧ ∀ (j : Nat) (e : DictEntry), es[j]? = some e → ∃ p t1 t2, ps[j]? = some p ∧ e.key = .int p.1 t1 ∧ e.val = .int p.2 t2
  | _, _, [], h1, h2 => by
    cases h2
    cases h1
    exact ⟨rfl, fun j e h => by simp at h⟩
  | _, _, p :: ps, h1, h2 => by
    cases h2 with
    | cons h t =>
      cases h1 with
      | @cons en _ _ _ a b c =>
        obtain ⟨q1, q2⟩ := raw_ints (knd := knd) c t
        refine ⟨by simp [q1], fun j e hj => ?_⟩
        cases j with
        | zero =>
          simp at hj
          subst hj
          obtain ⟨k1, k2⟩ := h
          obtain ⟨t2, ht⟩ := k2
          rw [← k1] at a
          have a : keyIs (Sum.inl p.1) en.key = true := a
          rcases keyIs_shape a with ⟨i, t, e1, e2⟩ | ⟨x, t, e1, e2⟩
          · cases e1
            exact ⟨p, t, t2, rfl, e2, by rw [b]; exact ht⟩
          · cases e1
        | succ j => exact q2 j e (by simpa using hj)
def rItemsK : V → List V → Hp → VK → Prop := fun x xs H Q => ∃ (a : Addr) (kvs : List (Key × V)), x = .ref a ∧ xs = [] ∧ H a = some (.dK kvs) ∧ ∀ p, H p = none → Q (.ref p) (upd H p (itemsO p a))
section
variable {X : Cx}
theorem mt_itemsK : MtR X "dict.items" rItemsK := by
  intro pins s σ H x xs v us Q I rx rxs h
  obtain ⟨a, kvs, rfl, rfl, ha, q⟩ := h
  cases rx
  cases rxs
  obtain ⟨z, hd, xs', rel, o, es, ep, ho, hx, hdat, _⟩ := dk_of I.hok ha
  refine DT.callItems (es := es) (ep := ep) hd ⟨o, ho, hx, hdat⟩ ?_
  have hf : H s.heap.objs.size = none := I.hok.fresh (Nat.le_refl _)
  exact ⟨.ref s.heap.objs.size, upd H s.heap.objs.size (itemsO s.heap.objs.size a), I.laid (t' := s.toks) (fun b u e => Heap.get?_push_of_some _ e) (Nat.le_refl _) (itemsO_ok (Heap.get?_push_size _ rfl)), rfl, q _ hf⟩
/-- the context one unit deeper -/
abbrev inX (X : Cx) : Cx := { X with A := X.A.in1 }
theorem inX_to {pins : List (Addr × Obj)} {σ : L2.St} {H : Hp} {s : Shared} (I : Inv X pins σ H s) : Inv (inX X) pins σ H s :=
  ⟨⟨I.ok.mod, I.ok.kind, I.ok.glob, I.ok.blt, I.ok.above, I.ok.inj, I.ok.has, I.ok.cab, I.ok.hd, I.ok.frames, I.ok.stk, I.ok.exf, I.ok.bs, I.ok.bsz, I.ok.noex, I.ok.exfs, I.ok.funs, I.ok.frf⟩, I.os, I.bare, I.base, I.loc, I.cell, I.free, I.freeC, I.pin, I.hok, I.len⟩
theorem inX_of {pins : List (Addr × Obj)} {σ : L2.St} {H : Hp} {s : Shared} (I : Inv (inX X) pins σ H s) : Inv X pins σ H s :=
  ⟨⟨I.ok.mod, I.ok.kind, I.ok.glob, I.ok.blt, I.ok.above, I.ok.inj, I.ok.has, I.ok.cab, I.ok.hd, I.ok.frames, I.ok.stk, I.ok.exf, I.ok.bs, I.ok.bsz, I.ok.noex, I.ok.exfs, I.ok.funs, I.ok.frf⟩, I.os, I.bare, I.base, I.loc, I.cell, I.free, I.freeC, I.pin, I.hok, I.len⟩
/-- sorted(the items of a dict of ints by ints) -/
def rSortII : List V → Hp → VK → Prop := fun vs H Q => ∃ (p a : Addr) (ps : List (Int × Int)), vs = [.ref p] ∧ H p = some (itemsO p a) ∧ H a = some (.dK (ps.map fun e => ((Sum.inl e.1 : Key), V.int e.2))) ∧
  ∀ (H' : Hp) (l : Addr) (zs : List (Addr × Int × Int)), (∀ b o, H b = some o → H' b = some o) → H l = none → (zs.map (·.2)).Perm ps → (zs.map (·.2)).Pairwise (fun e f => e.1 ≤ f.1) → H' l = some (.lst (zs.map fun z => V.ref z.1)) →
    (∀ z ∈ zs, H' z.1 = some (.tup [.int z.2.1, .int z.2.2])) → Q (.ref l) H'
theorem look_zip : ∀ {as : List Addr} {ps : List (Int × Int)} {j : Nat} {b : Addr} {e : Int × Int}, as.Nodup → as[j]? = some b → ps[j]? = some e → (as.zip ps).lookup b = some e
  | [], _, _, _, _, _, h, _ => by simp at h
  | _ :: _, [], _, _, _, _, _, h => by simp at h
  | a :: as, p :: ps, 0, b, e, _, h1, h2 => by
    simp at h1 h2
    subst h1 h2
    simp [List.lookup]
  | a :: as, p :: ps, j + 1, b, e, hn, h1, h2 => by
    simp at h1 h2
    obtain ⟨n1, n2⟩ := List.nodup_cons.mp hn
    have hne : (b == a) = false := by
      simp only [beq_eq_false_iff_ne]
      rintro rfl
      exact n1 (List.mem_of_getElem? h1)
    rw [List.zip_cons_cons, List.lookup_cons, hne]
    exact look_zip n2 h1 h2
theorem cr_sortII (hc : X.calm = true) : CallR X (.builtin "sorted") rSortII := by
  intro pins s σ H xs us Q I r h
  obtain ⟨p, a, ps, rfl, hp, ha, q⟩ := h
  obtain rfl := Vals.ref1 r
  have view : s.heap.IsItemsView p a := (show ObjOk X.prog X.w H s.heap p (itemsO p a) from I.hok p _ hp).1
  obtain ⟨z, hd, vs, rel, o, es, ep, ho, hx, hdat, _, hprs, _⟩ := dk_of I.hok ha
  have hh : X.A.handled = none := I.ok.hd hc
  obtain ⟨hlen, hent⟩ := raw_ints (knd := fun _ => True) hprs rel
  have hsz : es.size = ps.length := by rw [← hlen, Array.length_toList]
  have hz : ps.length ≤ 16777216 := by
    rw [List.length_map, sizeLine_eq] at z
    exact z
  refine DT.sortedI (es := es) (ep := ep) hh view ⟨o, ho, hx, hdat⟩ (by rw [sizeLine_eq]; omega) fun h' tk as hk hlt hl hG => ?_
  have lak : as.length = ps.length := by omega
  have nd : as.Nodup := List.Pairwise.imp (fun h => Nat.ne_of_lt h) hG.rise
  have pr : ∀ (j : Nat) (b : Addr), as[j]? = some b → ∃ (e : Int × Int) (t1 t2 : Tok), ps[j]? = some e ∧ h'.get? b = some { cls := .type "tuple", data := .seq #[Value.int e.1 t1, Value.int e.2 t2] } := by
    intro j b hj
    obtain ⟨en, he, hg⟩ := hG.pairs j b hj
    obtain ⟨e, t1, t2, h1, h2, h3⟩ := hent j en (by rw [Array.getElem?_toList]; exact he)
    exact ⟨e, t1, t2, h1, by rw [hg, h2, h3]⟩
  have hob : (h'.push { cls := .type "list", data := .seq (as.map Value.ref).toArray }).get? h'.objs.size = some { cls := .type "list", data := .seq (as.map Value.ref).toArray } := Heap.get?_push_size _ rfl
  have kb : ∀ b o, s.heap.get? b = some o → (h'.push { cls := .type "list", data := .seq (as.map Value.ref).toArray }).get? b = some o := fun b o e => Heap.get?_push_of_some _ (hk b o e)
  have ne0 : ∀ b o, h'.get? b = some o → b ≠ h'.objs.size := fun b o e => Nat.ne_of_lt (Heap.lt_size e)
  have ka : ∀ b o, h'.get? b = some o → (h'.push { cls := .type "list", data := .seq (as.map Value.ref).toArray }).get? b = some o := fun b o e => Heap.get?_push_of_some _ e
  generalize hh2 : h'.push { cls := .type "list", data := .seq (as.map Value.ref).toArray } = h2 at hob kb ka ⊢
  have I1 : Inv X pins σ H { s with heap := h2, toks := tk } := I.kept (t' := tk) kb
  have hn0 : H h'.objs.size = none := I.hok.fresh (Nat.le_of_lt hlt)
  have rv : Vals (as.map V.ref) (as.map Value.ref) := vals_maps (fun z : Addr => V.ref z) (fun z => Value.ref z) as fun _ _ => rfl
  have I2 : Inv X pins σ (upd H h'.objs.size (.lst (as.map V.ref))) { s with heap := h2, toks := tk } :=
    I1.take (h' := h2) (t' := tk) (fun b ob _ e => e) (I.fpOk (Nat.le_of_lt hlt) hn0) ⟨by rw [List.length_map, sizeLine_eq]; omega, _, 0, rv, hob⟩
  obtain ⟨H2, I3, g, qt⟩ := takeT (P := fun b vs => ∃ (j : Nat) (e : Int × Int), as[j]? = some b ∧ ps[j]? = some e ∧ vs = [.int e.1, .int e.2]) I as _ I2 nd fun b hb => by
    obtain ⟨j, hj⟩ := List.mem_iff_getElem?.mp hb
    obtain ⟨e, t1, t2, he, hg⟩ := pr j b hj
    have hbl : s.heap.objs.size ≤ b := Nat.le_of_lt (hG.above b hb)
    refine ⟨hbl, ?_, [.int e.1, .int e.2], ⟨j, e, hj, he, rfl⟩, fun H3 => ⟨(by rw [sizeLine_eq]; show 2 ≤ 16777216; omega), [Value.int e.1 t1, Value.int e.2 t2], .cons ⟨_, rfl⟩ (.cons ⟨_, rfl⟩ .nil), ⟨_, ka _ _ hg, rfl, 0, rfl⟩⟩⟩
    rw [upd_ne (ne0 _ _ hg)]
    exact I.hok.fresh hbl
  have gr : ∀ b o, H b = some o → H2 b = some o := fun b o e => g b o (by rw [upd_ne (ne_of_none e hn0)]; exact e)
  have hl2 : H2 h'.objs.size = some (.lst (as.map V.ref)) := g _ _ upd_same
  have at_ : ∀ b ∈ as, ∃ e, (as.zip ps).lookup b = some e ∧ (b, e) ∈ as.zip ps ∧ H2 b = some (.tup [.int e.1, .int e.2]) := fun b hb => by
    obtain ⟨vs, ⟨j, e, h1, h2, rfl⟩, h3⟩ := qt b hb
    exact ⟨e, look_zip nd h1 h2, List.mem_of_getElem? (List.getElem?_zip_eq_some.mpr ⟨h1, h2⟩), h3⟩
  let key : V → Int × Int := fun v => match v with
    | .ref b => ((as.zip ps).lookup b).getD (0, 0)
    | _ => (0, 0)
  have fin := mt_sortPO (X := inX X) pins { s with heap := h2, toks := tk } σ H2 (.ref h'.objs.size) [] (.ref h'.objs.size) [] (fun _ H' => Q (.ref h'.objs.size) H') (inX_to I3) rfl .nil ⟨h'.objs.size, as.map V.ref, key, rfl, rfl, hl2, fun y hy => by
    obtain ⟨b, hb, rfl⟩ := List.mem_map.mp hy
    obtain ⟨e, h1, _, h3⟩ := at_ b hb
    exact ⟨b, rfl, by show H2 b = some (.tup [.int (((as.zip ps).lookup b).getD (0, 0)).1, .int (((as.zip ps).lookup b).getD (0, 0)).2]); rw [h1]; exact h3⟩, fun zs hs hst => by
    obtain ⟨bs, pb, eb⟩ := perm_lift (fun z : Addr × Int × Int => V.ref z.1) hst.perm (as.zip ps) (by
      rw [show (fun z : Addr × Int × Int => V.ref z.1) = V.ref ∘ Prod.fst from rfl, ← List.map_map, List.map_fst_zip (by omega)])
    have mem : ∀ z ∈ bs, z.1 ∈ as ∧ (as.zip ps).lookup z.1 = some z.2 ∧ H2 z.1 = some (.tup [.int z.2.1, .int z.2.2]) := fun z hz => by
      obtain ⟨j, hj⟩ := List.mem_iff_getElem?.mp (pb.mem_iff.mp hz)
      obtain ⟨j1, j2⟩ := List.getElem?_zip_eq_some.mp hj
      have hl := look_zip nd j1 j2
      obtain ⟨e, h1, _, h3⟩ := at_ z.1 (List.mem_of_getElem? j1)
      rw [hl] at h1
      cases h1
      exact ⟨List.mem_of_getElem? j1, hl, h3⟩
    refine q _ h'.objs.size bs (fun b o e => ?_) hn0 ?_ ?_ (by rw [upd_same, ← eb]) fun z hz => ?_
    · rw [upd_ne (ne_of_none e hn0)]; exact gr b o e
    · have := pb.map (·.2)
      rwa [List.map_snd_zip (by omega)] at this
    · rw [← eb] at hs
      have hs := List.pairwise_map.mp hs
      rw [List.pairwise_map]
      refine List.Pairwise.imp_of_mem (fun {x y} hx hy h => ?_) hs
      have h : SrtO.lexB (key (.ref y.1)) (key (.ref x.1)) = false := h
      have h := SrtO.lexB_no.mp h
      have ex : key (.ref x.1) = x.2 := by show ((as.zip ps).lookup x.1).getD (0, 0) = x.2; rw [(mem x hx).2.1]; rfl
      have ey : key (.ref y.1) = y.2 := by show ((as.zip ps).lookup y.1).getD (0, 0) = y.2; rw [(mem y hy).2.1]; rfl
      rw [ex, ey] at h
      omega
    · rw [upd_ne (fun e => by
        have a1 := (mem z hz).2.2
        rw [e, hl2] at a1
        cases a1)]
      exact (mem z hz).2.2⟩
  refine thn fin fun u s' ⟨v, H', I', rv', hq⟩ => ?_
  exact ⟨.ref h'.objs.size, H', inX_of I', rfl, hq⟩
end
end Ev
end

section
set_option Elab.async false
set_option linter.all false
set_option maxRecDepth 100000
set_option autoImplicit false
set_option maxHeartbeats 1000000
/-! Ev21: sorted(d.items()) and displays of dicts as rules -/
namespace Ev
open PySem L2 PySem.Spec PyProof.Rows L2.DX
section
variable {X : Cx} {P : Pm} {W : WX} {k : Nat} {F : Fns} {pos : Pos}
theorem RS.there {H : Hp} {as : List Addr} {st : Sto} (r : RS P H as st) {a : Addr} (h : a ∈ as) : ∃ o, H a = some o := by
  rcases r.ntup h with ⟨_, z⟩ | ⟨_, z⟩ | ⟨_, _, z⟩ <;> exact ⟨_, z⟩
theorem RS.adopt {H : Hp} {as : List Addr} {st : Sto} (r : RS P H as st) {p : Addr} (hm : p ∉ as) {m : MO} (ho : RO P H (as ++ [p]) p m) : RS P H (as ++ [p]) (st ++ [m]) := by
  refine ⟨by simp [r.len], List.nodup_append.mpr ⟨r.nd, by simp, fun a ha b hb => by rw [List.mem_singleton.mp hb]; rintro rfl; exact hm ha⟩, fun n q h => ?_⟩
  by_cases hn : n < st.length
  · rw [List.getElem?_append_left hn] at h
    obtain ⟨a, h1, h2⟩ := r.ob n q h
    exact ⟨a, by rw [List.getElem?_append_left (by rw [r.len]; exact hn)]; exact h1, RO.grow h2⟩
  · have hn2 : n = st.length := by
      have := (List.getElem?_eq_some_iff.mp h).1
      simp at this; omega
    subst hn2
    rw [List.getElem?_append_right (Nat.le_refl _), Nat.sub_self] at h
    simp at h; subst h
    exact ⟨p, by rw [← r.len, List.getElem?_append_right (Nat.le_refl _), Nat.sub_self]; rfl, ho⟩
/-- the heap has grown -/
theorem Stp.grown {H H' : Hp} {as : List Addr} (g : ∀ b o, H b = some o → H' b = some o) : Stp H as H' as := ⟨⟨[], by simp, by simp⟩, fun b o h _ => g b o h, fun b h => (by
  cases e : H b with
  | none => rfl
  | some o => rw [g b o e] at h; cases h), fun b o u h => g b _ h⟩
theorem RS.grown {H H' : Hp} {as : List Addr} {st : Sto} (r : RS P H as st) (g : ∀ b o, H b = some o → H' b = some o) : RS P H' as st := r.keep (Stp.grown g) fun a ha => by
  obtain ⟨o, e⟩ := r.there ha
  rw [e, g a o e]
theorem look_zip2 : ∀ {kvs : List (Key × D)} {ks ns : List Int} {a n : Int}, kvs.map (·.1) = ks.map Sum.inl → kvs.map (·.2) = ns.map D.int → ks.Nodup → (a, n) ∈ ks.zip ns → lookK kvs (.inl a) = some (.int n)
  | [], [], _, _, _, _, _, _, h => by simp at h
  | [], _ :: _, _, _, _, h, _, _, _ => by simp at h
  | _ :: _, [], _, _, _, h, _, _, _ => by simp at h
  | _ :: _, _ :: _, [], _, _, _, h, _, _ => by simp at h
  | (j, d) :: r, x :: ks, y :: ns, a, n, h1, h2, hn, h => by
    simp only [List.map_cons, List.cons.injEq] at h1 h2
    obtain ⟨n1, n2⟩ := List.nodup_cons.mp hn
    rw [List.zip_cons_cons] at h
    rcases List.mem_cons.mp h with e | e
    · cases e
      simp [lookK, List.find?_cons, h1.1, h2.1]
    · have hne : x ≠ a := fun z => n1 (z ▸ (List.of_mem_zip e).1)
      have := look_zip2 h1.2 h2.2 n2 e
      have e1 : lookK ((j, d) :: r) (Sum.inl a) = lookK r (.inl a) := by simp [lookK, List.find?_cons, h1.1, hne]
      rw [e1, this]
theorem kus_zip {kus : List (Key × V)} {ks ns : List Int} (h1 : kus.map (·.1) = ks.map Sum.inl) (h2 : kus.map (·.2) = ns.map V.int) : kus = (ks.zip ns).map fun e => ((Sum.inl e.1 : Key), V.int e.2) := by
  have e : kus = (kus.map (·.1)).zip (kus.map (·.2)) := by
    clear h1 h2
    induction kus with
    | nil => rfl
    | cons a r ih => simp only [List.map_cons, List.zip_cons_cons, ← ih]
  rw [e, h1, h2, List.zip_map]
  rfl
theorem s_sortI {o : Expr} {co : E} {p apos cpos : Pos} (c : Cok X P W k) (hg : Gl X "sorted") (hm : X.mg "sorted" = none) (hv : bootBuiltins "sorted" = some (.builtin "sorted")) (ho : SE X P W F o co)
    (hbase : attributeBase o "items" X.env (eval o X.env) = eval o X.env := by rfl) (hline : (apos.endLine == cpos.line) = true := by rfl)
    (hs : starEach [.Call (.Attribute o "items" apos) [] [] cpos] X.env = (false, eval (.Call (.Attribute o "items" apos) [] [] cpos) X.env) :: starEach [] X.env := by rfl) (hpl : (backTo pos (starEach [] X.env)).any (·.1) = false := by rfl) :
    SE X P W F (.Call (.Name "sorted" p) [.Call (.Attribute o "items" apos) [] [] cpos] [] pos) (.bi .sortI co) :=
  PE.imp (pe_callB (cr_sortII c.calm) hg hm hv (pa_cons (pe_bm0 PySem.F.plainAttrs_dict PySem.F.slot_dict_items PySem.F.type_dict_items mt_itemsK ho hbase hline) pa_nil hs) (by decide) (by decide) hs hpl) fun σ H Q h => by
    obtain ⟨env, st, as, rs, re, h⟩ := h
    simp only [evE] at h
    refine ⟨env, st, as, rs, re, (OOk.bind0 h).imp (fun x H1 q => ?_) fun _ _ z => z⟩
    obtain ⟨d, st1, as1, s1, r1, hd, h⟩ := q
    unfold evBi at h
    have hb : OOk P H1 as1 (RDr P) (biSortI d st1) Q fun _ _ => False := by
      cases e : biSortI d st1 with
      | stk => simp only [evBi0] at h; rw [e] at h; exact h.elim
      | exc c st2 => simp only [evBi0] at h; rw [e] at h; exact h.elim
      | ok z st2 =>
        simp only [evBi0] at h
        rw [e, Out.bind_ok] at h
        have h := h.noexc (E' := fun _ _ => False)
        intro v H2 as2 s2 r2 hz
        exact gc_ok rs h v H2 as2 (s1.trans s2) r2 hz
    clear h
    unfold biSortI at hb
    split at hb
    · split at hb
      · rename_i n kvs e1
        split at hb
        · rename_i ks ns hk hn
          split at hb
          · rename_i hl
            unfold Ev.newL at hb
            split at hb
            · obtain ⟨a, kus, rfl, ha, h1, h2⟩ := dctAt r1 hd e1
              have hk1 := keyInts_eq hk
              have hn1 := intsD_eq hn
              have hku : kus = (ks.zip ns).map fun e => ((Sum.inl e.1 : Key), V.int e.2) := kus_zip (by rw [h2.1, hk1]) (by have := h2.2; rw [hn1] at this; exact this.ints)
              have hln : ks.length = ns.length := by
                have a1 := congrArg List.length hk1
                have a2 := congrArg List.length hn1
                simp only [List.length_map] at a1 a2
                omega
              refine ⟨.inr (.inr (.inl ⟨rfl, .inl ⟨kus, h1⟩⟩)), a, kus, rfl, rfl, h1, fun p hp => ⟨p, a, ks.zip ns, rfl, upd_same, by rw [upd_ne (ne_of_none h1 hp), h1, hku], fun H' l zs g hl0 hperm hsort hll hz => ?_⟩⟩
              obtain ⟨sP, rP⟩ := r1.new hp (itemsO p a)
              have s2 : Stp (upd H1 p (itemsO p a)) as1 H' as1 := Stp.grown g
              have r2 := rP.grown g
              have hlm : l ∉ as1 := fun hm => by
                obtain ⟨o, e⟩ := rP.there hm
                rw [hl0] at e; cases e
              have hkz : zs.map (fun z => z.2.1) = sortInts ks := by
                have e2 : zs.map (fun z => z.2.1) = (zs.map (·.2)).map (·.1) := by rw [List.map_map]; rfl
                rw [e2]
                refine sorted_one ((hperm.map (·.1)).trans ?_) (List.pairwise_map.mpr hsort) (sortInts_sorted ks)
                rw [List.map_fst_zip (by omega)]
                exact (sortInts_perm ks).symm
              have hsp : sortPairs kvs (sortInts ks) = zs.map fun z => D.tup [.int z.2.1, .int z.2.2] := by
                rw [← hkz]
                unfold sortPairs
                rw [List.map_map]
                refine List.map_congr_left fun z hz' => ?_
                have hm : z.2 ∈ ks.zip ns := hperm.mem_iff.mp (List.mem_map.mpr ⟨z, hz', rfl⟩)
                show D.tup [.int z.2.1, (lookK kvs (.inl z.2.1)).getD .non] = _
                rw [look_zip2 hk1 hn1 hl.2 hm]
                rfl
              have hrd : ∀ ys : List (Addr × Int × Int), (∀ z ∈ ys, H' z.1 = some (.tup [.int z.2.1, .int z.2.2])) → RDs P H' (as1 ++ [l]) (ys.map fun z => D.tup [.int z.2.1, .int z.2.2]) (ys.map fun z => V.ref z.1) := fun ys => by
                induction ys with
                | nil => exact fun _ => rfl
                | cons y ys ih => exact fun h => ⟨_, _, rfl, ⟨y.1, _, rfl, .inl (.inl (h y List.mem_cons_self)), _, _, rfl, rfl, _, _, rfl, rfl, rfl⟩, ih fun z hz => h z (List.mem_cons_of_mem _ hz)⟩
              have r3 := r2.adopt (m := .lst (sortPairs kvs (sortInts ks))) hlm ⟨_, hll, by rw [hsp]; exact hrd zs hz⟩
              have s3 : Stp H1 as1 H' (as1 ++ [l]) := ⟨⟨[l], rfl, fun b hb => by
                rw [List.mem_singleton.mp hb]
                by_cases e : l = p
                · rw [e]; exact hp
                · rw [upd_ne e] at hl0; exact hl0⟩, (sP.trans s2).fr, (sP.trans s2).so, (sP.trans s2).fz⟩
              exact hb _ H' _ s3 r3 ⟨l, rfl, by rw [← r1.len, List.getElem?_append_right (Nat.le_refl _), Nat.sub_self]; rfl⟩
            · exact hb.elim
          · exact hb.elim
        · exact hb.elim
      · exact hb.elim
    · exact hb.elim

/-! ### {'x': e, ..} -/
def trsOf (P : Pm) (W : WX) (F : Fns) : List Str → EL → List (TE × TE)
  | x :: ks, .cons c cs => (tC (.str x), tO P W (evE F c)) :: trsOf P W F ks cs
  | _, _ => []
theorem sp_nil : PPs X pos [] [] (trsOf P W F [] .nil) := pps_nil
theorem sp_cons {x : Str} {j : Nat} {p : Pos} {v : Expr} {c : E} {keys : List (Option Expr)} {vals : List Expr} {ks : List Str} {cs : EL} (he : SE X P W F v c) (hr : PPs X pos keys vals (trsOf P W F ks cs)) :
    PPs X pos (some (.Constant (.str x) j p) :: keys) (v :: vals) (trsOf P W F (x :: ks) (.cons c cs)) := pps_cons pe_str he hr
theorem pairs_rd {σ : L2.St} : ∀ {ks : List Str} {cs : EL} {H : Hp} {Q : List (V × V) → Hp → Prop}, ks.length = cs.len → tA P W (evEL F cs) σ H (fun vs H1 => Q (ks.zipWith (fun x v => (V.str x, v)) vs) H1) → tPairs (trsOf P W F ks cs) σ H Q
  | [], .nil, H, Q, _, h => by
    obtain ⟨env, st, as, rs, re, h⟩ := h
    simp only [evEL] at h
    exact h [] H as Stp.refl rs rfl
  | [], .cons _ _, _, _, h, _ => by simp [EL.len] at h
  | _ :: _, .nil, _, _, h, _ => by simp [EL.len] at h
  | x :: ks, .cons c cs, H, Q, hl, h => by
    obtain ⟨env, st, as, rs, re, h⟩ := h
    simp only [evEL] at h
    refine ⟨env, st, as, rs, re, (OOk.bind h).imp (fun v H1 q => ?_) fun _ _ z => z⟩
    obtain ⟨d, st1, as1, s1, r1, hd, h⟩ := q
    refine pairs_rd (by simpa [EL.len] using hl) ⟨env, st1, as1, r1, re.mv (rs.mv s1), (OOk.bind h).imp (fun vs H2 q => ?_) fun _ _ z => z⟩
    obtain ⟨ds, st2, as2, s2, r2, hds, h⟩ := q
    exact h (v :: vs) H2 as2 Stp.refl r2 ⟨v, vs, rfl, RD.mv (r1.mv s2) _ _ hd, hds⟩
theorem merge_new : ∀ (more acc : List (Key × V)), ((acc ++ more).map (·.1)).Nodup → mergeK acc more = acc ++ more
  | [], acc, _ => by simp [mergeK]
  | p :: r, acc, h => by
    have hn : valV acc p.1 = none := by
      cases e : valV acc p.1 with
      | none => rfl
      | some v =>
        exfalso
        unfold valV at e
        obtain ⟨q, hq, _⟩ := Option.map_eq_some_iff.mp e
        have q1 := List.mem_of_find?_eq_some hq
        have q2 : q.1 = p.1 := by simpa using List.find?_some hq
        rw [List.map_append, List.nodup_append] at h
        exact h.2.2 q.1 (List.mem_map.mpr ⟨q, q1, rfl⟩) p.1 (by simp) q2
    show mergeK (putK acc p.1 p.2) r = _
    rw [putK_new _ hn, merge_new r _ (by simpa using h)]
    simp

theorem zip_keys {H : Hp} {as : List Addr} : ∀ {ks : List Str} {ds : List D} {vs : List V}, RDs P H as ds vs → RKs P H as ((ks.zip ds).map fun p => ((Sum.inr p.1 : Key), p.2)) ((ks.zip vs).map fun p => ((Sum.inr p.1 : Key), p.2))
  | [], _, _, _ => ⟨by simp, by simp; rfl⟩
  | _ :: _, [], _, h => by cases h; exact ⟨by simp, by simp; rfl⟩
  | k :: ks, d :: ds, _, ⟨v, ws, e, h1, h2⟩ => by
    subst e
    obtain ⟨q1, q2⟩ := zip_keys (ks := ks) h2
    exact ⟨by simp only [List.zip_cons_cons, List.map_cons, q1], v, _, by simp only [List.zip_cons_cons, List.map_cons], h1, q2⟩
theorem RS.offD {H : Hp} {as : List Addr} {st : Sto} {D : Addr} {vs : List (Key × V)} {ws : List (Key × V)} (r : RS P H as st) (hD : H D = some (.dK vs)) (hn : D ∉ as) : RS P (upd H D (.dK ws)) as st ∧ Mv P H as (upd H D (.dK ws)) as := by
  have mv : Mv P H as (upd H D (.dK ws)) as := ⟨fun a vs h => ?_, fun a vs h => ?_, fun _ _ h => h⟩
  · refine ⟨⟨r.len, r.nd, fun n o h => ?_⟩, mv⟩
    obtain ⟨a, h1, h2⟩ := r.ob n o h
    have hne : a ≠ D := fun e => hn (e ▸ List.mem_of_getElem? h1)
    refine ⟨a, h1, ?_⟩
    cases o with
    | lst xs => obtain ⟨vs, e, z⟩ := h2; exact ⟨vs, by rw [upd_ne hne]; exact e, RDs.mv mv _ _ z⟩
    | dct xs => obtain ⟨vs, e, z⟩ := h2; exact ⟨vs, by rw [upd_ne hne]; exact e, z.mv mv⟩
    | lok xs => obtain ⟨u, vs, e, z⟩ := h2; exact ⟨u, vs, by rw [upd_ne hne]; exact e, z.mv mv⟩
  · rcases h with (h | ⟨o, h⟩) | h
    · exact .inl (.inl (by rw [upd_ne (fun e => by rw [e, hD] at h; cases h)]; exact h))
    · exact .inl (.inr ⟨o, by rw [upd_ne (fun e => by rw [e, hD] at h; cases h)]; exact h⟩)
    · exact .inr h
  · rcases h with ⟨o, h⟩ | h
    · exact .inl ⟨o, by rw [upd_ne (fun e => by rw [e, hD] at h; cases h)]; exact h⟩
    · exact .inr h
theorem RE.to {H : Hp} {as : List Addr} {env : En} {σ : L2.St} {st : Sto} {p : Addr} {o : HO} (re : RE P H as env σ) (rs : RS P H as st) (hp : H p = none) : RE P (upd H p o) as env σ := re.mv (rs.mv (rs.new hp o).1)
theorem s_dct {keys : List (Option Expr)} {vals : List Expr} {ks : List Str} {cs : EL} (h : PPs X pos keys vals (trsOf P W F ks cs)) (hln : ks.length = cs.len := by rfl) (hall : keys.all (·.isSome) = true := by rfl) (hl : keys.length = vals.length := by rfl) (h0 : keys ≠ [] := by exact List.cons_ne_nil _ _) (h15 : keys.length ≤ 15 := by decide) :
    SE X P W F (.Dict keys vals pos) (.dct ks cs) := PE.imp (pe_disp h hall hl h0 h15) fun σ H Q h => by
  obtain ⟨env, st, as, rs, re, h⟩ := h
  simp only [evE] at h
  intro p hp
  obtain ⟨s0, r0⟩ := rs.new hp (.dK [])
  have hpa : p ∉ as := fun hm => by
    obtain ⟨o, e⟩ := rs.there hm
    rw [hp] at e; cases e
  refine pairs_rd hln ⟨env, st, as, r0, re.to rs hp, ?_⟩
  cases e1 : evEL F cs env st with
  | stk => rw [e1] at h; exact h.elim
  | exc c st1 =>
    rw [e1] at h
    exact fun H' as' C s r e => h H' as' C (s0.trans s) r e
  | ok ds st1 =>
    rw [e1] at h
    simp only [Out.bind_ok] at h
    split at h
    · rename_i hc
      intro vs H1 as1 s1 r1 hds
      have hlv : ks.length = vs.length := by rw [← hds.length]; exact hc.1.symm
      have hp1 : H1 p = some (.dK []) := s1.fr p _ upd_same hpa
      have hpa1 : p ∉ as1 := fun hm => by
        obtain ⟨nw, rfl, f⟩ := s1.pre
        rcases List.mem_append.mp hm with z | z
        · exact hpa z
        · have := f p z
          rw [upd_same] at this; cases this
      have hps : List.zipWith (fun x v => (V.str x, v)) ks vs = ((ks.zip vs).map fun q => ((Sum.inr q.1 : Key), q.2)).map fun kv => (kV kv.1, kv.2) := by
        rw [List.map_map, List.zip, List.map_zipWith]
        all_goals rfl
      refine ⟨hp1, (ks.zip vs).map fun q => ((Sum.inr q.1 : Key), q.2), hps, by rw [List.length_map, List.length_zip]; omega, ?_⟩
      have hm : mergeK [] ((ks.zip vs).map fun q => ((Sum.inr q.1 : Key), q.2)) = (ks.zip vs).map fun q => ((Sum.inr q.1 : Key), q.2) := by
        refine merge_new _ _ ?_
        rw [List.nil_append, List.map_map]
        rw [show ((fun (x : Key × V) => x.1) ∘ fun (q : Str × V) => ((Sum.inr q.1 : Key), q.2)) = (fun (x : Str) => (Sum.inr x : Key)) ∘ Prod.fst from rfl, ← List.map_map, List.map_fst_zip (by omega)]
        exact List.pairwise_map.mpr (hc.2.2.imp fun hab e => hab (Sum.inr.inj e))
      rw [hm]
      obtain ⟨r2, mv2⟩ := r1.offD (ws := (ks.zip vs).map fun q => ((Sum.inr q.1 : Key), q.2)) hp1 hpa1
      have r3 := r2.adopt (m := .dct ((ks.zip ds).map fun q => ((Sum.inr q.1 : Key), q.2))) hpa1 ⟨_, upd_same, by
        obtain ⟨q1, q2⟩ := zip_keys (ks := ks) (RDs.mv mv2 _ _ hds)
        exact ⟨q1, RDs.grow _ _ q2⟩⟩
      have s3 : Stp H as (upd H1 p (.dK ((ks.zip vs).map fun q => ((Sum.inr q.1 : Key), q.2)))) (as1 ++ [p]) := by
        have s := s0.trans s1
        refine ⟨?_, fun b o hb hn => ?_, fun b hb => ?_, fun b o u hb => ?_⟩
        · obtain ⟨nw, e, f⟩ := s.pre
          refine ⟨nw ++ [p], by rw [e, List.append_assoc], fun b hb => ?_⟩
          rcases List.mem_append.mp hb with z | z
          · exact f b z
          · rw [List.mem_singleton.mp z]; exact hp
        · rw [upd_ne (ne_of_none hb hp)]
          exact s.fr b o hb hn
        · by_cases e : b = p
          · rw [e]; exact hp
          · rw [upd_ne e] at hb
            exact s.so b hb
        · rw [upd_ne (ne_of_none hb hp)]
          exact s.fz b o u hb
      exact h _ _ _ s3 r3 ⟨p, rfl, by rw [← r1.len, List.getElem?_append_right (Nat.le_refl _), Nat.sub_self]; rfl⟩
    · exact h.elim
end
end Ev
end

section
set_option Elab.async false
set_option linter.all false
set_option maxRecDepth 100000
set_option autoImplicit false
set_option maxHeartbeats 1000000
/-! Ev22: a def keeps its promise; the law's end -/
namespace Ev
open PySem L2 PySem.Spec PyProof.Rows
section
variable {P : Program} {w : World} {K : PySem.W.Frag} {mg : Str → Option Value} {base : Heap}
theorem RE.start {Pm : Pm} {H : Hp} {as : List Addr} : ∀ {ds : List D} {vs : List V} {n : Nat}, RDs Pm H as ds vs → RE Pm H as (ds.map some ++ List.replicate n none) (vs.map some ++ List.replicate n none) := fun {ds vs n} h => by
  have hl := h.length
  refine ⟨by simp [hl], fun i d e => ?_⟩
  by_cases hi : i < ds.length
  · rw [List.getElem?_append_left (by simpa using hi), List.getElem?_map] at e
    cases q : ds[i]? with
    | none => rw [q] at e; cases e
    | some z =>
      rw [q] at e
      cases e
      obtain ⟨v, h1, h2⟩ := h.get q
      refine ⟨v, ?_, h2⟩
      rw [List.getElem?_append_left (by simpa using (List.getElem?_eq_some_iff.mp h1).1), List.getElem?_map, h1]
      rfl
  · rw [List.getElem?_append_right (by simpa using hi), List.getElem?_replicate] at e
    split at e <;> cases e
/-- a def by its code -/
theorem body_ok {Pm : Pm} {F : Fns} {code : SL} {N : List Str} {vs : List V} {H : Hp} {Q : VK} {E : XK} {n : Nat} (h : spF Pm n (fun ds st => evF F N.length code ds st) vs H Q E) :
    tS Pm (fun cls d _ H => E cls d H) (evSL F code) { nx := fun _ H' => Q .non H', rt := Q } (start N vs) H := by
  obtain ⟨ds, st, as, r, hd, _, h⟩ := h
  refine ⟨ds.map some ++ List.replicate (N.length - ds.length) none, st, as, r, by rw [hd.length]; exact RE.start hd, ?_⟩
  simp only [evF] at h
  cases e : evSL F code (ds.map some ++ List.replicate (N.length - ds.length) none) st with
  | nx env st' =>
    rw [e] at h
    exact fun σ' H' as' s r' _ => gc_ok r h .non H' as' s r' rfl
  | rt d st' =>
    rw [e] at h
    exact fun v H' as' s r' hd => gc_ok r h v H' as' s r' hd
  | bk env st' => rw [e] at h; exact h.elim
  | ct env st' => rw [e] at h; exact h.elim
  | stk => rw [e] at h; exact h.elim
  | exc c env st' =>
    rw [e] at h
    intro σ' H' as' C s r' _ hC
    dsimp only at h
    split at h
    · rename_i hc
      obtain ⟨new, rfl, _⟩ := s.pre
      rw [← r.len] at h hc
      exact h H' as C s.cut (r'.cut hc) hC
    · exact h H' as' C s r' hC
theorem cok_of {Pm : Pm} {k : Nat} {N : List Str} {qual : Str} {scope : Scope} {f : Addr} {cd : Value} {A : Around} {outer : List PySem.Env} {s : Shared} {H : Hp} {E : XK} (hK : Pm.K = K) (hr : Room k (A.deeper (envOfC qual scope s.heap.objs.size f cd))) (hg : A.guards = some []) (nd : N.Nodup) :
    Cok (cxOf (L2.CX P w) P w K mg base N qual scope f cd A outer s H E) Pm (fun cls d _ H => E cls d H) k :=
  ⟨hK, rfl, nd, takes_of rfl rfl rfl rfl, hg, hr, by have := hr.un; show (A.deeper _).units + 200 < _; omega, passes_of rfl⟩
/-- a def of the text keeps its code's promise -/
theorem fnG {Pm : Pm} {F : Fns} {code : SL} {k : Nat} {x qual : Str} {params : Arguments} {body : List Stmt} {scope : Scope} {dvs : List V} {kws : List (Str × V)} {f : Addr} {fd : FuncData} {N ps : List Str} (FD : FunD K x qual params body scope dvs kws f fd) (S : FnScope N ps scope) (hK : Pm.K = K)
    (hb : ∀ (cdv : Value) (A : Around) (outer : List PySem.Env) (s : Shared) (H : Hp) (E : XK), Cok (cxOf (L2.CX P w) P w K mg base N qual scope f cdv A outer s H E) Pm (fun cls d _ H => E cls d H) k → SSs (cxOf (L2.CX P w) P w K mg base N qual scope f cdv A outer s H E) Pm (fun cls d _ H => E cls d H) F body code) :
    FnG P w K mg base (k + 1) f fd ps (spF Pm ps.length (fun ds st => evF F N.length code ds st)) := by
  obtain ⟨oc, od, dV, kV, doc, pm, an, cdv, ct, osl, rfl, lk, hcd, _, _⟩ := FD.ex
  refine ⟨fun vs H Q E ⟨ds, st, as, _, h1, h2, _⟩ => h1.length.symm.trans h2, fun A outer s H args us vs Q E hgd hrm en hbt rv hsp => ?_⟩
  have hlen : vs.length = ps.length := by
    obtain ⟨ds, st, as, _, h1, h2, _⟩ := hsp
    exact h1.length.symm.trans h2
  have kin := en.mod.kin.keeps fun b o e => (en.bs b o e).1
  have nol := en.mod.nolimit.keeps fun b o e => (en.bs b o e).1
  have kinds : ∀ y ∈ ps.zip us, scope.names.lookup y.1 = some .local ∨ (scope.names.lookup y.1 = some .cell ∧ ((cellsFrom (s.heap.objs.size + 1) scope.names []).lookup y.1).isSome = true) := by
    intro y hy
    cases S.par y.1 (List.of_mem_zip (show (y.1, y.2) ∈ ps.zip us from hy)).1 with
    | inl q => exact Or.inl q
    | inr q => exact Or.inr ⟨q, PySem.W.cellsFrom_some _ _ _ (Or.inl q)⟩
  refine codeAny_call_function hrm.depth (kin _ _ lk) rfl S.co S.gen rfl (PySem.W.codeRec_of kin hcd) (hbt _ _ _ _ (wpAny_newFunctionEnv_cells S.kind kinds ?_))
  intro env he s1 inc
  subst he
  refine ⟨nol.keeps inc.toInCall.keep, codeAny_func ?_⟩
  have ck := cok_of (P := P) (w := w) (mg := mg) (base := base) (N := N) (qual := qual) (scope := scope) (f := f) (cd := cdv) (outer := outer) (s := s) (H := H) (E := E) hK (hrm.deeper _) hgd S.nd
  have I0 : Inv (cxOf (L2.CX P w) P w K mg base N qual scope f cdv A outer s H E) [] (start N vs) H s1 := inv_start S hrm.hd en hlen rv inc
  refine wpAny_mono ((hb cdv A outer s H E ck).run [] s1 (start N vs) H _ I0 (body_ok hsp)) (fun fl s2 h => ?_) (fun _ _ h => h)
  cases fl with
  | next => obtain ⟨σ2, H2, J, q⟩ := h; exact ⟨.non, H2, J.os, J.bare, J.base, J.hok, rfl, q⟩
  | ret u => obtain ⟨v, σ2, H2, J, r2, q⟩ := h; exact ⟨v, H2, J.os, J.bare, J.base, J.hok, r2, q⟩
  | brk => obtain ⟨_, _, _, q⟩ := h; exact q.elim
  | cont => obtain ⟨_, _, _, q⟩ := h; exact q.elim
theorem FnG.le {j k : Nat} {f : Addr} {fd : FuncData} {ps : List Str} {sp : Sp} (G : FnG P w K mg base j f fd ps sp) (h : j ≤ k) : FnG P w K mg base k f fd ps sp := ⟨G.len, fun A outer s H args us vs Q E hg hr => G.run A outer s H args us vs Q E hg (hr.mono h)⟩

/-! ### the law's end -/
theorem endG {mb : Str → Option Value} {k : Nat} {fa a : Addr} {fd : FuncData} {x : Str} {sp : Sp} {s0 : Shared} {us : List Value} {ns : List Int} (kin : K.In s0.heap) (gl : s0.heap.Ns mainGlobals mg) (bl : s0.heap.Ns builtinsNs mb) (bq : ∀ x : Str, x ≠ "__name__" → mb x = bootBuiltins x)
    (nol : s0.heap.NoLimit) (hg : s0.gens = #[]) (ha : s0.heap.get? a = some { cls := .type "list", data := .seq us.toArray }) (hi : IntsAre us ns) (hl : ns.length ≤ sizeLine) (hr : Room k callerA)
    (F : ∀ base : Heap, K.In base → base.Ns mainGlobals mg → FnG P w K mg base k fa fd [x] sp) (hbt : ∀ (s : Shared) (u : Value), BindsTo s fd ⟨[u], []⟩ [(x, u)]) (hsp : ∀ H : Hp, Only H → SqR K H a (ns.map V.int) → sp [.ref a] H (fun v _ => v = .bl true) fun _ _ _ => False) :
    codeAny (model P w) callerA (.call (.ref fa) ⟨[.ref a], []⟩) (fun r s' => r = .ok (.ret (.bool true)) ∧ OldK s0.heap s'.heap ∧ s'.os = s0.os ∧ AllBare s'.gens) s0 := by
  have rv := vals_ints hi
  have go : ∀ H : Hp, Only H → SqR K H a (ns.map V.int) → HOk P w H s0.heap → (∀ b, H b ≠ none → b = a) → (H a ≠ none → K.lookup a = none) →
      codeAny (model P w) callerA (.call (.ref fa) ⟨[.ref a], []⟩) (fun r s' => r = .ok (.ret (.bool true)) ∧ OldK s0.heap s'.heap ∧ s'.os = s0.os ∧ AllBare s'.gens) s0 := by
    intro H only sq hok justA outA
    have notA : ∀ {b : Addr} {o : Obj} {es : Array DictEntry} {n : Nat}, s0.heap.get? b = some o → o.data = .dict es n → H b = none := fun {b o es n} h1 h2 => by
      cases q : H b with
      | none => rfl
      | some z =>
        obtain rfl := justA b (by rw [q]; exact Option.some_ne_none z)
        rw [ha] at h1
        cases h1
        cases h2
    have nsT : ∀ {b : Addr} {m : Str → Option Value}, s0.heap.Ns b m → (hidT s0.heap H).Ns b m := fun ⟨o, es, n, h1, h2, h3⟩ => ⟨o, es, n, hidT_get h1 (notA h1 h2), h2, h3⟩
    have kinT : K.In (hidT s0.heap H) := fun b o h => hidT_get (kin b o h) (by
      cases q : H b with
      | none => rfl
      | some z =>
        obtain rfl := justA b (by rw [q]; exact Option.some_ne_none z)
        rw [outA (by rw [q]; exact Option.some_ne_none z)] at h
        cases h)
    have modT : Mod K mg (hidT s0.heap H) := ⟨kinT, nsT gl, ⟨mb, nsT bl, bq⟩, let ⟨mc, h1, h2⟩ := nol; ⟨mc, nsT h1, h2⟩⟩
    have en : Env0 P w K mg (hidT s0.heap H) callerA [] s0 H := ⟨rfl, modT, fun b o e => of_hidT e, Nat.le_of_eq (hidT_size _ _), trivial, fun b hb => absurd (show b ∈ ([] : List Addr) from hb) (by simp), hok, .of_eq hg⟩
    have run := (F _ kinT (nsT gl)).run callerA [] s0 H ⟨[.ref a], []⟩ [.ref a] [.ref a] _ _ rfl hr en (hbt s0 (.ref a)) (.cons rfl .nil) (hsp H only sq)
    refine codeAny_mono run fun r s' h => ?_
    match r, h with
    | .error e, ⟨_, _, _, _, _, _, _, _, _, _, _, _, no⟩ => exact no.elim
    | .ok .next, h => exact h.elim
    | .ok .brk, h => exact h.elim
    | .ok .cont, h => exact h.elim
    | .ok (.ret u), ⟨v, H', os, bare, un, hok', r', q⟩ =>
      have q : v = .bl true := q
      subst q
      obtain rfl : u = Value.bool true := r'
      refine ⟨rfl, OldK.of_keep fun b o e => ?_, os, bare⟩
      cases q : H b with
      | none => exact un.keep b o e q (fun z => by cases z) (fun z => by cases z)
      | some z =>
        rcases only b with n | ⟨ob, xs, n⟩
        · rw [q] at n; cases n
        · obtain ⟨e1, _⟩ := hok b _ n
          obtain ⟨e2, _⟩ := hok' b _ (un.frzs b ob _ n)
          rw [e] at e1
          cases e1
          exact e2
  have hlv := hi.length
  cases q : K.lookup a with
  | some o =>
    have e := kin a o q
    rw [ha] at e
    cases e
    refine go (fun _ => none) (fun _ => Or.inl rfl) (Or.inr ⟨_, us.toArray, _, q, rfl, rfl, rfl, by rw [List.size_toArray, hlv]; exact hl, by simpa using rv⟩) ?_ (fun b z => absurd rfl z) (fun z => absurd rfl z)
    intro b u z
    exact nomatch (show (none : Option HO) = some u from z)
  | none =>
    let Ha : Hp := fun b => if b = a then some (.frz { cls := .type "list", data := .seq us.toArray } (.lst (ns.map V.int))) else none
    have haa : Ha a = some (.frz { cls := .type "list", data := .seq us.toArray } (.lst (ns.map V.int))) := if_pos rfl
    have hab : ∀ b, b ≠ a → Ha b = none := fun b h => if_neg h
    refine go Ha (fun b => ?_) (Or.inl ⟨_, haa⟩) (fun b u z => ?_) (fun b z => ?_) (fun _ => q)
    · by_cases h : b = a
      · subst h; exact Or.inr ⟨_, _, haa⟩
      · exact Or.inl (hab b h)
    · by_cases h : b = a
      · subst h
        rw [haa] at z
        cases z
        exact ⟨ha, by rw [List.length_map]; exact hl, us, _, rv, ha⟩
      · rw [hab b h] at z; cases z
    · by_cases h : b = a
      · exact h
      · exact absurd (hab b h) z
/-- the goal that the head leaves, from the law's promise -/
theorem walkG {l : PySem.W.OpenLaw} {n k : Nat} {q : Program} {loose : List Str} {XP : (Str → Option Value) → Heap → Prop} {YP : World → Heap → Prop} {d : DefRec} {x : Str} (hn : l.most = some n) (hz : n ≤ sizeLine) (hdf : d.params.defaults = []) (hr : Room k callerA)
    (F : ∀ (w : World) (mg : Str → Option Value) (fa : Addr) (h : Heap), YP w h → h.Ns mainGlobals mg → mg d.name = some (.ref fa) → ∃ (K : PySem.W.Frag) (fd : FuncData) (sp : Sp), K.In h ∧ (∀ (s : Shared) (u : Value), BindsTo s fd ⟨[u], []⟩ [(x, u)]) ∧
      (∀ (H : Hp) (a : Addr) (ns : List Int), ns.length ≤ n → Only H → SqR K H a (ns.map V.int) → sp [.ref a] H (fun v _ => v = .bl true) fun _ _ _ => False) ∧ ∀ base : Heap, K.In base → base.Ns mainGlobals mg → FnG l.prog w K mg base k fa fd [x] sp) :
    PySem.W.WalkO q loose XP YP l.row.toRowW d [] (fun f vs => PySem.call f vs) := by
  refine Att.attach_call hn hdf ?_
  intro w s0 s1 mg mb fa o pm cd doc a us ns G Y _ _ _ hmg hob hin hlen hg
  obtain ⟨K, fd, sp, kin, hb, hsp, hF⟩ := F w mg fa _ Y G.T.g hmg
  exact endG kin G.T.g G.T.b G.T.builtins G.T.nolimit hg hob hin (Nat.le_trans hlen hz) hr hF hb fun H hO hS => hsp H a ns hlen hO hS
/-- what the law's code is to answer -/
theorem spF_law {Pm : Pm} {f : List D → Sto → Out D} {H : Hp} {a : Addr} {ns : List Int} (only : Only H) (sq : SqR Pm.K H a (ns.map V.int)) (h : ∃ st, f [.rol (ns.map D.int)] [] = .ok (.bl true) st) : spF Pm 1 f [.ref a] H (fun v _ => v = .bl true) fun _ _ _ => False := by
  obtain ⟨st, e⟩ := h
  have hin : ∀ l : List Int, RDs Pm H [] (l.map D.int) (l.map V.int) := fun l => by
    induction l with
    | nil => rfl
    | cons a l ih => exact ⟨_, _, rfl, rfl, ih⟩
  refine ⟨[.rol (ns.map D.int)], [], [], ⟨rfl, List.nodup_nil, fun n o h => by simp at h⟩, ⟨_, _, rfl, ⟨a, _, rfl, sq, hin ns⟩, rfl⟩, rfl, ?_⟩
  rw [e]
  intro v H' as' s r hv
  exact hv
end
end Ev
end

section
set_option Elab.async false
set_option linter.all false
set_option maxRecDepth 100000
set_option autoImplicit false
set_option maxHeartbeats 1000000
/-! Ev23: glue for printed texts -/
namespace Ev
open PySem L2 PySem.Spec PyProof.Rows
def Tab (fs : List (List D → Sto → Out D)) : Fns := fun i => (fs[i]?).getD (fun _ _ => .stk)
/-- a def of the text, ready to be called -/
structure CalG (P : Program) (w : World) (K : PySem.W.Frag) (mg : Str → Option Value) (base : Heap) (Pm : Pm) (x : Str) (j : Nat) (ps : List Str) (f : List D → Sto → Out D) : Prop where
  ex : ∃ (a : Addr) (fd : FuncData), FnG P w K mg base j a fd ps (spF Pm ps.length f) ∧ Binds K fd ps [] ∧ mg x = some (.ref a) ∧ PySem.W.keepIn K (.ref a) = true
section
variable {X : Cx} {P : Pm} {W : WX} {k : Nat} {F : Fns} {pos : Pos}
theorem s_fn {x : Str} {j i : Nat} {ps : List Str} {f : List D → Sto → Out D} {p : Pos} {e : Expr} {es : List Expr} {cs : EL} (c : Cok X P W k) (C : CalG X.prog X.w X.K X.mg X.base P x j ps f) (hf : F i = f) (hj : j ≤ k) (hg : Gl X x) (ha : SA X P W F (e :: es) cs)
    (hln : cs.len = ps.length := by rfl) (hdb : (x == ("__debug__" : Str)) = false := by decide) (he : starEach (e :: es) X.env = (false, eval e X.env) :: starEach es X.env := by rfl) (hpl : (backTo pos (starEach es X.env)).any (·.1) = false := by rfl) :
    SE X P W F (.Call (.Name x p) (e :: es) [] pos) (.call i cs) := by
  obtain ⟨a, fd, G, b, g, kp⟩ := C.ex
  subst hf
  exact s_call c hj G b hg g kp ha hln hdb he hpl
theorem s_fn0 {x : Str} {j i : Nat} {f : List D → Sto → Out D} {p : Pos} (c : Cok X P W k) (C : CalG X.prog X.w X.K X.mg X.base P x j [] f) (hf : F i = f) (hj : j ≤ k) (hg : Gl X x) (hdb : (x == ("__debug__" : Str)) = false := by decide) :
    SE X P W F (.Call (.Name x p) [] [] pos) (.call i .nil) := by
  obtain ⟨a, fd, G, b, g, kp⟩ := C.ex
  subst hf
  exact s_call0 c hj G b hg g kp hdb
theorem s_neg {i : Int} {j : Nat} {p : Pos} : SE X P W F (.UnaryOp .USub (.Constant (.int i) j p) pos) (.k (.int (-i))) := s_c (v := .int (-i)) (PE.imp (pe_un un_neg pe_int) fun σ H Q h => ⟨_, rfl, h⟩) fun _ _ => rfl
theorem s_negE {e : Expr} {ce : E} (he : SE X P W F e ce) : SE X P W F (.UnaryOp .USub e pos) (.op .sub (.k (.int 0)) ce) := PE.imp (pe_un un_neg he) fun σ H Q h => by
  obtain ⟨env, st, as, rs, re, h⟩ := h
  simp only [evE, Out.bind_ok] at h
  refine ⟨env, st, as, rs, re, (OOk.bind h).imp (fun v H1 q => ?_) fun _ _ z => z⟩
  obtain ⟨d, st1, as1, s1, r1, hd, h⟩ := q
  have h := h.noexc (E' := fun _ _ => False)
  cases d with
  | int i =>
    cases hd
    refine ⟨i, rfl, h.here r1 ?_⟩
    rw [Int.zero_sub]
    rfl
  | _ => exact h.elim
/-- a module's own tuple of texts -/
def strsD (xs : List Str) : List D := xs.map D.str
theorem rd_strs {Q : PySem.W.Frag} {H : Hp} {as : List Addr} : ∀ xs : List Str, RDs P H as (strsD xs) ((xs.map He.Dv.str).map (He.Dv.v Q))
  | [] => rfl
  | x :: xs => ⟨_, _, rfl, rfl, rd_strs xs⟩
theorem s_gtup {x : Str} {xs : List Str} {p : Pos} (c : Cok X P W k) (hg : Gl X x) (hm : X.mg x = some (.ref (He.ga P.K x))) (h : He.tupB P.K x (xs.map He.Dv.str) = true) (hdb : (x == ("__debug__" : Str)) = false := by decide) : SE X P W F (.Name x p) (.k (.tup (strsD xs))) :=
  s_glob hg hm (v := .ref (He.ga P.K x)) rfl (fun H as => ⟨_, _, rfl, He.tupB_ok h H, rd_strs xs⟩) hdb
theorem pmk_exc {x : Str} {p : Pos} (K : PySem.W.Frag) (hK : X.K = K) (h : (He.Fa.exc x).ok K = true) (gC : X.mg x = some (.ref (He.ga K x))) (hg : Gl X x) (hdb : (x == ("__debug__" : Str)) = false := by decide) : PMk X (.Call (.Name x p) [] [] pos) (fun _ H Q => Q (.ref (He.ga K x)) none H) := by
  subst hK
  obtain ⟨h1, h2, h3, h4⟩ := He.exc_ok h
  exact pmk0 PySem.F.excBase_ValueError h1 gC h2 (raises_own h3 h4) hg hdb
def blkB (N : List Str) (sc scope : Scope) (own : List (Str × Nat)) : Bool :=
  decide (scope.kind = .function) && scope.names.all (fun y => decide (scope.names.lookup y.1 = some y.2)) && own.all (fun p => decide (N[p.2]? = some p.1)) &&
  scope.names.all (fun y => !decide (y.2 = .free) || (decide (sc.names.lookup y.1 = some .cell) || decide (sc.names.lookup y.1 = some .free))) &&
  scope.names.all (fun y => !(decide (y.2 = .local) || decide (y.2 = .cell)) || (decide (y.1 ∈ own.map (·.1)) || !decide (y.1 ∈ N)))
theorem blk_of {N : List Str} {sc scope : Scope} {own : List (Str × Nat)} (h : blkB N sc scope own = true) : BlkOk N sc scope own := by
  unfold blkB at h
  simp only [Bool.and_eq_true, List.all_eq_true, Bool.or_eq_true, Bool.not_eq_true', decide_eq_true_eq, decide_eq_false_iff_not] at h
  obtain ⟨⟨⟨⟨h1, h2⟩, h3⟩, h4⟩, h5⟩ := h
  refine ⟨h1, h2, h3, fun y hy hf => (h4 y hy).resolve_left fun n => n hf, fun y hy hl => (h5 y hy).resolve_left fun n => ?_⟩
  rcases hl with q | q
  · simp [q] at n
  · simp [q] at n
theorem Cok.u64 (c : Cok X P W k) : X.A.units + 64 < cLine := by have := c.un; omega
theorem Cok.u80 (c : Cok X P W k) : X.A.units + 80 < cLine := by have := c.un; omega
theorem s_gint {x : Str} {i : Int} {p : Pos} (hg : Gl X x) (hm : ∃ t, X.mg x = some (.int i t)) (hdb : (x == ("__debug__" : Str)) = false := by decide) : SE X P W F (.Name x p) (.k (.int i)) := by
  obtain ⟨t, h⟩ := hm
  exact s_glob hg h (v := .int i) ⟨t, rfl⟩ (fun _ _ => rfl) hdb
theorem s_gstr {x : Str} {i : Str} {p : Pos} (hg : Gl X x) (hm : ∃ t, X.mg x = some (.str i t)) (hdb : (x == ("__debug__" : Str)) = false := by decide) : SE X P W F (.Name x p) (.k (.str i)) := by
  obtain ⟨t, h⟩ := hm
  exact s_glob hg h (v := .str i) ⟨t, rfl⟩ (fun _ _ => rfl) hdb
end
end Ev
end

section
set_option Elab.async false
set_option linter.all false
set_option maxRecDepth 100000
set_option autoImplicit false
set_option maxHeartbeats 4000000
namespace Lw
open PySem L2 PySem.Spec PyProof.Rows Ev
def top (i : Nat) : Stmt := PySem.Challenge.pw_maskwright_k33_whole_ways_and_what_is_as.main.body.getD i (.Pass ⟨0, 0, 0, 0⟩)
def c__law_bag : SL := .cons (.ret (.lst (.cons (.k (.int 0)) (.cons (.k (.int 1234567891)) (.cons (.k (.int 0)) (.cons (.lc (.bi .abs (.v 1)) (.n 1) (.of (.sl (.v 0) (.no) (.so (.k (.int 63))))) (.no) [1]) (.nil))))))) (.nil)
def c__law_spots : SL := .cons (.set (.n 1) (.lc (.tup (.cons (.ix (.v 2) (.k (.int 0))) (.cons (.ifx (.cmp .isin (.ix (.v 2) (.k (.int 0))) (.tup (.cons (.k (.str "xor")) (.cons (.k (.str "and")) (.cons (.k (.str "not")) (.cons (.k (.str "fresh")) (.nil))))))) (.sl (.v 2) (.so (.k (.int 1))) (.no)) (.tup (.nil))) (.nil)))) (.n 2) (.of (.ix (.v 0) (.k (.int 3)))) (.no) [2])) (.cons (.ret (.op .add (.op .add (.v 1) (.lc (.tup (.cons (.k (.str "show")) (.cons (.tup (.cons (.v 4) (.nil))) (.nil)))) (.n 4) (.of (.ix (.v 0) (.k (.int 4)))) (.no) [4])) (.lc (.tup (.cons (.k (.str "fresh")) (.cons (.tup (.cons (.v 4) (.nil))) (.nil)))) (.t (.cons (.n 3) (.cons (.n 4) (.nil)))) (.of (.ix (.v 0) (.k (.int 5)))) (.no) [3, 4]))) (.nil))
def c__law_take : SL := .cons (.ife (.cmp .eq (.ix (.v 0) (.k (.int 0))) (.k (.int 0))) (.cons (.set (.n 2) (.ix (.op .add (.sl (.ix (.v 0) (.k (.int 3))) (.so (.ix (.v 0) (.k (.int 2)))) (.no)) (.lst (.cons (.k (.int 0)) (.nil)))) (.k (.int 0)))) (.cons (.augIx (.v 0) (.k (.int 2)) .add (.k (.int 1))) (.cons (.ife (.cmp .ge (.v 2) (.op .pow (.k (.int 10)) (.k (.int 18)))) (.cons (.setIx (.v 0) (.k (.int 0)) (.v 2)) (.nil)) (.nil)) (.cons (.set (.n 3) (.op .add (.op .add (.op .mul (.ix (.v 0) (.k (.int 1))) (.k (.int 48271))) (.op .mod (.bi .int (.v 2)) (.k (.int 2147483647)))) (.op .mul (.k (.int 7919)) (.ix (.v 0) (.k (.int 2)))))) (.cons (.setIx (.v 0) (.k (.int 1)) (.op .mod (.bi .int (.v 3)) (.k (.int 2147483647)))) (.nil)))))) (.nil)) (.cons (.ife (.cmp .gt (.ix (.v 0) (.k (.int 0))) (.k (.int 0))) (.cons (.set (.n 4) (.op .mod (.bi .int (.ix (.v 0) (.k (.int 0)))) (.v 1))) (.cons (.setIx (.v 0) (.k (.int 0)) (.op .fdiv (.bi .int (.ix (.v 0) (.k (.int 0)))) (.v 1))) (.cons (.ret (.v 4)) (.nil)))) (.nil)) (.cons (.set (.n 5) (.op .mod (.bi .int (.op .mul (.op .add (.ix (.v 0) (.k (.int 1))) (.k (.int 1))) (.k (.int 39373)))) (.k (.int 1000000007)))) (.cons (.set (.n 6) (.op .mod (.bi .int (.op .mul (.op .mod (.bi .int (.op .mul (.v 5) (.v 5))) (.k (.int 998244353))) (.k (.int 30011)))) (.k (.int 998244353)))) (.cons (.ret (.op .mod (.bi .int (.op .fdiv (.v 6) (.k (.int 7)))) (.v 1))) (.nil)))))
def c__law_some : SL := .cons (.ret (.ix (.v 1) (.call 2 (.cons (.v 0) (.cons (.bi .len (.v 1)) (.nil)))))) (.nil)
def c__law_net : SL := .cons (.set (.n 2) (.lst (.cons (.tup (.cons (.k (.str "param")) (.cons (.k (.str "a")) (.nil)))) (.cons (.tup (.cons (.k (.str "param")) (.cons (.k (.str "b")) (.nil)))) (.cons (.tup (.cons (.k (.str "kept")) (.cons (.k (.str "s")) (.nil)))) (.nil)))))) (.cons (.forI (.n 3) (.r1 (.v 1)) (.cons (.set (.t (.cons (.n 4) (.cons (.n 5) (.nil)))) (.tup (.cons (.call 3 (.cons (.v 0) (.cons (.lst (.cons (.k (.str "xor")) (.cons (.k (.str "and")) (.cons (.k (.str "xor")) (.cons (.k (.str "and")) (.cons (.k (.str "not")) (.cons (.k (.str "bit")) (.nil)))))))) (.nil)))) (.cons (.bi .len (.v 2)) (.nil))))) (.cons (.ife (.cmp .eq (.v 4) (.k (.str "bit"))) (.cons (.ex (.mth1 .append (.v 2) (.tup (.cons (.k (.str "bit")) (.cons (.call 2 (.cons (.v 0) (.cons (.k (.int 2)) (.nil)))) (.nil)))))) (.nil)) (.cons (.ex (.mth1 .append (.v 2) (.op .add (.tup (.cons (.v 4) (.nil))) (.bi .tuple (.lc (.call 2 (.cons (.v 0) (.cons (.v 5) (.nil)))) (.n 7) (.r1 (.ifx (.cmp .eq (.v 4) (.k (.str "not"))) (.k (.int 1)) (.k (.int 2)))) (.no) [7]))))) (.nil))) (.nil)))) (.cons (.set (.n 6) (.bi .tuple (.lc (.call 2 (.cons (.v 0) (.cons (.bi .len (.v 2)) (.nil)))) (.n 7) (.r1 (.call 2 (.cons (.v 0) (.cons (.k (.int 3)) (.nil))))) (.no) [7]))) (.cons (.ret (.tup (.cons (.tup (.cons (.k (.str "ma")) (.cons (.k (.str "fa")) (.nil)))) (.cons (.tup (.cons (.k (.str "a")) (.cons (.k (.str "b")) (.nil)))) (.cons (.tup (.cons (.k (.str "s")) (.nil))) (.cons (.bi .tuple (.v 2)) (.cons (.v 6) (.cons (.tup (.cons (.tup (.cons (.k (.str "s")) (.cons (.call 2 (.cons (.v 0) (.cons (.bi .len (.v 2)) (.nil)))) (.nil)))) (.nil))) (.nil))))))))) (.nil))))
def c__law_grades : SL := .cons (.ret (.dct ["and", "not", "xor", "fresh", "show"] (.cons (.call 3 (.cons (.v 0) (.cons (.lst (.cons (.k (.str "near")) (.cons (.k (.str "strong")) (.nil)))) (.nil)))) (.cons (.call 3 (.cons (.v 0) (.cons (.lst (.cons (.k (.str "near")) (.cons (.k (.str "strong")) (.nil)))) (.nil)))) (.cons (.call 3 (.cons (.v 0) (.cons (.lst (.cons (.k (.str "near")) (.cons (.k (.str "near")) (.cons (.k (.str "strong")) (.nil))))) (.nil)))) (.cons (.k (.str "strong")) (.cons (.k (.str "open")) (.nil)))))))) (.nil)
def c__law_roads : SL := .cons (.par3 3 4 5 (.call 1 (.cons (.v 0) (.nil))) (.dct [] .nil) (.lst (.cons (.v 2) (.nil)))) (.cons (.wh (.cmp .ne (.v 5) (.lst (.nil))) (.cons (.set (.n 2) (.mth0 .pop (.v 5))) (.cons (.forI (.t (.cons (.n 6) (.cons (.t (.cons (.n 7) (.cons (.n 8) (.nil)))) (.nil)))) (.en (.v 3)) (.cons (.forI (.n 9) (.of (.v 8)) (.cons (.ife (.cmp .eq (.v 9) (.v 2)) (.cons (.setIx (.v 4) (.v 6) (.op .add (.get2 (.v 4) (.v 6) (.k (.int 0))) (.k (.int 1)))) (.cons (.ife (.and (.cmp .lt (.v 6) (.bi .len (.ix (.v 0) (.k (.int 3))))) (.cmp .eq (.ix (.v 1) (.v 7)) (.k (.str "near")))) (.cons (.ex (.mth1 .append (.v 5) (.v 6))) (.nil)) (.nil)) (.nil))) (.nil)) (.nil))) (.nil))) (.nil)))) (.cons (.ret (.v 4)) (.nil)))
def c__law_alike : SL := .cons (.ret (.and (.cmp .eq (.bi .repr (.v 0)) (.bi .repr (.v 1))) (.cmp .eq (.v 0) (.v 1)))) (.nil)
def c__law_needles : SL := .cons (.set (.n 2) (.lst (.cons (.op .mul (.tup (.cons (.k (.int 0)) (.nil))) (.v 0)) (.nil)))) (.cons (.forI (.n 3) (.r1 (.v 0)) (.cons (.ex (.mth1 .append (.v 2) (.op .add (.op .add (.op .mul (.tup (.cons (.k (.int 0)) (.nil))) (.v 3)) (.tup (.cons (.k (.int 1)) (.nil)))) (.op .mul (.tup (.cons (.k (.int 0)) (.nil))) (.op .sub (.op .sub (.v 0) (.v 3)) (.k (.int 1))))))) (.nil))) (.cons (.ife (.cmp .eq (.v 1) (.k (.int 1))) (.cons (.ret (.v 2)) (.nil)) (.nil)) (.cons (.set (.n 4) (.lst (.nil))) (.cons (.forI (.n 5) (.of (.v 2)) (.cons (.ex (.mth1 .extend (.v 4) (.lc (.bi .tuple (.lc (.op .add (.v 7) (.v 8)) (.t (.cons (.n 7) (.cons (.n 8) (.nil)))) (.zi (.v 5) (.v 6)) (.no) [7, 8])) (.n 6) (.of (.v 2)) (.no) [6]))) (.nil))) (.cons (.ret (.v 4)) (.nil))))))
def c_many_uses : SL := .cons (.ife (.cmp .isin (.ix (.v 0) (.k (.int 0))) (.k (.tup (strsD ["and", "xor"])))) (.cons (.ret (.k (.int 2))) (.nil)) (.nil)) (.cons (.ret (.ifx (.cmp .isin (.ix (.v 0) (.k (.int 0))) (.k (.tup (strsD ["fresh", "not"])))) (.k (.int 1)) (.k (.int 0)))) (.nil))
def c_inputs_of : SL := .cons (.ret (.bi .tuple (.sl (.v 0) (.so (.k (.int 1))) (.so (.op .add (.k (.int 1)) (.call 9 (.cons (.v 0) (.nil)))))))) (.nil)
def c_spots_of : SL := .cons (.set (.n 1) (.lc (.tup (.cons (.ix (.v 2) (.k (.int 0))) (.cons (.call 10 (.cons (.v 2) (.nil))) (.nil)))) (.n 2) (.of (.ix (.v 0) (.k (.int 3)))) (.no) [2])) (.cons (.ex (.mth1 .extend (.v 1) (.lc (.tup (.cons (.k (.str "show")) (.cons (.tup (.cons (.v 3) (.nil))) (.nil)))) (.n 3) (.of (.ix (.v 0) (.k (.int 4)))) (.no) [3]))) (.cons (.ret (.op .add (.v 1) (.lc (.tup (.cons (.k (.str "fresh")) (.cons (.tup (.cons (.v 3) (.nil))) (.nil)))) (.t (.cons (.n 4) (.cons (.n 3) (.nil)))) (.of (.ix (.v 0) (.k (.int 5)))) (.no) [4, 3]))) (.nil)))
def c_is_near : SL := .cons (.ife (.or (.cmp .ge (.v 1) (.bi .len (.ix (.v 0) (.k (.int 3))))) (.cmp .eq (.ix (.ix (.ix (.v 0) (.k (.int 3))) (.v 1)) (.k (.int 0))) (.k (.str "fresh")))) (.cons (.ret (.k (.bl false))) (.nil)) (.nil)) (.cons (.ret (.cmp .eq (.get1 (.v 2) (.ix (.ix (.ix (.v 0) (.k (.int 3))) (.v 1)) (.k (.int 0)))) (.k (.str "near")))) (.nil))
def c_is_integer : SL := .cons (.ret (.and (.bi (.isI "int") (.v 0)) (.not (.bi (.isI "bool") (.v 0))))) (.nil)
def c_is_count : SL := .cons (.ret (.and (.call 13 (.cons (.v 0) (.nil))) (.cmp .ge (.v 0) (.k (.int 0))))) (.nil)
def c_asked_of : SL := .cons (.set (.n 3) (.call 11 (.cons (.v 0) (.nil)))) (.cons (.ife (.or (.not (.bi (.isI "tuple") (.v 2))) (.or (.cmp .ne (.bi .len (.v 2)) (.bi .len (.v 3))) (.not (.bi .all (.lc (.call 14 (.cons (.v 9) (.nil))) (.n 9) (.of (.v 2)) (.no) [9]))))) (.cons (.raise 0) (.nil)) (.nil)) (.cons (.set (.n 4) (.lc (.k (.int 0)) (.n 8) (.of (.ix (.v 0) (.k (.int 3)))) (.no) [8])) (.cons (.forI (.n 5) (.r3 (.op .sub (.bi .len (.v 3)) (.k (.int 1))) (.k (.int (-1))) (.k (.int (-1)))) (.cons (.set (.n 6) (.op .add (.ix (.v 2) (.v 5)) (.ifx (.call 12 (.cons (.v 0) (.cons (.v 5) (.cons (.v 1) (.nil))))) (.ix (.v 4) (.v 5)) (.k (.int 0))))) (.cons (.forI (.n 7) (.of (.ix (.ix (.v 3) (.v 5)) (.k (.int 1)))) (.cons (.augIx (.v 4) (.v 7) .add (.v 6)) (.nil))) (.nil)))) (.cons (.ret (.bi .tuple (.v 4))) (.nil)))))
def c_add_ways : SL := .cons (.setIx (.v 0) (.v 1) (.op .add (.get2 (.v 0) (.v 1) (.k (.int 0))) (.k (.int 1)))) (.cons (.forD (.t (.cons (.n 3) (.cons (.n 4) (.nil)))) 2 (.cons (.setIx (.v 0) (.v 3) (.op .add (.get2 (.v 0) (.v 3) (.k (.int 0))) (.v 4))) (.nil))) (.nil))
def c_ways_of : SL := .cons (.par2 2 3 (.call 11 (.cons (.v 0) (.nil))) (.lc (.dct [] .nil) (.n 7) (.of (.ix (.v 0) (.k (.int 3)))) (.no) [7])) (.cons (.forI (.n 4) (.r3 (.op .sub (.bi .len (.v 2)) (.k (.int 1))) (.k (.int (-1))) (.k (.int (-1)))) (.cons (.set (.n 5) (.ifx (.call 12 (.cons (.v 0) (.cons (.v 4) (.cons (.v 1) (.nil))))) (.ix (.v 3) (.v 4)) (.dct [] .nil))) (.cons (.forI (.n 6) (.of (.ix (.ix (.v 2) (.v 4)) (.k (.int 1)))) (.cons (.ex (.call 16 (.cons (.ix (.v 3) (.v 6)) (.cons (.v 4) (.cons (.v 5) (.nil)))))) (.nil))) (.nil)))) (.cons (.ret (.bi .tuple (.lc (.bi .tuple (.bi .sortI (.v 8))) (.n 8) (.of (.v 3)) (.no) [8]))) (.nil)))
def c_first_double : SL := .cons (.forI (.t (.cons (.n 2) (.cons (.n 3) (.nil)))) (.en (.call 17 (.cons (.v 0) (.cons (.v 1) (.nil))))) (.cons (.forI (.t (.cons (.n 4) (.cons (.n 5) (.nil)))) (.of (.v 3)) (.cons (.ife (.and (.cmp .gt (.v 5) (.k (.int 1))) (.cmp .ne (.ix (.ix (.ix (.v 0) (.k (.int 3))) (.v 2)) (.k (.int 0))) (.k (.str "bit")))) (.cons (.ret (.tup (.cons (.v 2) (.cons (.v 4) (.nil))))) (.nil)) (.nil)) (.nil))) (.nil))) (.cons (.ret (.k .non)) (.nil))
def c_are_single : SL := .cons (.ret (.isN (.call 18 (.cons (.v 0) (.cons (.v 1) (.nil)))))) (.nil)
def c_do_fit : SL := .cons (.forI (.t (.cons (.n 4) (.cons (.n 5) (.nil)))) (.en (.call 15 (.cons (.v 0) (.cons (.v 1) (.cons (.v 3) (.nil)))))) (.cons (.ife (.and (.cmp .ne (.ix (.ix (.ix (.v 0) (.k (.int 3))) (.v 4)) (.k (.int 0))) (.k (.str "bit"))) (.cmp .gt (.op .add (.v 5) (.ix (.v 3) (.v 4))) (.v 2))) (.cons (.ret (.k (.bl false))) (.nil)) (.nil)) (.nil))) (.cons (.ret (.k (.bl true))) (.nil))
def c_law : SL := .cons (.set (.n 1) (.call 0 (.cons (.v 0) (.nil)))) (.cons (.forI (.n 2) (.r1 (.k (.int 3))) (.cons (.set (.t (.cons (.n 3) (.cons (.n 4) (.nil)))) (.tup (.cons (.call 4 (.cons (.v 1) (.cons (.op .add (.k (.int 1)) (.call 2 (.cons (.v 1) (.cons (.k (.int 5)) (.nil))))) (.nil)))) (.cons (.call 5 (.cons (.v 1) (.nil))) (.nil))))) (.cons (.set (.n 5) (.call 1 (.cons (.v 3) (.nil)))) (.cons (.set (.n 7) (.lc (.call 6 (.cons (.v 3) (.cons (.v 4) (.cons (.v 6) (.nil))))) (.n 6) (.r1 (.bi .len (.ix (.v 3) (.k (.int 3))))) (.no) [6])) (.cons (.ife (.not (.call 7 (.cons (.lst (.cons (.call 11 (.cons (.v 3) (.nil))) (.cons (.call 17 (.cons (.v 3) (.cons (.v 4) (.nil)))) (.nil)))) (.cons (.lst (.cons (.v 5) (.cons (.bi .tuple (.lc (.bi .tuple (.bi .sortI (.v 8))) (.n 8) (.of (.v 7)) (.no) [8])) (.nil)))) (.nil))))) (.cons (.ret (.k (.bl false))) (.nil)) (.nil)) (.cons (.set (.n 9) (.lst (.nil))) (.cons (.forI (.t (.cons (.n 6) (.cons (.n 8) (.nil)))) (.en (.v 7)) (.cons (.ex (.mth1 .extend (.v 9) (.lc (.tup (.cons (.v 6) (.cons (.v 16) (.nil)))) (.n 16) (.of (.bi .sortK (.v 8))) (.so (.and (.cmp .gt (.ix (.v 8) (.v 16)) (.k (.int 1))) (.cmp .ne (.ix (.ix (.ix (.v 3) (.k (.int 3))) (.v 6)) (.k (.int 0))) (.k (.str "bit"))))) [16]))) (.nil))) (.cons (.ife (.not (.call 7 (.cons (.lst (.cons (.call 18 (.cons (.v 3) (.cons (.v 4) (.nil)))) (.cons (.call 19 (.cons (.v 3) (.cons (.v 4) (.nil)))) (.nil)))) (.cons (.lst (.cons (.ifx (.cmp .ne (.v 9) (.lst (.nil))) (.ix (.v 9) (.k (.int 0))) (.k .non)) (.cons (.cmp .eq (.v 9) (.lst (.nil))) (.nil)))) (.nil))))) (.cons (.ret (.k (.bl false))) (.nil)) (.nil)) (.cons (.forI (.n 10) (.of (.tup (.cons (.k (.int 1)) (.cons (.k (.int 2)) (.nil))))) (.cons (.set (.n 11) (.k (.bl true))) (.cons (.forI (.n 12) (.of (.call 8 (.cons (.bi .len (.v 5)) (.cons (.v 10) (.nil))))) (.cons (.set (.n 13) (.lc (.bi .sum (.lc (.op .mul (.get2 (.v 8) (.v 16) (.k (.int 0))) (.ix (.v 12) (.v 16))) (.n 16) (.r1 (.bi .len (.v 5))) (.no) [16])) (.n 8) (.of (.v 7)) (.no) [8])) (.cons (.set (.n 14) (.cmp .eq (.lc (.v 17) (.t (.cons (.n 17) (.cons (.n 18) (.nil)))) (.en (.v 13)) (.so (.and (.cmp .ne (.ix (.ix (.ix (.v 3) (.k (.int 3))) (.v 17)) (.k (.int 0))) (.k (.str "bit"))) (.cmp .gt (.op .add (.v 18) (.ix (.v 12) (.v 17))) (.v 10)))) [17, 18]) (.lst (.nil)))) (.cons (.ife (.and (.cmp .eq (.call 2 (.cons (.v 1) (.cons (.k (.int 8)) (.nil)))) (.k (.int 0))) (.not (.call 7 (.cons (.call 15 (.cons (.v 3) (.cons (.v 4) (.cons (.v 12) (.nil))))) (.cons (.bi .tuple (.v 13)) (.nil)))))) (.cons (.ret (.k (.bl false))) (.nil)) (.nil)) (.cons (.ife (.and (.cmp .eq (.call 2 (.cons (.v 1) (.cons (.k (.int 4)) (.nil)))) (.k (.int 0))) (.not (.call 7 (.cons (.call 20 (.cons (.v 3) (.cons (.v 4) (.cons (.v 10) (.cons (.v 12) (.nil)))))) (.cons (.v 14) (.nil)))))) (.cons (.ret (.k (.bl false))) (.nil)) (.nil)) (.cons (.set (.n 11) (.and (.v 11) (.v 14))) (.nil))))))) (.cons (.ife (.cmp .ne (.v 11) (.cmp .eq (.v 9) (.lst (.nil)))) (.cons (.ret (.k (.bl false))) (.nil)) (.nil)) (.nil))))) (.cons (.forI (.n 15) (.of (.tup (.cons (.k .non) (.cons (.op .mul (.tup (.cons (.k (.int 0)) (.nil))) (.op .add (.bi .len (.v 5)) (.k (.int 1)))) (.cons (.op .mul (.lst (.cons (.k (.int 0)) (.nil))) (.bi .len (.v 5))) (.cons (.op .mul (.tup (.cons (.k (.int (-1))) (.nil))) (.bi .len (.v 5))) (.nil))))))) (.cons (.try_ (.cons (.ex (.call 15 (.cons (.v 3) (.cons (.v 4) (.cons (.v 15) (.nil)))))) (.cons (.ret (.k (.bl false))) (.nil))) 0 (.cons (.pass) (.nil))) (.nil))) (.nil))))))))))) (.cons (.ret (.k (.bl true))) (.nil)))

abbrev T__law_bag : Fns := Tab []
def f__law_bag (ds : List D) (st : Sto) : Out D := evF T__law_bag 2 c__law_bag ds st
abbrev T__law_spots : Fns := Tab [f__law_bag]
def f__law_spots (ds : List D) (st : Sto) : Out D := evF T__law_spots 5 c__law_spots ds st
abbrev T__law_take : Fns := Tab [f__law_bag, f__law_spots]
def f__law_take (ds : List D) (st : Sto) : Out D := evF T__law_take 7 c__law_take ds st
abbrev T__law_some : Fns := Tab [f__law_bag, f__law_spots, f__law_take]
def f__law_some (ds : List D) (st : Sto) : Out D := evF T__law_some 2 c__law_some ds st
abbrev T__law_net : Fns := Tab [f__law_bag, f__law_spots, f__law_take, f__law_some]
def f__law_net (ds : List D) (st : Sto) : Out D := evF T__law_net 8 c__law_net ds st
abbrev T__law_grades : Fns := Tab [f__law_bag, f__law_spots, f__law_take, f__law_some, f__law_net]
def f__law_grades (ds : List D) (st : Sto) : Out D := evF T__law_grades 1 c__law_grades ds st
abbrev T__law_roads : Fns := Tab [f__law_bag, f__law_spots, f__law_take, f__law_some, f__law_net, f__law_grades]
def f__law_roads (ds : List D) (st : Sto) : Out D := evF T__law_roads 10 c__law_roads ds st
abbrev T__law_alike : Fns := Tab [f__law_bag, f__law_spots, f__law_take, f__law_some, f__law_net, f__law_grades, f__law_roads]
def f__law_alike (ds : List D) (st : Sto) : Out D := evF T__law_alike 2 c__law_alike ds st
abbrev T__law_needles : Fns := Tab [f__law_bag, f__law_spots, f__law_take, f__law_some, f__law_net, f__law_grades, f__law_roads, f__law_alike]
def f__law_needles (ds : List D) (st : Sto) : Out D := evF T__law_needles 9 c__law_needles ds st
abbrev T_many_uses : Fns := Tab [f__law_bag, f__law_spots, f__law_take, f__law_some, f__law_net, f__law_grades, f__law_roads, f__law_alike, f__law_needles]
def f_many_uses (ds : List D) (st : Sto) : Out D := evF T_many_uses 1 c_many_uses ds st
abbrev T_inputs_of : Fns := Tab [f__law_bag, f__law_spots, f__law_take, f__law_some, f__law_net, f__law_grades, f__law_roads, f__law_alike, f__law_needles, f_many_uses]
def f_inputs_of (ds : List D) (st : Sto) : Out D := evF T_inputs_of 1 c_inputs_of ds st
abbrev T_spots_of : Fns := Tab [f__law_bag, f__law_spots, f__law_take, f__law_some, f__law_net, f__law_grades, f__law_roads, f__law_alike, f__law_needles, f_many_uses, f_inputs_of]
def f_spots_of (ds : List D) (st : Sto) : Out D := evF T_spots_of 5 c_spots_of ds st
abbrev T_is_near : Fns := Tab [f__law_bag, f__law_spots, f__law_take, f__law_some, f__law_net, f__law_grades, f__law_roads, f__law_alike, f__law_needles, f_many_uses, f_inputs_of, f_spots_of]
def f_is_near (ds : List D) (st : Sto) : Out D := evF T_is_near 3 c_is_near ds st
abbrev T_is_integer : Fns := Tab [f__law_bag, f__law_spots, f__law_take, f__law_some, f__law_net, f__law_grades, f__law_roads, f__law_alike, f__law_needles, f_many_uses, f_inputs_of, f_spots_of, f_is_near]
def f_is_integer (ds : List D) (st : Sto) : Out D := evF T_is_integer 1 c_is_integer ds st
abbrev T_is_count : Fns := Tab [f__law_bag, f__law_spots, f__law_take, f__law_some, f__law_net, f__law_grades, f__law_roads, f__law_alike, f__law_needles, f_many_uses, f_inputs_of, f_spots_of, f_is_near, f_is_integer]
def f_is_count (ds : List D) (st : Sto) : Out D := evF T_is_count 1 c_is_count ds st
abbrev T_asked_of : Fns := Tab [f__law_bag, f__law_spots, f__law_take, f__law_some, f__law_net, f__law_grades, f__law_roads, f__law_alike, f__law_needles, f_many_uses, f_inputs_of, f_spots_of, f_is_near, f_is_integer, f_is_count]
def f_asked_of (ds : List D) (st : Sto) : Out D := evF T_asked_of 10 c_asked_of ds st
abbrev T_add_ways : Fns := Tab [f__law_bag, f__law_spots, f__law_take, f__law_some, f__law_net, f__law_grades, f__law_roads, f__law_alike, f__law_needles, f_many_uses, f_inputs_of, f_spots_of, f_is_near, f_is_integer, f_is_count, f_asked_of]
def f_add_ways (ds : List D) (st : Sto) : Out D := evF T_add_ways 5 c_add_ways ds st
abbrev T_ways_of : Fns := Tab [f__law_bag, f__law_spots, f__law_take, f__law_some, f__law_net, f__law_grades, f__law_roads, f__law_alike, f__law_needles, f_many_uses, f_inputs_of, f_spots_of, f_is_near, f_is_integer, f_is_count, f_asked_of, f_add_ways]
def f_ways_of (ds : List D) (st : Sto) : Out D := evF T_ways_of 9 c_ways_of ds st
abbrev T_first_double : Fns := Tab [f__law_bag, f__law_spots, f__law_take, f__law_some, f__law_net, f__law_grades, f__law_roads, f__law_alike, f__law_needles, f_many_uses, f_inputs_of, f_spots_of, f_is_near, f_is_integer, f_is_count, f_asked_of, f_add_ways, f_ways_of]
def f_first_double (ds : List D) (st : Sto) : Out D := evF T_first_double 6 c_first_double ds st
abbrev T_are_single : Fns := Tab [f__law_bag, f__law_spots, f__law_take, f__law_some, f__law_net, f__law_grades, f__law_roads, f__law_alike, f__law_needles, f_many_uses, f_inputs_of, f_spots_of, f_is_near, f_is_integer, f_is_count, f_asked_of, f_add_ways, f_ways_of, f_first_double]
def f_are_single (ds : List D) (st : Sto) : Out D := evF T_are_single 2 c_are_single ds st
abbrev T_do_fit : Fns := Tab [f__law_bag, f__law_spots, f__law_take, f__law_some, f__law_net, f__law_grades, f__law_roads, f__law_alike, f__law_needles, f_many_uses, f_inputs_of, f_spots_of, f_is_near, f_is_integer, f_is_count, f_asked_of, f_add_ways, f_ways_of, f_first_double, f_are_single]
def f_do_fit (ds : List D) (st : Sto) : Out D := evF T_do_fit 6 c_do_fit ds st
abbrev T_law : Fns := Tab [f__law_bag, f__law_spots, f__law_take, f__law_some, f__law_net, f__law_grades, f__law_roads, f__law_alike, f__law_needles, f_many_uses, f_inputs_of, f_spots_of, f_is_near, f_is_integer, f_is_count, f_asked_of, f_add_ways, f_ways_of, f_first_double, f_are_single, f_do_fit]
def f_law (ds : List D) (st : Sto) : Out D := evF T_law 19 c_law ds st
def pmK (K : PySem.W.Frag) : Pm := ⟨K, fun _ => none, fun n => match n with | 0 => some (He.ga K "Nothing") | _ => none⟩
abbrev n__law_bag : List Str := ["script", "cell"]
abbrev n__law_spots : List Str := ["net", "rows", "node", "name", "value"]
abbrev n__law_take : List Str := ["bag", "many", "cell", "stirred", "value", "first", "second"]
abbrev n__law_some : List Str := ["bag", "things"]
abbrev n__law_net : List Str := ["bag", "many", "nodes", "lap", "word", "last", "told", "k"]
abbrev n__law_grades : List Str := ["bag"]
abbrev n__law_roads : List Str := ["net", "grades", "value", "spots", "found", "line", "number", "role", "values", "use"]
abbrev n__law_alike : List Str := ["found", "due"]
abbrev n__law_needles : List Str := ["many", "order", "rows", "k", "found", "one", "other", "x", "y"]
abbrev n_many_uses : List Str := ["node"]
abbrev n_inputs_of : List Str := ["node"]
abbrev n_spots_of : List Str := ["net", "found", "node", "value", "name"]
abbrev n_is_near : List Str := ["net", "number", "grades"]
abbrev n_is_integer : List Str := ["thing"]
abbrev n_is_count : List Str := ["thing"]
abbrev n_asked_of : List Str := ["net", "grades", "needles", "spots", "found", "number", "mine", "value", "_node", "one"]
abbrev n_add_ways : List Str := ["row", "number", "behind", "gadget", "many"]
abbrev n_ways_of : List Str := ["net", "grades", "spots", "found", "number", "behind", "value", "_node", "row"]
abbrev n_first_double : List Str := ["net", "grades", "value", "row", "gadget", "many"]
abbrev n_are_single : List Str := ["net", "grades"]
abbrev n_do_fit : List Str := ["net", "grades", "order", "needles", "value", "many"]
abbrev n_law : List Str := ["script", "bag", "turn", "net", "grades", "spots", "value", "roads", "row", "doubles", "order", "fits", "needles", "asked", "due", "bad", "number", "v", "many"]
section
variable {P : Program} {w : World} {K : PySem.W.Frag} {mg : Str → Option Value} {base : Heap} {f : Addr} {cdv : Value} {A : Around} {outer : List PySem.Env} {s : Shared} {H : Hp} {E : XK} {W : WX}
theorem b__law_bag (c : Cok (cxOf (L2.CX P w) P w K mg base n__law_bag "_law_bag" (defScope (top 22)) f cdv A outer s H E) (pmK K) W 0) (m_abs : mg "abs" = none) :
    SSs (cxOf (L2.CX P w) P w K mg base n__law_bag "_law_bag" (defScope (top 22)) f cdv A outer s H E) (pmK K) W T__law_bag (defBody (top 22)) c__law_bag :=
  ss_cons (ss_ret (s_lst (sa_cons (s_int) (sa_cons (s_int) (sa_cons (s_int) (sa_cons (s_lc (own := [("cell", 1)]) c (si_of c.hK (s_sl c (s_v 0) (po_no) (po_so (s_int)))) (blk_of (by kernel_rfl)) (by decide +kernel) (fun s1 H1 C1 l1 q1 => sg_n 1 (c.blk s1 H1 _ _ q1).nd) (fun s1 H1 C1 l1 q1 => sc_no) (fun s1 H1 C1 l1 q1 => s_biB (b := .abs) (bs_abs) (by rfl) m_abs (by decide +kernel) (s_v 1))) (sa_nil))))))) (ss_nil)
theorem b__law_spots (c : Cok (cxOf (L2.CX P w) P w K mg base n__law_spots "_law_spots" (defScope (top 29)) f cdv A outer s H E) (pmK K) W 0)  :
    SSs (cxOf (L2.CX P w) P w K mg base n__law_spots "_law_spots" (defScope (top 29)) f cdv A outer s H E) (pmK K) W T__law_spots (defBody (top 29)) c__law_spots :=
  ss_cons (ss_setLc (i := 1) (own := [("node", 2)]) c rfl rfl rfl (si_of c.hK (s_ix c (s_v 0) (s_int))) (blk_of (by kernel_rfl)) (by decide +kernel) (fun s3 H3 C3 l3 q3 => sg_n 2 (c.blk s3 H3 _ _ q3).nd) (fun s3 H3 C3 l3 q3 => sc_no) (fun s3 H3 C3 l3 q3 => s_tup (sa_cons (s_ix (c.blk s3 H3 _ _ q3) (s_v 2) (s_int)) (sa_cons (s_ifx (st_cmp (o := .isin) (ops_in (c.blk s3 H3 _ _ q3).hK) (s_ix (c.blk s3 H3 _ _ q3) (s_v 2) (s_int)) (s_tup (sa_cons (s_str) (sa_cons (s_str) (sa_cons (s_str) (sa_cons (s_str) (sa_nil)))))) (by rfl)) (s_sl (c.blk s3 H3 _ _ q3) (s_v 2) (po_so (s_int)) (po_no)) (s_tup (sa_nil))) (sa_nil))))) (ss_cons (ss_ret (s_op (o := .add) (ops_add c.hK) (s_op (o := .add) (ops_add c.hK) (s_v 1) (s_lc (own := [("value", 4)]) c (si_of c.hK (s_ix c (s_v 0) (s_int))) (blk_of (by kernel_rfl)) (by decide +kernel) (fun s1 H1 C1 l1 q1 => sg_n 4 (c.blk s1 H1 _ _ q1).nd) (fun s1 H1 C1 l1 q1 => sc_no) (fun s1 H1 C1 l1 q1 => s_tup (sa_cons (s_str) (sa_cons (s_tup (sa_cons (s_v 4) (sa_nil))) (sa_nil)))))) (s_lc (own := [("name", 3), ("value", 4)]) c (si_of c.hK (s_ix c (s_v 0) (s_int))) (blk_of (by kernel_rfl)) (by decide +kernel) (fun s2 H2 C2 l2 q2 => sg_t (c.blk s2 H2 _ _ q2) (sgs_cons (sg_n 3 (c.blk s2 H2 _ _ q2).nd) (sgs_cons (sg_n 4 (c.blk s2 H2 _ _ q2).nd) (sgs_nil)))) (fun s2 H2 C2 l2 q2 => sc_no) (fun s2 H2 C2 l2 q2 => s_tup (sa_cons (s_str) (sa_cons (s_tup (sa_cons (s_v 4) (sa_nil))) (sa_nil))))))) (ss_nil))
theorem b__law_take (c : Cok (cxOf (L2.CX P w) P w K mg base n__law_take "_law_take" (defScope (top 23)) f cdv A outer s H E) (pmK K) W 0) (m_int : mg "int" = none) :
    SSs (cxOf (L2.CX P w) P w K mg base n__law_take "_law_take" (defScope (top 23)) f cdv A outer s H E) (pmK K) W T__law_take (defBody (top 23)) c__law_take :=
  ss_cons (ss_ife (st_cmp (o := .eq) (ops_eq c.hK c.u64) (s_ix c (s_v 0) (s_int)) (s_int) (by rfl)) (ss_cons (ss_set (s_ix c (s_op (o := .add) (ops_add c.hK) (s_sl c (s_ix c (s_v 0) (s_int)) (po_so (s_ix c (s_v 0) (s_int))) (po_no)) (s_lst (sa_cons (s_int) (sa_nil)))) (s_int)) (sg_n 2 c.nd)) (ss_cons (ss_augIx (o := .add) c pip_add (s_v 0) (s_int) (s_int)) (ss_cons (ss_ife (st_cmp (o := .ge) ops_ge (s_v 2) (s_op (o := .pow) (ops_pow) (s_int) (s_int)) (by rfl)) (ss_cons (ss_setIx c (s_v 0) (s_int) (s_v 2)) (ss_nil)) (ss_nil)) (ss_cons (ss_set (s_op (o := .add) (ops_add c.hK) (s_op (o := .add) (ops_add c.hK) (s_op (o := .mul) (ops_mul c.hK) (s_ix c (s_v 0) (s_int)) (s_int)) (s_op (o := .mod) (ops_mod) (s_biT (b := .int) (bs_int) (by rfl) m_int (by decide +kernel) (s_v 2)) (s_int))) (s_op (o := .mul) (ops_mul c.hK) (s_int) (s_ix c (s_v 0) (s_int)))) (sg_n 3 c.nd)) (ss_cons (ss_setIx c (s_v 0) (s_int) (s_op (o := .mod) (ops_mod) (s_biT (b := .int) (bs_int) (by rfl) m_int (by decide +kernel) (s_v 3)) (s_int))) (ss_nil)))))) (ss_nil)) (ss_cons (ss_ife (st_cmp (o := .gt) ops_gt (s_ix c (s_v 0) (s_int)) (s_int) (by rfl)) (ss_cons (ss_set (s_op (o := .mod) (ops_mod) (s_biT (b := .int) (bs_int) (by rfl) m_int (by decide +kernel) (s_ix c (s_v 0) (s_int))) (s_v 1)) (sg_n 4 c.nd)) (ss_cons (ss_setIx c (s_v 0) (s_int) (s_op (o := .fdiv) (ops_fdiv) (s_biT (b := .int) (bs_int) (by rfl) m_int (by decide +kernel) (s_ix c (s_v 0) (s_int))) (s_v 1))) (ss_cons (ss_ret (s_v 4)) (ss_nil)))) (ss_nil)) (ss_cons (ss_set (s_op (o := .mod) (ops_mod) (s_biT (b := .int) (bs_int) (by rfl) m_int (by decide +kernel) (s_op (o := .mul) (ops_mul c.hK) (s_op (o := .add) (ops_add c.hK) (s_ix c (s_v 0) (s_int)) (s_int)) (s_int))) (s_int)) (sg_n 5 c.nd)) (ss_cons (ss_set (s_op (o := .mod) (ops_mod) (s_biT (b := .int) (bs_int) (by rfl) m_int (by decide +kernel) (s_op (o := .mul) (ops_mul c.hK) (s_op (o := .mod) (ops_mod) (s_biT (b := .int) (bs_int) (by rfl) m_int (by decide +kernel) (s_op (o := .mul) (ops_mul c.hK) (s_v 5) (s_v 5))) (s_int)) (s_int))) (s_int)) (sg_n 6 c.nd)) (ss_cons (ss_ret (s_op (o := .mod) (ops_mod) (s_biT (b := .int) (bs_int) (by rfl) m_int (by decide +kernel) (s_op (o := .fdiv) (ops_fdiv) (s_v 6) (s_int))) (s_v 1))) (ss_nil)))))
theorem b__law_some (c : Cok (cxOf (L2.CX P w) P w K mg base n__law_some "_law_some" (defScope (top 24)) f cdv A outer s H E) (pmK K) W 1) (G__law_take : CalG P w K mg base (pmK K) "_law_take" 1 ["bag", "many"] f__law_take) (m_len : mg "len" = none) :
    SSs (cxOf (L2.CX P w) P w K mg base n__law_some "_law_some" (defScope (top 24)) f cdv A outer s H E) (pmK K) W T__law_some (defBody (top 24)) c__law_some :=
  ss_cons (ss_ret (s_ix c (s_v 1) (s_fn c G__law_take rfl (by decide) (by rfl) (sa_cons (s_v 0) (sa_cons (s_biB (b := .len) (bs_len c.hK) (by rfl) m_len (by decide +kernel) (s_v 1)) (sa_nil)))))) (ss_nil)
theorem b__law_net (c : Cok (cxOf (L2.CX P w) P w K mg base n__law_net "_law_net" (defScope (top 28)) f cdv A outer s H E) (pmK K) W 2) (G__law_take : CalG P w K mg base (pmK K) "_law_take" 1 ["bag", "many"] f__law_take) (G__law_some : CalG P w K mg base (pmK K) "_law_some" 2 ["bag", "things"] f__law_some) (m_len : mg "len" = none) (m_tuple : mg "tuple" = none) (m_range : mg "range" = none) :
    SSs (cxOf (L2.CX P w) P w K mg base n__law_net "_law_net" (defScope (top 28)) f cdv A outer s H E) (pmK K) W T__law_net (defBody (top 28)) c__law_net :=
  ss_cons (ss_set (s_lst (sa_cons (s_tup (sa_cons (s_str) (sa_cons (s_str) (sa_nil)))) (sa_cons (s_tup (sa_cons (s_str) (sa_cons (s_str) (sa_nil)))) (sa_cons (s_tup (sa_cons (s_str) (sa_cons (s_str) (sa_nil)))) (sa_nil))))) (sg_n 2 c.nd)) (ss_cons (ss_forI c (si_r1 (by rfl) m_range (s_v 1)) (sg_n 3 c.nd) (ss_cons (ss_set (s_tup (sa_cons (s_fn c G__law_some rfl (by decide) (by rfl) (sa_cons (s_v 0) (sa_cons (s_lst (sa_cons (s_str) (sa_cons (s_str) (sa_cons (s_str) (sa_cons (s_str) (sa_cons (s_str) (sa_cons (s_str) (sa_nil)))))))) (sa_nil)))) (sa_cons (s_biB (b := .len) (bs_len c.hK) (by rfl) m_len (by decide +kernel) (s_v 2)) (sa_nil)))) (sg_t c (sgs_cons (sg_n 4 c.nd) (sgs_cons (sg_n 5 c.nd) (sgs_nil))))) (ss_cons (ss_ife (st_cmp (o := .eq) (ops_eq c.hK c.u64) (s_v 4) (s_str) (by rfl)) (ss_cons (ss_ex (s_mth1 (m := .append) ms_append PySem.F.slot_list_append PySem.F.type_list_append (s_v 2) (s_tup (sa_cons (s_str) (sa_cons (s_fn c G__law_take rfl (by decide) (by rfl) (sa_cons (s_v 0) (sa_cons (s_int) (sa_nil)))) (sa_nil)))))) (ss_nil)) (ss_cons (ss_ex (s_mth1 (m := .append) ms_append PySem.F.slot_list_append PySem.F.type_list_append (s_v 2) (s_op (o := .add) (ops_add c.hK) (s_tup (sa_cons (s_v 4) (sa_nil))) (s_biT (b := .tuple) (bs_tuple c.hK) (by rfl) m_tuple (by decide +kernel) (s_lc (own := [("k", 7)]) c (si_r1 (by rfl) m_range (s_ifx (st_cmp (o := .eq) (ops_eq c.hK c.u64) (s_v 4) (s_str) (by rfl)) (s_int) (s_int))) (blk_of (by kernel_rfl)) (by decide +kernel) (fun s2 H2 C2 l2 q2 => sg_n 7 (c.blk s2 H2 _ _ q2).nd) (fun s2 H2 C2 l2 q2 => sc_no) (fun s2 H2 C2 l2 q2 => s_fn (c.blk s2 H2 _ _ q2) G__law_take rfl (by decide) (by rfl) (sa_cons (s_v 0) (sa_cons (s_v 5) (sa_nil))))))))) (ss_nil))) (ss_nil)))) (ss_cons (ss_set (s_biT (b := .tuple) (bs_tuple c.hK) (by rfl) m_tuple (by decide +kernel) (s_lc (own := [("k", 7)]) c (si_r1 (by rfl) m_range (s_fn c G__law_take rfl (by decide) (by rfl) (sa_cons (s_v 0) (sa_cons (s_int) (sa_nil))))) (blk_of (by kernel_rfl)) (by decide +kernel) (fun s1 H1 C1 l1 q1 => sg_n 7 (c.blk s1 H1 _ _ q1).nd) (fun s1 H1 C1 l1 q1 => sc_no) (fun s1 H1 C1 l1 q1 => s_fn (c.blk s1 H1 _ _ q1) G__law_take rfl (by decide) (by rfl) (sa_cons (s_v 0) (sa_cons (s_biB (b := .len) (bs_len (c.blk s1 H1 _ _ q1).hK) (by rfl) m_len (by decide +kernel) (s_v 2)) (sa_nil)))))) (sg_n 6 c.nd)) (ss_cons (ss_ret (s_tup (sa_cons (s_tup (sa_cons (s_str) (sa_cons (s_str) (sa_nil)))) (sa_cons (s_tup (sa_cons (s_str) (sa_cons (s_str) (sa_nil)))) (sa_cons (s_tup (sa_cons (s_str) (sa_nil))) (sa_cons (s_biT (b := .tuple) (bs_tuple c.hK) (by rfl) m_tuple (by decide +kernel) (s_v 2)) (sa_cons (s_v 6) (sa_cons (s_tup (sa_cons (s_tup (sa_cons (s_str) (sa_cons (s_fn c G__law_take rfl (by decide) (by rfl) (sa_cons (s_v 0) (sa_cons (s_biB (b := .len) (bs_len c.hK) (by rfl) m_len (by decide +kernel) (s_v 2)) (sa_nil)))) (sa_nil)))) (sa_nil))) (sa_nil))))))))) (ss_nil))))
theorem b__law_grades (c : Cok (cxOf (L2.CX P w) P w K mg base n__law_grades "_law_grades" (defScope (top 30)) f cdv A outer s H E) (pmK K) W 2) (G__law_some : CalG P w K mg base (pmK K) "_law_some" 2 ["bag", "things"] f__law_some) :
    SSs (cxOf (L2.CX P w) P w K mg base n__law_grades "_law_grades" (defScope (top 30)) f cdv A outer s H E) (pmK K) W T__law_grades (defBody (top 30)) c__law_grades :=
  ss_cons (ss_ret (s_dct (sp_cons (s_fn c G__law_some rfl (by decide) (by rfl) (sa_cons (s_v 0) (sa_cons (s_lst (sa_cons (s_str) (sa_cons (s_str) (sa_nil)))) (sa_nil)))) (sp_cons (s_fn c G__law_some rfl (by decide) (by rfl) (sa_cons (s_v 0) (sa_cons (s_lst (sa_cons (s_str) (sa_cons (s_str) (sa_nil)))) (sa_nil)))) (sp_cons (s_fn c G__law_some rfl (by decide) (by rfl) (sa_cons (s_v 0) (sa_cons (s_lst (sa_cons (s_str) (sa_cons (s_str) (sa_cons (s_str) (sa_nil))))) (sa_nil)))) (sp_cons (s_str) (sp_cons (s_str) (sp_nil)))))))) (ss_nil)
theorem b__law_roads (c : Cok (cxOf (L2.CX P w) P w K mg base n__law_roads "_law_roads" (defScope (top 31)) f cdv A outer s H E) (pmK K) W 1) (G__law_spots : CalG P w K mg base (pmK K) "_law_spots" 1 ["net"] f__law_spots) (m_len : mg "len" = none) (m_enumerate : mg "enumerate" = none) :
    SSs (cxOf (L2.CX P w) P w K mg base n__law_roads "_law_roads" (defScope (top 31)) f cdv A outer s H E) (pmK K) W T__law_roads (defBody (top 31)) c__law_roads :=
  ss_cons (ss_par3 (i := 3) (j := 4) (l := 5) c (ha := sa_cons (s_fn c G__law_spots rfl (by decide) (by rfl) (sa_cons (s_v 0) (sa_nil))) (sa_cons (s_dnew) (sa_cons (s_lst (sa_cons (s_v 2) (sa_nil))) (sa_nil))))) (ss_cons (ss_wh c (st_cmp (o := .ne) (ops_ne c.hK c.u64) (s_v 5) (s_lst (sa_nil)) (by rfl)) (ss_cons (ss_set (s_pop (s_v 5)) (sg_n 2 c.nd)) (ss_cons (ss_forI c (si_en c.hK (by rfl) m_enumerate (s_v 3)) (sg_t c (sgs_cons (sg_n 6 c.nd) (sgs_cons (sg_t c (sgs_cons (sg_n 7 c.nd) (sgs_cons (sg_n 8 c.nd) (sgs_nil)))) (sgs_nil)))) (ss_cons (ss_forI c (si_of c.hK (s_v 8)) (sg_n 9 c.nd) (ss_cons (ss_ife (st_cmp (o := .eq) (ops_eq c.hK c.u64) (s_v 9) (s_v 2) (by rfl)) (ss_cons (ss_setIx c (s_v 4) (s_v 6) (s_op (o := .add) (ops_add c.hK) (s_get2 c (s_v 4) (s_v 6) (s_int)) (s_int))) (ss_cons (ss_ife (st_w (sw_and (st_cmp (o := .lt) ops_lt (s_v 6) (s_biB (b := .len) (bs_len c.hK) (by rfl) m_len (by decide +kernel) (s_ix c (s_v 0) (s_int))) (by rfl)) (sw_and1 (st_cmp (o := .eq) (ops_eq c.hK c.u64) (s_ix c (s_v 1) (s_v 7)) (s_str) (by rfl))))) (ss_cons (ss_ex (s_mth1 (m := .append) ms_append PySem.F.slot_list_append PySem.F.type_list_append (s_v 5) (s_v 6))) (ss_nil)) (ss_nil)) (ss_nil))) (ss_nil)) (ss_nil))) (ss_nil))) (ss_nil)))) (ss_cons (ss_ret (s_v 4)) (ss_nil)))
theorem b__law_alike (c : Cok (cxOf (L2.CX P w) P w K mg base n__law_alike "_law_alike" (defScope (top 25)) f cdv A outer s H E) (pmK K) W 0) (m_repr : mg "repr" = none) :
    SSs (cxOf (L2.CX P w) P w K mg base n__law_alike "_law_alike" (defScope (top 25)) f cdv A outer s H E) (pmK K) W T__law_alike (defBody (top 25)) c__law_alike :=
  ss_cons (ss_ret (s_and c.hK (s_cmp (o := .eq) (ops_eq c.hK c.u64) (s_biB (b := .repr) (bs_repr c.hK c.gd c.u80) (by rfl) m_repr (by decide +kernel) (s_v 0)) (s_biB (b := .repr) (bs_repr c.hK c.gd c.u80) (by rfl) m_repr (by decide +kernel) (s_v 1)) (by rfl)) (s_one (s_cmp (o := .eq) (ops_eq c.hK c.u64) (s_v 0) (s_v 1) (by rfl))))) (ss_nil)
theorem b__law_needles (c : Cok (cxOf (L2.CX P w) P w K mg base n__law_needles "_law_needles" (defScope (top 32)) f cdv A outer s H E) (pmK K) W 0) (m_tuple : mg "tuple" = none) (m_zip : mg "zip" = none) (m_range : mg "range" = none) :
    SSs (cxOf (L2.CX P w) P w K mg base n__law_needles "_law_needles" (defScope (top 32)) f cdv A outer s H E) (pmK K) W T__law_needles (defBody (top 32)) c__law_needles :=
  ss_cons (ss_set (s_lst (sa_cons (s_op (o := .mul) (ops_mul c.hK) (s_tup (sa_cons (s_int) (sa_nil))) (s_v 0)) (sa_nil))) (sg_n 2 c.nd)) (ss_cons (ss_forI c (si_r1 (by rfl) m_range (s_v 0)) (sg_n 3 c.nd) (ss_cons (ss_ex (s_mth1 (m := .append) ms_append PySem.F.slot_list_append PySem.F.type_list_append (s_v 2) (s_op (o := .add) (ops_add c.hK) (s_op (o := .add) (ops_add c.hK) (s_op (o := .mul) (ops_mul c.hK) (s_tup (sa_cons (s_int) (sa_nil))) (s_v 3)) (s_tup (sa_cons (s_int) (sa_nil)))) (s_op (o := .mul) (ops_mul c.hK) (s_tup (sa_cons (s_int) (sa_nil))) (s_op (o := .sub) (ops_sub) (s_op (o := .sub) (ops_sub) (s_v 0) (s_v 3)) (s_int)))))) (ss_nil))) (ss_cons (ss_ife (st_cmp (o := .eq) (ops_eq c.hK c.u64) (s_v 1) (s_int) (by rfl)) (ss_cons (ss_ret (s_v 2)) (ss_nil)) (ss_nil)) (ss_cons (ss_set (s_lst (sa_nil)) (sg_n 4 c.nd)) (ss_cons (ss_forI c (si_of c.hK (s_v 2)) (sg_n 5 c.nd) (ss_cons (ss_ex (s_mth1 (m := .extend) ms_extend PySem.F.slot_list_extend PySem.F.type_list_extend (s_v 4) (s_lc (own := [("other", 6)]) c (si_of c.hK (s_v 2)) (blk_of (by kernel_rfl)) (by decide +kernel) (fun s1 H1 C1 l1 q1 => sg_n 6 (c.blk s1 H1 _ _ q1).nd) (fun s1 H1 C1 l1 q1 => sc_no) (fun s1 H1 C1 l1 q1 => s_biT (b := .tuple) (bs_tuple (c.blk s1 H1 _ _ q1).hK) (by rfl) m_tuple (by decide +kernel) (s_lc (own := [("x", 7), ("y", 8)]) (c.blk s1 H1 _ _ q1) (si_zi (c.blk s1 H1 _ _ q1).hK (by rfl) m_zip (s_v 5) (s_v 6)) (blk_of (by kernel_rfl)) (by decide +kernel) (fun s2 H2 C2 l2 q2 => sg_t ((c.blk s1 H1 _ _ q1).blk s2 H2 _ _ q2) (sgs_cons (sg_n 7 ((c.blk s1 H1 _ _ q1).blk s2 H2 _ _ q2).nd) (sgs_cons (sg_n 8 ((c.blk s1 H1 _ _ q1).blk s2 H2 _ _ q2).nd) (sgs_nil)))) (fun s2 H2 C2 l2 q2 => sc_no) (fun s2 H2 C2 l2 q2 => s_op (o := .add) (ops_add ((c.blk s1 H1 _ _ q1).blk s2 H2 _ _ q2).hK) (s_v 7) (s_v 8))))))) (ss_nil))) (ss_cons (ss_ret (s_v 4)) (ss_nil))))))
theorem b_many_uses (c : Cok (cxOf (L2.CX P w) P w K mg base n_many_uses "many_uses" (defScope (top 4)) f cdv A outer s H E) (pmK K) W 0) (g_UNARY : mg "UNARY" = some (.ref (He.ga K "UNARY"))) (t_UNARY : He.tupB K "UNARY" ((["fresh", "not"] : List Str).map He.Dv.str) = true) (g_BINARY : mg "BINARY" = some (.ref (He.ga K "BINARY"))) (t_BINARY : He.tupB K "BINARY" ((["and", "xor"] : List Str).map He.Dv.str) = true) :
    SSs (cxOf (L2.CX P w) P w K mg base n_many_uses "many_uses" (defScope (top 4)) f cdv A outer s H E) (pmK K) W T_many_uses (defBody (top 4)) c_many_uses :=
  ss_cons (ss_ife (st_cmp (o := .isin) (ops_in c.hK) (s_ix c (s_v 0) (s_int)) (s_gtup c (by rfl) g_BINARY t_BINARY) (by rfl)) (ss_cons (ss_ret (s_int)) (ss_nil)) (ss_nil)) (ss_cons (ss_ret (s_ifx (st_cmp (o := .isin) (ops_in c.hK) (s_ix c (s_v 0) (s_int)) (s_gtup c (by rfl) g_UNARY t_UNARY) (by rfl)) (s_int) (s_int))) (ss_nil))
theorem b_inputs_of (c : Cok (cxOf (L2.CX P w) P w K mg base n_inputs_of "inputs_of" (defScope (top 5)) f cdv A outer s H E) (pmK K) W 1) (G_many_uses : CalG P w K mg base (pmK K) "many_uses" 1 ["node"] f_many_uses) (m_tuple : mg "tuple" = none) :
    SSs (cxOf (L2.CX P w) P w K mg base n_inputs_of "inputs_of" (defScope (top 5)) f cdv A outer s H E) (pmK K) W T_inputs_of (defBody (top 5)) c_inputs_of :=
  ss_cons (ss_ret (s_biT (b := .tuple) (bs_tuple c.hK) (by rfl) m_tuple (by decide +kernel) (s_sl c (s_v 0) (po_so (s_int)) (po_so (s_op (o := .add) (ops_add c.hK) (s_int) (s_fn c G_many_uses rfl (by decide) (by rfl) (sa_cons (s_v 0) (sa_nil)))))))) (ss_nil)
theorem b_spots_of (c : Cok (cxOf (L2.CX P w) P w K mg base n_spots_of "spots_of" (defScope (top 6)) f cdv A outer s H E) (pmK K) W 2) (G_inputs_of : CalG P w K mg base (pmK K) "inputs_of" 2 ["node"] f_inputs_of) :
    SSs (cxOf (L2.CX P w) P w K mg base n_spots_of "spots_of" (defScope (top 6)) f cdv A outer s H E) (pmK K) W T_spots_of (defBody (top 6)) c_spots_of :=
  ss_cons (ss_setLc (i := 1) (own := [("node", 2)]) c rfl rfl rfl (si_of c.hK (s_ix c (s_v 0) (s_int))) (blk_of (by kernel_rfl)) (by decide +kernel) (fun s3 H3 C3 l3 q3 => sg_n 2 (c.blk s3 H3 _ _ q3).nd) (fun s3 H3 C3 l3 q3 => sc_no) (fun s3 H3 C3 l3 q3 => s_tup (sa_cons (s_ix (c.blk s3 H3 _ _ q3) (s_v 2) (s_int)) (sa_cons (s_fn (c.blk s3 H3 _ _ q3) G_inputs_of rfl (by decide) (by rfl) (sa_cons (s_v 2) (sa_nil))) (sa_nil))))) (ss_cons (ss_ex (s_mth1 (m := .extend) ms_extend PySem.F.slot_list_extend PySem.F.type_list_extend (s_v 1) (s_lc (own := [("value", 3)]) c (si_of c.hK (s_ix c (s_v 0) (s_int))) (blk_of (by kernel_rfl)) (by decide +kernel) (fun s2 H2 C2 l2 q2 => sg_n 3 (c.blk s2 H2 _ _ q2).nd) (fun s2 H2 C2 l2 q2 => sc_no) (fun s2 H2 C2 l2 q2 => s_tup (sa_cons (s_str) (sa_cons (s_tup (sa_cons (s_v 3) (sa_nil))) (sa_nil))))))) (ss_cons (ss_ret (s_op (o := .add) (ops_add c.hK) (s_v 1) (s_lc (own := [("name", 4), ("value", 3)]) c (si_of c.hK (s_ix c (s_v 0) (s_int))) (blk_of (by kernel_rfl)) (by decide +kernel) (fun s1 H1 C1 l1 q1 => sg_t (c.blk s1 H1 _ _ q1) (sgs_cons (sg_n 4 (c.blk s1 H1 _ _ q1).nd) (sgs_cons (sg_n 3 (c.blk s1 H1 _ _ q1).nd) (sgs_nil)))) (fun s1 H1 C1 l1 q1 => sc_no) (fun s1 H1 C1 l1 q1 => s_tup (sa_cons (s_str) (sa_cons (s_tup (sa_cons (s_v 3) (sa_nil))) (sa_nil))))))) (ss_nil)))
theorem b_is_near (c : Cok (cxOf (L2.CX P w) P w K mg base n_is_near "is_near" (defScope (top 8)) f cdv A outer s H E) (pmK K) W 0) (m_len : mg "len" = none) :
    SSs (cxOf (L2.CX P w) P w K mg base n_is_near "is_near" (defScope (top 8)) f cdv A outer s H E) (pmK K) W T_is_near (defBody (top 8)) c_is_near :=
  ss_cons (ss_ife (st_w (sw_or (st_cmp (o := .ge) ops_ge (s_v 1) (s_biB (b := .len) (bs_len c.hK) (by rfl) m_len (by decide +kernel) (s_ix c (s_v 0) (s_int))) (by rfl)) (sw_or1 (st_cmp (o := .eq) (ops_eq c.hK c.u64) (s_ix c (s_ix c (s_ix c (s_v 0) (s_int)) (s_v 1)) (s_int)) (s_str) (by rfl))))) (ss_cons (ss_ret (s_bl)) (ss_nil)) (ss_nil)) (ss_cons (ss_ret (s_cmp (o := .eq) (ops_eq c.hK c.u64) (s_get1 c (s_v 2) (s_ix c (s_ix c (s_ix c (s_v 0) (s_int)) (s_v 1)) (s_int))) (s_str) (by rfl))) (ss_nil))
theorem b_is_integer (c : Cok (cxOf (L2.CX P w) P w K mg base n_is_integer "is_integer" (defScope (top 16)) f cdv A outer s H E) (pmK K) W 0) (m_isinstance : mg "isinstance" = none) (m_int : mg "int" = none) (m_bool : mg "bool" = none) :
    SSs (cxOf (L2.CX P w) P w K mg base n_is_integer "is_integer" (defScope (top 16)) f cdv A outer s H E) (pmK K) W T_is_integer (defBody (top 16)) c_is_integer :=
  ss_cons (ss_ret (s_and c.hK (s_is (T := "int") c.hK (by rfl) m_isinstance (by decide +kernel) (s_v 0) (pe_bltn (v := .ty "int") (by rfl) m_int (by decide +kernel) rfl)) (s_one (s_not c.hK (s_is (T := "bool") c.hK (by rfl) m_isinstance (by decide +kernel) (s_v 0) (pe_bltn (v := .ty "bool") (by rfl) m_bool (by decide +kernel) rfl)))))) (ss_nil)
theorem b_is_count (c : Cok (cxOf (L2.CX P w) P w K mg base n_is_count "is_count" (defScope (top 17)) f cdv A outer s H E) (pmK K) W 1) (G_is_integer : CalG P w K mg base (pmK K) "is_integer" 1 ["thing"] f_is_integer) :
    SSs (cxOf (L2.CX P w) P w K mg base n_is_count "is_count" (defScope (top 17)) f cdv A outer s H E) (pmK K) W T_is_count (defBody (top 17)) c_is_count :=
  ss_cons (ss_ret (s_and c.hK (s_fn c G_is_integer rfl (by decide) (by rfl) (sa_cons (s_v 0) (sa_nil))) (s_one (s_cmp (o := .ge) ops_ge (s_v 0) (s_int) (by rfl))))) (ss_nil)
theorem b_asked_of (c : Cok (cxOf (L2.CX P w) P w K mg base n_asked_of "asked_of" (defScope (top 19)) f cdv A outer s H E) (pmK K) W 3) (G_is_near : CalG P w K mg base (pmK K) "is_near" 1 ["net", "number", "grades"] f_is_near) (G_is_count : CalG P w K mg base (pmK K) "is_count" 2 ["thing"] f_is_count) (G_spots_of : CalG P w K mg base (pmK K) "spots_of" 3 ["net"] f_spots_of) (m_tuple : mg "tuple" = none) (m_range : mg "range" = none) (m_len : mg "len" = none) (m_isinstance : mg "isinstance" = none) (m_all : mg "all" = none) (g_Nothing : mg "Nothing" = some (.ref (He.ga K "Nothing"))) (e_Nothing : (He.Fa.exc "Nothing").ok K = true) (x_Nothing : PySem.W.exmOne K (.ref (He.ga K "Nothing")) (.ref (He.ga K "Nothing")) = some true) :
    SSs (cxOf (L2.CX P w) P w K mg base n_asked_of "asked_of" (defScope (top 19)) f cdv A outer s H E) (pmK K) W T_asked_of (defBody (top 19)) c_asked_of :=
  ss_cons (ss_set (s_fn c G_spots_of rfl (by decide) (by rfl) (sa_cons (s_v 0) (sa_nil))) (sg_n 3 c.nd)) (ss_cons (ss_ife (st_w (sw_or (st_not (st_val c.hK (s_is (T := "tuple") c.hK (by rfl) m_isinstance (by decide +kernel) (s_v 2) (pe_bltn (v := .ty "tuple") (by rfl) m_tuple (by decide +kernel) rfl)))) (sw_or (st_cmp (o := .ne) (ops_ne c.hK c.u64) (s_biB (b := .len) (bs_len c.hK) (by rfl) m_len (by decide +kernel) (s_v 2)) (s_biB (b := .len) (bs_len c.hK) (by rfl) m_len (by decide +kernel) (s_v 3)) (by rfl)) (sw_or1 (st_not (st_val c.hK (s_biB (b := .all) (bs_all c.calm) (by rfl) m_all (by decide +kernel) (s_lc (own := [("one", 9)]) c (si_of c.hK (s_v 2)) (blk_of (by kernel_rfl)) (by decide +kernel) (fun s2 H2 C2 l2 q2 => sg_n 9 (c.blk s2 H2 _ _ q2).nd) (fun s2 H2 C2 l2 q2 => sc_no) (fun s2 H2 C2 l2 q2 => s_fn (c.blk s2 H2 _ _ q2) G_is_count rfl (by decide) (by rfl) (sa_cons (s_v 9) (sa_nil))))))))))) (ss_cons (ss_raise c (pmk_exc K rfl e_Nothing g_Nothing (by rfl)) rfl) (ss_nil)) (ss_nil)) (ss_cons (ss_setLc (i := 4) (own := [("_node", 8)]) c rfl rfl rfl (si_of c.hK (s_ix c (s_v 0) (s_int))) (blk_of (by kernel_rfl)) (by decide +kernel) (fun s1 H1 C1 l1 q1 => sg_n 8 (c.blk s1 H1 _ _ q1).nd) (fun s1 H1 C1 l1 q1 => sc_no) (fun s1 H1 C1 l1 q1 => s_int)) (ss_cons (ss_forI c (si_r3 (by rfl) m_range (s_op (o := .sub) (ops_sub) (s_biB (b := .len) (bs_len c.hK) (by rfl) m_len (by decide +kernel) (s_v 3)) (s_int)) (s_neg) (s_neg)) (sg_n 5 c.nd) (ss_cons (ss_set (s_op (o := .add) (ops_add c.hK) (s_ix c (s_v 2) (s_v 5)) (s_ifx (st_val c.hK (s_fn c G_is_near rfl (by decide) (by rfl) (sa_cons (s_v 0) (sa_cons (s_v 5) (sa_cons (s_v 1) (sa_nil)))))) (s_ix c (s_v 4) (s_v 5)) (s_int))) (sg_n 6 c.nd)) (ss_cons (ss_forI c (si_of c.hK (s_ix c (s_ix c (s_v 3) (s_v 5)) (s_int))) (sg_n 7 c.nd) (ss_cons (ss_augIx (o := .add) c pip_add (s_v 4) (s_v 7) (s_v 6)) (ss_nil))) (ss_nil)))) (ss_cons (ss_ret (s_biT (b := .tuple) (bs_tuple c.hK) (by rfl) m_tuple (by decide +kernel) (s_v 4))) (ss_nil)))))
theorem b_add_ways (c : Cok (cxOf (L2.CX P w) P w K mg base n_add_ways "add_ways" (defScope (top 7)) f cdv A outer s H E) (pmK K) W 0)  :
    SSs (cxOf (L2.CX P w) P w K mg base n_add_ways "add_ways" (defScope (top 7)) f cdv A outer s H E) (pmK K) W T_add_ways (defBody (top 7)) c_add_ways :=
  ss_cons (ss_setIx c (s_v 0) (s_v 1) (s_op (o := .add) (ops_add c.hK) (s_get2 c (s_v 0) (s_v 1) (s_int)) (s_int))) (ss_cons (ss_forD c (s_v 2) (sg_t c (sgs_cons (sg_n 3 c.nd) (sgs_cons (sg_n 4 c.nd) (sgs_nil)))) (ss_cons (ss_setIx c (s_v 0) (s_v 3) (s_op (o := .add) (ops_add c.hK) (s_get2 c (s_v 0) (s_v 3) (s_int)) (s_v 4))) (ss_nil))) (ss_nil))
theorem b_ways_of (c : Cok (cxOf (L2.CX P w) P w K mg base n_ways_of "ways_of" (defScope (top 9)) f cdv A outer s H E) (pmK K) W 3) (G_add_ways : CalG P w K mg base (pmK K) "add_ways" 1 ["row", "number", "behind"] f_add_ways) (G_is_near : CalG P w K mg base (pmK K) "is_near" 1 ["net", "number", "grades"] f_is_near) (G_spots_of : CalG P w K mg base (pmK K) "spots_of" 3 ["net"] f_spots_of) (m_tuple : mg "tuple" = none) (m_sorted : mg "sorted" = none) (m_range : mg "range" = none) (m_len : mg "len" = none) :
    SSs (cxOf (L2.CX P w) P w K mg base n_ways_of "ways_of" (defScope (top 9)) f cdv A outer s H E) (pmK K) W T_ways_of (defBody (top 9)) c_ways_of :=
  ss_cons (ss_par2 (i := 2) (j := 3) c (ha := sa_cons (s_fn c G_spots_of rfl (by decide) (by rfl) (sa_cons (s_v 0) (sa_nil))) (sa_cons (s_lc (own := [("_node", 7)]) c (si_of c.hK (s_ix c (s_v 0) (s_int))) (blk_of (by kernel_rfl)) (by decide +kernel) (fun s2 H2 C2 l2 q2 => sg_n 7 (c.blk s2 H2 _ _ q2).nd) (fun s2 H2 C2 l2 q2 => sc_no) (fun s2 H2 C2 l2 q2 => s_dnew)) (sa_nil)))) (ss_cons (ss_forI c (si_r3 (by rfl) m_range (s_op (o := .sub) (ops_sub) (s_biB (b := .len) (bs_len c.hK) (by rfl) m_len (by decide +kernel) (s_v 2)) (s_int)) (s_neg) (s_neg)) (sg_n 4 c.nd) (ss_cons (ss_set (s_ifx (st_val c.hK (s_fn c G_is_near rfl (by decide) (by rfl) (sa_cons (s_v 0) (sa_cons (s_v 4) (sa_cons (s_v 1) (sa_nil)))))) (s_ix c (s_v 3) (s_v 4)) (s_dnew)) (sg_n 5 c.nd)) (ss_cons (ss_forI c (si_of c.hK (s_ix c (s_ix c (s_v 2) (s_v 4)) (s_int))) (sg_n 6 c.nd) (ss_cons (ss_ex (s_fn c G_add_ways rfl (by decide) (by rfl) (sa_cons (s_ix c (s_v 3) (s_v 6)) (sa_cons (s_v 4) (sa_cons (s_v 5) (sa_nil)))))) (ss_nil))) (ss_nil)))) (ss_cons (ss_ret (s_biT (b := .tuple) (bs_tuple c.hK) (by rfl) m_tuple (by decide +kernel) (s_lc (own := [("row", 8)]) c (si_of c.hK (s_v 3)) (blk_of (by kernel_rfl)) (by decide +kernel) (fun s1 H1 C1 l1 q1 => sg_n 8 (c.blk s1 H1 _ _ q1).nd) (fun s1 H1 C1 l1 q1 => sc_no) (fun s1 H1 C1 l1 q1 => s_biT (b := .tuple) (bs_tuple (c.blk s1 H1 _ _ q1).hK) (by rfl) m_tuple (by decide +kernel) (s_sortI (c.blk s1 H1 _ _ q1) (by rfl) m_sorted (by decide +kernel) (s_v 8)))))) (ss_nil)))
theorem b_first_double (c : Cok (cxOf (L2.CX P w) P w K mg base n_first_double "first_double" (defScope (top 10)) f cdv A outer s H E) (pmK K) W 4) (G_ways_of : CalG P w K mg base (pmK K) "ways_of" 4 ["net", "grades"] f_ways_of) (m_enumerate : mg "enumerate" = none) :
    SSs (cxOf (L2.CX P w) P w K mg base n_first_double "first_double" (defScope (top 10)) f cdv A outer s H E) (pmK K) W T_first_double (defBody (top 10)) c_first_double :=
  ss_cons (ss_forI c (si_en c.hK (by rfl) m_enumerate (s_fn c G_ways_of rfl (by decide) (by rfl) (sa_cons (s_v 0) (sa_cons (s_v 1) (sa_nil))))) (sg_t c (sgs_cons (sg_n 2 c.nd) (sgs_cons (sg_n 3 c.nd) (sgs_nil)))) (ss_cons (ss_forI c (si_of c.hK (s_v 3)) (sg_t c (sgs_cons (sg_n 4 c.nd) (sgs_cons (sg_n 5 c.nd) (sgs_nil)))) (ss_cons (ss_ife (st_w (sw_and (st_cmp (o := .gt) ops_gt (s_v 5) (s_int) (by rfl)) (sw_and1 (st_cmp (o := .ne) (ops_ne c.hK c.u64) (s_ix c (s_ix c (s_ix c (s_v 0) (s_int)) (s_v 2)) (s_int)) (s_str) (by rfl))))) (ss_cons (ss_ret (s_tup (sa_cons (s_v 2) (sa_cons (s_v 4) (sa_nil))))) (ss_nil)) (ss_nil)) (ss_nil))) (ss_nil))) (ss_cons (ss_ret (s_non)) (ss_nil))
theorem b_are_single (c : Cok (cxOf (L2.CX P w) P w K mg base n_are_single "are_single" (defScope (top 11)) f cdv A outer s H E) (pmK K) W 5) (G_first_double : CalG P w K mg base (pmK K) "first_double" 5 ["net", "grades"] f_first_double) :
    SSs (cxOf (L2.CX P w) P w K mg base n_are_single "are_single" (defScope (top 11)) f cdv A outer s H E) (pmK K) W T_are_single (defBody (top 11)) c_are_single :=
  ss_cons (ss_ret (s_isN (s_fn c G_first_double rfl (by decide) (by rfl) (sa_cons (s_v 0) (sa_cons (s_v 1) (sa_nil)))))) (ss_nil)
theorem b_do_fit (c : Cok (cxOf (L2.CX P w) P w K mg base n_do_fit "do_fit" (defScope (top 20)) f cdv A outer s H E) (pmK K) W 4) (G_asked_of : CalG P w K mg base (pmK K) "asked_of" 4 ["net", "grades", "needles"] f_asked_of) (m_enumerate : mg "enumerate" = none) :
    SSs (cxOf (L2.CX P w) P w K mg base n_do_fit "do_fit" (defScope (top 20)) f cdv A outer s H E) (pmK K) W T_do_fit (defBody (top 20)) c_do_fit :=
  ss_cons (ss_forI c (si_en c.hK (by rfl) m_enumerate (s_fn c G_asked_of rfl (by decide) (by rfl) (sa_cons (s_v 0) (sa_cons (s_v 1) (sa_cons (s_v 3) (sa_nil)))))) (sg_t c (sgs_cons (sg_n 4 c.nd) (sgs_cons (sg_n 5 c.nd) (sgs_nil)))) (ss_cons (ss_ife (st_w (sw_and (st_cmp (o := .ne) (ops_ne c.hK c.u64) (s_ix c (s_ix c (s_ix c (s_v 0) (s_int)) (s_v 4)) (s_int)) (s_str) (by rfl)) (sw_and1 (st_cmp (o := .gt) ops_gt (s_op (o := .add) (ops_add c.hK) (s_v 5) (s_ix c (s_v 3) (s_v 4))) (s_v 2) (by rfl))))) (ss_cons (ss_ret (s_bl)) (ss_nil)) (ss_nil)) (ss_nil))) (ss_cons (ss_ret (s_bl)) (ss_nil))
theorem b_law (c : Cok (cxOf (L2.CX P w) P w K mg base n_law "law" (defScope (top 33)) f cdv A outer s H E) (pmK K) W 6) (G_asked_of : CalG P w K mg base (pmK K) "asked_of" 4 ["net", "grades", "needles"] f_asked_of) (G__law_take : CalG P w K mg base (pmK K) "_law_take" 1 ["bag", "many"] f__law_take) (G__law_alike : CalG P w K mg base (pmK K) "_law_alike" 1 ["found", "due"] f__law_alike) (G_do_fit : CalG P w K mg base (pmK K) "do_fit" 5 ["net", "grades", "order", "needles"] f_do_fit) (G__law_needles : CalG P w K mg base (pmK K) "_law_needles" 1 ["many", "order"] f__law_needles) (G_are_single : CalG P w K mg base (pmK K) "are_single" 6 ["net", "grades"] f_are_single) (G_first_double : CalG P w K mg base (pmK K) "first_double" 5 ["net", "grades"] f_first_double) (G_ways_of : CalG P w K mg base (pmK K) "ways_of" 4 ["net", "grades"] f_ways_of) (G_spots_of : CalG P w K mg base (pmK K) "spots_of" 3 ["net"] f_spots_of) (G__law_roads : CalG P w K mg base (pmK K) "_law_roads" 2 ["net", "grades", "value"] f__law_roads) (G__law_spots : CalG P w K mg base (pmK K) "_law_spots" 1 ["net"] f__law_spots) (G__law_grades : CalG P w K mg base (pmK K) "_law_grades" 3 ["bag"] f__law_grades) (G__law_net : CalG P w K mg base (pmK K) "_law_net" 3 ["bag", "many"] f__law_net) (G__law_bag : CalG P w K mg base (pmK K) "_law_bag" 1 ["script"] f__law_bag) (m_len : mg "len" = none) (m_tuple : mg "tuple" = none) (m_enumerate : mg "enumerate" = none) (m_sum : mg "sum" = none) (m_range : mg "range" = none) (m_sorted : mg "sorted" = none) (g_Nothing : mg "Nothing" = some (.ref (He.ga K "Nothing"))) (e_Nothing : (He.Fa.exc "Nothing").ok K = true) (x_Nothing : PySem.W.exmOne K (.ref (He.ga K "Nothing")) (.ref (He.ga K "Nothing")) = some true) :
    SSs (cxOf (L2.CX P w) P w K mg base n_law "law" (defScope (top 33)) f cdv A outer s H E) (pmK K) W T_law (defBody (top 33)) c_law :=
  ss_cons (ss_set (s_fn c G__law_bag rfl (by decide) (by rfl) (sa_cons (s_v 0) (sa_nil))) (sg_n 1 c.nd)) (ss_cons (ss_forI c (si_r1 (by rfl) m_range (s_int)) (sg_n 2 c.nd) (ss_cons (ss_set (s_tup (sa_cons (s_fn c G__law_net rfl (by decide) (by rfl) (sa_cons (s_v 1) (sa_cons (s_op (o := .add) (ops_add c.hK) (s_int) (s_fn c G__law_take rfl (by decide) (by rfl) (sa_cons (s_v 1) (sa_cons (s_int) (sa_nil))))) (sa_nil)))) (sa_cons (s_fn c G__law_grades rfl (by decide) (by rfl) (sa_cons (s_v 1) (sa_nil))) (sa_nil)))) (sg_t c (sgs_cons (sg_n 3 c.nd) (sgs_cons (sg_n 4 c.nd) (sgs_nil))))) (ss_cons (ss_set (s_fn c G__law_spots rfl (by decide) (by rfl) (sa_cons (s_v 3) (sa_nil))) (sg_n 5 c.nd)) (ss_cons (ss_setLc (i := 7) (own := [("value", 6)]) c rfl rfl rfl (si_r1 (by rfl) m_range (s_biB (b := .len) (bs_len c.hK) (by rfl) m_len (by decide +kernel) (s_ix c (s_v 3) (s_int)))) (blk_of (by kernel_rfl)) (by decide +kernel) (fun s7 H7 C7 l7 q7 => sg_n 6 (c.blk s7 H7 _ _ q7).nd) (fun s7 H7 C7 l7 q7 => sc_no) (fun s7 H7 C7 l7 q7 => s_fn (c.blk s7 H7 _ _ q7) G__law_roads rfl (by decide) (by rfl) (sa_cons (s_v 3) (sa_cons (s_v 4) (sa_cons (s_v 6) (sa_nil)))))) (ss_cons (ss_ife (st_not (st_val c.hK (s_fn c G__law_alike rfl (by decide) (by rfl) (sa_cons (s_lst (sa_cons (s_fn c G_spots_of rfl (by decide) (by rfl) (sa_cons (s_v 3) (sa_nil))) (sa_cons (s_fn c G_ways_of rfl (by decide) (by rfl) (sa_cons (s_v 3) (sa_cons (s_v 4) (sa_nil)))) (sa_nil)))) (sa_cons (s_lst (sa_cons (s_v 5) (sa_cons (s_biT (b := .tuple) (bs_tuple c.hK) (by rfl) m_tuple (by decide +kernel) (s_lc (own := [("row", 8)]) c (si_of c.hK (s_v 7)) (blk_of (by kernel_rfl)) (by decide +kernel) (fun s6 H6 C6 l6 q6 => sg_n 8 (c.blk s6 H6 _ _ q6).nd) (fun s6 H6 C6 l6 q6 => sc_no) (fun s6 H6 C6 l6 q6 => s_biT (b := .tuple) (bs_tuple (c.blk s6 H6 _ _ q6).hK) (by rfl) m_tuple (by decide +kernel) (s_sortI (c.blk s6 H6 _ _ q6) (by rfl) m_sorted (by decide +kernel) (s_v 8))))) (sa_nil)))) (sa_nil)))))) (ss_cons (ss_ret (s_bl)) (ss_nil)) (ss_nil)) (ss_cons (ss_set (s_lst (sa_nil)) (sg_n 9 c.nd)) (ss_cons (ss_forI c (si_en c.hK (by rfl) m_enumerate (s_v 7)) (sg_t c (sgs_cons (sg_n 6 c.nd) (sgs_cons (sg_n 8 c.nd) (sgs_nil)))) (ss_cons (ss_ex (s_mth1 (m := .extend) ms_extend PySem.F.slot_list_extend PySem.F.type_list_extend (s_v 9) (s_lc (own := [("number", 16)]) c (si_of c.hK (s_biB (b := .sortK) (bs_sortK c.calm) (by rfl) m_sorted (by decide +kernel) (s_v 8))) (blk_of (by kernel_rfl)) (by decide +kernel) (fun s5 H5 C5 l5 q5 => sg_n 16 (c.blk s5 H5 _ _ q5).nd) (fun s5 H5 C5 l5 q5 => sc_so (st_w (sw_and (st_cmp (o := .gt) ops_gt (s_ix (c.blk s5 H5 _ _ q5) (s_v 8) (s_v 16)) (s_int) (by rfl)) (sw_and1 (st_cmp (o := .ne) (ops_ne (c.blk s5 H5 _ _ q5).hK (c.blk s5 H5 _ _ q5).u64) (s_ix (c.blk s5 H5 _ _ q5) (s_ix (c.blk s5 H5 _ _ q5) (s_ix (c.blk s5 H5 _ _ q5) (s_v 3) (s_int)) (s_v 6)) (s_int)) (s_str) (by rfl)))))) (fun s5 H5 C5 l5 q5 => s_tup (sa_cons (s_v 6) (sa_cons (s_v 16) (sa_nil))))))) (ss_nil))) (ss_cons (ss_ife (st_not (st_val c.hK (s_fn c G__law_alike rfl (by decide) (by rfl) (sa_cons (s_lst (sa_cons (s_fn c G_first_double rfl (by decide) (by rfl) (sa_cons (s_v 3) (sa_cons (s_v 4) (sa_nil)))) (sa_cons (s_fn c G_are_single rfl (by decide) (by rfl) (sa_cons (s_v 3) (sa_cons (s_v 4) (sa_nil)))) (sa_nil)))) (sa_cons (s_lst (sa_cons (s_ifx (st_cmp (o := .ne) (ops_ne c.hK c.u64) (s_v 9) (s_lst (sa_nil)) (by rfl)) (s_ix c (s_v 9) (s_int)) (s_non)) (sa_cons (s_cmp (o := .eq) (ops_eq c.hK c.u64) (s_v 9) (s_lst (sa_nil)) (by rfl)) (sa_nil)))) (sa_nil)))))) (ss_cons (ss_ret (s_bl)) (ss_nil)) (ss_nil)) (ss_cons (ss_forI c (si_of c.hK (s_tup (sa_cons (s_int) (sa_cons (s_int) (sa_nil))))) (sg_n 10 c.nd) (ss_cons (ss_set (s_bl) (sg_n 11 c.nd)) (ss_cons (ss_forI c (si_of c.hK (s_fn c G__law_needles rfl (by decide) (by rfl) (sa_cons (s_biB (b := .len) (bs_len c.hK) (by rfl) m_len (by decide +kernel) (s_v 5)) (sa_cons (s_v 10) (sa_nil))))) (sg_n 12 c.nd) (ss_cons (ss_setLc (i := 13) (own := [("row", 8)]) c rfl rfl rfl (si_of c.hK (s_v 7)) (blk_of (by kernel_rfl)) (by decide +kernel) (fun s3 H3 C3 l3 q3 => sg_n 8 (c.blk s3 H3 _ _ q3).nd) (fun s3 H3 C3 l3 q3 => sc_no) (fun s3 H3 C3 l3 q3 => s_biB (b := .sum) (bs_sum (c.blk s3 H3 _ _ q3).calm) (by rfl) m_sum (by decide +kernel) (s_lc (own := [("number", 16)]) (c.blk s3 H3 _ _ q3) (si_r1 (by rfl) m_range (s_biB (b := .len) (bs_len (c.blk s3 H3 _ _ q3).hK) (by rfl) m_len (by decide +kernel) (s_v 5))) (blk_of (by kernel_rfl)) (by decide +kernel) (fun s4 H4 C4 l4 q4 => sg_n 16 ((c.blk s3 H3 _ _ q3).blk s4 H4 _ _ q4).nd) (fun s4 H4 C4 l4 q4 => sc_no) (fun s4 H4 C4 l4 q4 => s_op (o := .mul) (ops_mul ((c.blk s3 H3 _ _ q3).blk s4 H4 _ _ q4).hK) (s_get2 ((c.blk s3 H3 _ _ q3).blk s4 H4 _ _ q4) (s_v 8) (s_v 16) (s_int)) (s_ix ((c.blk s3 H3 _ _ q3).blk s4 H4 _ _ q4) (s_v 12) (s_v 16)))))) (ss_cons (ss_set (s_cmp (o := .eq) (ops_eq c.hK c.u64) (s_lc (own := [("v", 17), ("many", 18)]) c (si_en c.hK (by rfl) m_enumerate (s_v 13)) (blk_of (by kernel_rfl)) (by decide +kernel) (fun s2 H2 C2 l2 q2 => sg_t (c.blk s2 H2 _ _ q2) (sgs_cons (sg_n 17 (c.blk s2 H2 _ _ q2).nd) (sgs_cons (sg_n 18 (c.blk s2 H2 _ _ q2).nd) (sgs_nil)))) (fun s2 H2 C2 l2 q2 => sc_so (st_w (sw_and (st_cmp (o := .ne) (ops_ne (c.blk s2 H2 _ _ q2).hK (c.blk s2 H2 _ _ q2).u64) (s_ix (c.blk s2 H2 _ _ q2) (s_ix (c.blk s2 H2 _ _ q2) (s_ix (c.blk s2 H2 _ _ q2) (s_v 3) (s_int)) (s_v 17)) (s_int)) (s_str) (by rfl)) (sw_and1 (st_cmp (o := .gt) ops_gt (s_op (o := .add) (ops_add (c.blk s2 H2 _ _ q2).hK) (s_v 18) (s_ix (c.blk s2 H2 _ _ q2) (s_v 12) (s_v 17))) (s_v 10) (by rfl)))))) (fun s2 H2 C2 l2 q2 => s_v 17)) (s_lst (sa_nil)) (by rfl)) (sg_n 14 c.nd)) (ss_cons (ss_ife (st_w (sw_and (st_cmp (o := .eq) (ops_eq c.hK c.u64) (s_fn c G__law_take rfl (by decide) (by rfl) (sa_cons (s_v 1) (sa_cons (s_int) (sa_nil)))) (s_int) (by rfl)) (sw_and1 (st_not (st_val c.hK (s_fn c G__law_alike rfl (by decide) (by rfl) (sa_cons (s_fn c G_asked_of rfl (by decide) (by rfl) (sa_cons (s_v 3) (sa_cons (s_v 4) (sa_cons (s_v 12) (sa_nil))))) (sa_cons (s_biT (b := .tuple) (bs_tuple c.hK) (by rfl) m_tuple (by decide +kernel) (s_v 13)) (sa_nil))))))))) (ss_cons (ss_ret (s_bl)) (ss_nil)) (ss_nil)) (ss_cons (ss_ife (st_w (sw_and (st_cmp (o := .eq) (ops_eq c.hK c.u64) (s_fn c G__law_take rfl (by decide) (by rfl) (sa_cons (s_v 1) (sa_cons (s_int) (sa_nil)))) (s_int) (by rfl)) (sw_and1 (st_not (st_val c.hK (s_fn c G__law_alike rfl (by decide) (by rfl) (sa_cons (s_fn c G_do_fit rfl (by decide) (by rfl) (sa_cons (s_v 3) (sa_cons (s_v 4) (sa_cons (s_v 10) (sa_cons (s_v 12) (sa_nil)))))) (sa_cons (s_v 14) (sa_nil))))))))) (ss_cons (ss_ret (s_bl)) (ss_nil)) (ss_nil)) (ss_cons (ss_set (s_and c.hK (s_v 11) (s_one (s_v 14))) (sg_n 11 c.nd)) (ss_nil))))))) (ss_cons (ss_ife (st_cmp (o := .ne) (ops_ne c.hK c.u64) (s_v 11) (s_cmp (o := .eq) (ops_eq c.hK c.u64) (s_v 9) (s_lst (sa_nil)) (by rfl)) (by rfl)) (ss_cons (ss_ret (s_bl)) (ss_nil)) (ss_nil)) (ss_nil))))) (ss_cons (ss_forI c (si_of c.hK (s_tup (sa_cons (s_non) (sa_cons (s_op (o := .mul) (ops_mul c.hK) (s_tup (sa_cons (s_int) (sa_nil))) (s_op (o := .add) (ops_add c.hK) (s_biB (b := .len) (bs_len c.hK) (by rfl) m_len (by decide +kernel) (s_v 5)) (s_int))) (sa_cons (s_op (o := .mul) (ops_mul c.hK) (s_lst (sa_cons (s_int) (sa_nil))) (s_biB (b := .len) (bs_len c.hK) (by rfl) m_len (by decide +kernel) (s_v 5))) (sa_cons (s_op (o := .mul) (ops_mul c.hK) (s_tup (sa_cons (s_neg) (sa_nil))) (s_biB (b := .len) (bs_len c.hK) (by rfl) m_len (by decide +kernel) (s_v 5))) (sa_nil))))))) (sg_n 15 c.nd) (ss_cons (ss_try c rfl rfl ⟨by rfl, by decide, .inl g_Nothing⟩ x_Nothing rfl (fun W1 p1 x1 c1 => ss_cons (ss_ex (s_fn c1 G_asked_of rfl (by decide) (by rfl) (sa_cons (s_v 3) (sa_cons (s_v 4) (sa_cons (s_v 15) (sa_nil)))))) (ss_cons (ss_ret (s_bl)) (ss_nil))) (fun a1 p1 => ss_cons (ss_pass) (ss_nil))) (ss_nil))) (ss_nil))))))))))) (ss_cons (ss_ret (s_bl)) (ss_nil)))
end
end Lw
end

section
set_option Elab.async false
set_option linter.all false
set_option maxRecDepth 100000
set_option autoImplicit false
set_option maxHeartbeats 0
namespace Lw
open PySem L2 PySem.Spec PyProof.Rows Ev
def d__law_bag : He.DefD := ⟨("_law_bag", none), "_law_bag", "_law_bag", defArgs (top 22), defBody (top 22), defScope (top 22), [], []⟩
def d__law_spots : He.DefD := ⟨("_law_spots", none), "_law_spots", "_law_spots", defArgs (top 29), defBody (top 29), defScope (top 29), [], []⟩
def d__law_take : He.DefD := ⟨("_law_take", none), "_law_take", "_law_take", defArgs (top 23), defBody (top 23), defScope (top 23), [], []⟩
def d__law_some : He.DefD := ⟨("_law_some", none), "_law_some", "_law_some", defArgs (top 24), defBody (top 24), defScope (top 24), [], []⟩
def d__law_net : He.DefD := ⟨("_law_net", none), "_law_net", "_law_net", defArgs (top 28), defBody (top 28), defScope (top 28), [], []⟩
def d__law_grades : He.DefD := ⟨("_law_grades", none), "_law_grades", "_law_grades", defArgs (top 30), defBody (top 30), defScope (top 30), [], []⟩
def d__law_roads : He.DefD := ⟨("_law_roads", none), "_law_roads", "_law_roads", defArgs (top 31), defBody (top 31), defScope (top 31), [], []⟩
def d__law_alike : He.DefD := ⟨("_law_alike", none), "_law_alike", "_law_alike", defArgs (top 25), defBody (top 25), defScope (top 25), [], []⟩
def d__law_needles : He.DefD := ⟨("_law_needles", none), "_law_needles", "_law_needles", defArgs (top 32), defBody (top 32), defScope (top 32), [], []⟩
def d_many_uses : He.DefD := ⟨("many_uses", none), "many_uses", "many_uses", defArgs (top 4), defBody (top 4), defScope (top 4), [], []⟩
def d_inputs_of : He.DefD := ⟨("inputs_of", none), "inputs_of", "inputs_of", defArgs (top 5), defBody (top 5), defScope (top 5), [], []⟩
def d_spots_of : He.DefD := ⟨("spots_of", none), "spots_of", "spots_of", defArgs (top 6), defBody (top 6), defScope (top 6), [], []⟩
def d_is_near : He.DefD := ⟨("is_near", none), "is_near", "is_near", defArgs (top 8), defBody (top 8), defScope (top 8), [], []⟩
def d_is_integer : He.DefD := ⟨("is_integer", none), "is_integer", "is_integer", defArgs (top 16), defBody (top 16), defScope (top 16), [], []⟩
def d_is_count : He.DefD := ⟨("is_count", none), "is_count", "is_count", defArgs (top 17), defBody (top 17), defScope (top 17), [], []⟩
def d_asked_of : He.DefD := ⟨("asked_of", none), "asked_of", "asked_of", defArgs (top 19), defBody (top 19), defScope (top 19), [], []⟩
def d_add_ways : He.DefD := ⟨("add_ways", none), "add_ways", "add_ways", defArgs (top 7), defBody (top 7), defScope (top 7), [], []⟩
def d_ways_of : He.DefD := ⟨("ways_of", none), "ways_of", "ways_of", defArgs (top 9), defBody (top 9), defScope (top 9), [], []⟩
def d_first_double : He.DefD := ⟨("first_double", none), "first_double", "first_double", defArgs (top 10), defBody (top 10), defScope (top 10), [], []⟩
def d_are_single : He.DefD := ⟨("are_single", none), "are_single", "are_single", defArgs (top 11), defBody (top 11), defScope (top 11), [], []⟩
def d_do_fit : He.DefD := ⟨("do_fit", none), "do_fit", "do_fit", defArgs (top 20), defBody (top 20), defScope (top 20), [], []⟩
def d_law : He.DefD := ⟨("law", none), "law", "law", defArgs (top 33), defBody (top 33), defScope (top 33), [], []⟩
def fnAll : List He.DefD := [d__law_bag, d__law_spots, d__law_take, d__law_some, d__law_net, d__law_grades, d__law_roads, d__law_alike, d__law_needles, d_many_uses, d_inputs_of, d_spots_of, d_is_near, d_is_integer, d_is_count, d_asked_of, d_add_ways, d_ways_of, d_first_double, d_are_single, d_do_fit, d_law]
def faAll : List He.Fa := [.glo "_law_bag", .glo "_law_spots", .glo "_law_take", .glo "_law_some", .glo "_law_net", .glo "_law_grades", .glo "_law_roads", .glo "_law_alike", .glo "_law_needles", .glo "many_uses", .glo "inputs_of", .glo "spots_of", .glo "is_near", .glo "is_integer", .glo "is_count", .glo "asked_of", .glo "add_ways", .glo "ways_of", .glo "first_double", .glo "are_single", .glo "do_fit", .glo "law", .free "abs", .free "int", .free "len", .free "tuple", .free "range", .free "enumerate", .free "repr", .free "zip", .free "isinstance", .free "bool", .free "all", .free "sorted", .free "sum", .glo "UNARY", .glo "BINARY", .glo "Nothing", .exc "Nothing", .exm "Nothing" "Nothing" true]
def exB (K : PySem.W.Frag) : Bool := He.tupB K "UNARY" ((["fresh", "not"] : List Str).map He.Dv.str) && (He.tupB K "BINARY" ((["and", "xor"] : List Str).map He.Dv.str))
abbrev R : PySem.W.OpenRow := PySem.W.OpenLaw.row PySem.Challenge.rw_maskwright_k33_whole_ways_and_what_is_as
abbrev hk : PySem.W.Hook := He.hookX 5 faAll fnAll [] [] exB
def ob (s : PySem.W.SharedT) : He.AlX := He.obsX 5 faAll fnAll [] [] exB (HandSHeadRun.getT s)
theorem ob_eq (s : PySem.W.SharedT) : ob s = hk.obs s.abs := He.obsX_eq (HandSHeadRun.getT_eq s)
def loose0 : List PySem.Str := ["_wall", "BINARY", "UNARY", "many_uses", "inputs_of", "spots_of", "add_ways", "is_near", "ways_of", "first_double", "are_single", "MaskError", "Nothing", "is_integer", "is_count", "asked_of", "do_fit", "_law_bag", "_law_take", "_law_some", "_law_alike", "_law_rows", "_law_lots", "_law_net", "_law_spots", "_law_grades", "_law_roads", "_law_needles"]
abbrev loose : List PySem.Str := loose0
theorem run (w : World) : HandSHeadRun.RunEq R (PySem.W.view R.prog [33]) hk ob 20000 loose w := by
  intro os
  kernel_rfl
theorem sc__law_bag : FnScope n__law_bag ["script"] (defScope (top 22)) := ⟨rfl, rfl, rfl, by decide +kernel, rfl, by decide +kernel, by decide +kernel⟩
theorem sc__law_spots : FnScope n__law_spots ["net"] (defScope (top 29)) := ⟨rfl, rfl, rfl, by decide +kernel, rfl, by decide +kernel, by decide +kernel⟩
theorem sc__law_take : FnScope n__law_take ["bag", "many"] (defScope (top 23)) := ⟨rfl, rfl, rfl, by decide +kernel, rfl, by decide +kernel, by decide +kernel⟩
theorem sc__law_some : FnScope n__law_some ["bag", "things"] (defScope (top 24)) := ⟨rfl, rfl, rfl, by decide +kernel, rfl, by decide +kernel, by decide +kernel⟩
theorem sc__law_net : FnScope n__law_net ["bag", "many"] (defScope (top 28)) := ⟨rfl, rfl, rfl, by decide +kernel, rfl, by decide +kernel, by decide +kernel⟩
theorem sc__law_grades : FnScope n__law_grades ["bag"] (defScope (top 30)) := ⟨rfl, rfl, rfl, by decide +kernel, rfl, by decide +kernel, by decide +kernel⟩
theorem sc__law_roads : FnScope n__law_roads ["net", "grades", "value"] (defScope (top 31)) := ⟨rfl, rfl, rfl, by decide +kernel, rfl, by decide +kernel, by decide +kernel⟩
theorem sc__law_alike : FnScope n__law_alike ["found", "due"] (defScope (top 25)) := ⟨rfl, rfl, rfl, by decide +kernel, rfl, by decide +kernel, by decide +kernel⟩
theorem sc__law_needles : FnScope n__law_needles ["many", "order"] (defScope (top 32)) := ⟨rfl, rfl, rfl, by decide +kernel, rfl, by decide +kernel, by decide +kernel⟩
theorem sc_many_uses : FnScope n_many_uses ["node"] (defScope (top 4)) := ⟨rfl, rfl, rfl, by decide +kernel, rfl, by decide +kernel, by decide +kernel⟩
theorem sc_inputs_of : FnScope n_inputs_of ["node"] (defScope (top 5)) := ⟨rfl, rfl, rfl, by decide +kernel, rfl, by decide +kernel, by decide +kernel⟩
theorem sc_spots_of : FnScope n_spots_of ["net"] (defScope (top 6)) := ⟨rfl, rfl, rfl, by decide +kernel, rfl, by decide +kernel, by decide +kernel⟩
theorem sc_is_near : FnScope n_is_near ["net", "number", "grades"] (defScope (top 8)) := ⟨rfl, rfl, rfl, by decide +kernel, rfl, by decide +kernel, by decide +kernel⟩
theorem sc_is_integer : FnScope n_is_integer ["thing"] (defScope (top 16)) := ⟨rfl, rfl, rfl, by decide +kernel, rfl, by decide +kernel, by decide +kernel⟩
theorem sc_is_count : FnScope n_is_count ["thing"] (defScope (top 17)) := ⟨rfl, rfl, rfl, by decide +kernel, rfl, by decide +kernel, by decide +kernel⟩
theorem sc_asked_of : FnScope n_asked_of ["net", "grades", "needles"] (defScope (top 19)) := ⟨rfl, rfl, rfl, by decide +kernel, rfl, by decide +kernel, by decide +kernel⟩
theorem sc_add_ways : FnScope n_add_ways ["row", "number", "behind"] (defScope (top 7)) := ⟨rfl, rfl, rfl, by decide +kernel, rfl, by decide +kernel, by decide +kernel⟩
theorem sc_ways_of : FnScope n_ways_of ["net", "grades"] (defScope (top 9)) := ⟨rfl, rfl, rfl, by decide +kernel, rfl, by decide +kernel, by decide +kernel⟩
theorem sc_first_double : FnScope n_first_double ["net", "grades"] (defScope (top 10)) := ⟨rfl, rfl, rfl, by decide +kernel, rfl, by decide +kernel, by decide +kernel⟩
theorem sc_are_single : FnScope n_are_single ["net", "grades"] (defScope (top 11)) := ⟨rfl, rfl, rfl, by decide +kernel, rfl, by decide +kernel, by decide +kernel⟩
theorem sc_do_fit : FnScope n_do_fit ["net", "grades", "order", "needles"] (defScope (top 20)) := ⟨rfl, rfl, rfl, by decide +kernel, rfl, by decide +kernel, by decide +kernel⟩
theorem sc_law : FnScope n_law ["script"] (defScope (top 33)) := ⟨rfl, rfl, rfl, by decide +kernel, rfl, by decide +kernel, by decide +kernel⟩
section
variable {P : Program} {w : World} {K : PySem.W.Frag} {mg : Str → Option Value} {base : Heap}
theorem ok__law_bag {f : Addr} {fd : FuncData} (FD : FunD K "_law_bag" "_law_bag" (defArgs (top 22)) (defBody (top 22)) (defScope (top 22)) [] [] f fd) (m_abs : mg "abs" = none) : FnG P w K mg base 1 f fd ["script"] (spF (pmK K) 1 f__law_bag) :=
  fnG FD sc__law_bag rfl fun cdv A outer s H E c => b__law_bag c m_abs
theorem bd__law_bag {f : Addr} {fd : FuncData} (FD : FunD K "_law_bag" "_law_bag" (defArgs (top 22)) (defBody (top 22)) (defScope (top 22)) [] [] f fd) : Binds K fd ["script"] [] := FD.bindsN fun _ _ _ _ _ _ us hl => match us, hl with | [_], _ => rfl
theorem ok__law_spots {f : Addr} {fd : FuncData} (FD : FunD K "_law_spots" "_law_spots" (defArgs (top 29)) (defBody (top 29)) (defScope (top 29)) [] [] f fd)  : FnG P w K mg base 1 f fd ["net"] (spF (pmK K) 1 f__law_spots) :=
  fnG FD sc__law_spots rfl fun cdv A outer s H E c => b__law_spots c 
theorem bd__law_spots {f : Addr} {fd : FuncData} (FD : FunD K "_law_spots" "_law_spots" (defArgs (top 29)) (defBody (top 29)) (defScope (top 29)) [] [] f fd) : Binds K fd ["net"] [] := FD.bindsN fun _ _ _ _ _ _ us hl => match us, hl with | [_], _ => rfl
theorem ok__law_take {f : Addr} {fd : FuncData} (FD : FunD K "_law_take" "_law_take" (defArgs (top 23)) (defBody (top 23)) (defScope (top 23)) [] [] f fd) (m_int : mg "int" = none) : FnG P w K mg base 1 f fd ["bag", "many"] (spF (pmK K) 2 f__law_take) :=
  fnG FD sc__law_take rfl fun cdv A outer s H E c => b__law_take c m_int
theorem bd__law_take {f : Addr} {fd : FuncData} (FD : FunD K "_law_take" "_law_take" (defArgs (top 23)) (defBody (top 23)) (defScope (top 23)) [] [] f fd) : Binds K fd ["bag", "many"] [] := FD.bindsN fun _ _ _ _ _ _ us hl => match us, hl with | [_, _], _ => rfl
theorem ok__law_some {f : Addr} {fd : FuncData} (FD : FunD K "_law_some" "_law_some" (defArgs (top 24)) (defBody (top 24)) (defScope (top 24)) [] [] f fd) (G__law_take : CalG P w K mg base (pmK K) "_law_take" 1 ["bag", "many"] f__law_take) (m_len : mg "len" = none) : FnG P w K mg base 2 f fd ["bag", "things"] (spF (pmK K) 2 f__law_some) :=
  fnG FD sc__law_some rfl fun cdv A outer s H E c => b__law_some c G__law_take m_len
theorem bd__law_some {f : Addr} {fd : FuncData} (FD : FunD K "_law_some" "_law_some" (defArgs (top 24)) (defBody (top 24)) (defScope (top 24)) [] [] f fd) : Binds K fd ["bag", "things"] [] := FD.bindsN fun _ _ _ _ _ _ us hl => match us, hl with | [_, _], _ => rfl
theorem ok__law_net {f : Addr} {fd : FuncData} (FD : FunD K "_law_net" "_law_net" (defArgs (top 28)) (defBody (top 28)) (defScope (top 28)) [] [] f fd) (G__law_take : CalG P w K mg base (pmK K) "_law_take" 1 ["bag", "many"] f__law_take) (G__law_some : CalG P w K mg base (pmK K) "_law_some" 2 ["bag", "things"] f__law_some) (m_len : mg "len" = none) (m_tuple : mg "tuple" = none) (m_range : mg "range" = none) : FnG P w K mg base 3 f fd ["bag", "many"] (spF (pmK K) 2 f__law_net) :=
  fnG FD sc__law_net rfl fun cdv A outer s H E c => b__law_net c G__law_take G__law_some m_len m_tuple m_range
theorem bd__law_net {f : Addr} {fd : FuncData} (FD : FunD K "_law_net" "_law_net" (defArgs (top 28)) (defBody (top 28)) (defScope (top 28)) [] [] f fd) : Binds K fd ["bag", "many"] [] := FD.bindsN fun _ _ _ _ _ _ us hl => match us, hl with | [_, _], _ => rfl
theorem ok__law_grades {f : Addr} {fd : FuncData} (FD : FunD K "_law_grades" "_law_grades" (defArgs (top 30)) (defBody (top 30)) (defScope (top 30)) [] [] f fd) (G__law_some : CalG P w K mg base (pmK K) "_law_some" 2 ["bag", "things"] f__law_some) : FnG P w K mg base 3 f fd ["bag"] (spF (pmK K) 1 f__law_grades) :=
  fnG FD sc__law_grades rfl fun cdv A outer s H E c => b__law_grades c G__law_some
theorem bd__law_grades {f : Addr} {fd : FuncData} (FD : FunD K "_law_grades" "_law_grades" (defArgs (top 30)) (defBody (top 30)) (defScope (top 30)) [] [] f fd) : Binds K fd ["bag"] [] := FD.bindsN fun _ _ _ _ _ _ us hl => match us, hl with | [_], _ => rfl
theorem ok__law_roads {f : Addr} {fd : FuncData} (FD : FunD K "_law_roads" "_law_roads" (defArgs (top 31)) (defBody (top 31)) (defScope (top 31)) [] [] f fd) (G__law_spots : CalG P w K mg base (pmK K) "_law_spots" 1 ["net"] f__law_spots) (m_len : mg "len" = none) (m_enumerate : mg "enumerate" = none) : FnG P w K mg base 2 f fd ["net", "grades", "value"] (spF (pmK K) 3 f__law_roads) :=
  fnG FD sc__law_roads rfl fun cdv A outer s H E c => b__law_roads c G__law_spots m_len m_enumerate
theorem bd__law_roads {f : Addr} {fd : FuncData} (FD : FunD K "_law_roads" "_law_roads" (defArgs (top 31)) (defBody (top 31)) (defScope (top 31)) [] [] f fd) : Binds K fd ["net", "grades", "value"] [] := FD.bindsN fun _ _ _ _ _ _ us hl => match us, hl with | [_, _, _], _ => rfl
theorem ok__law_alike {f : Addr} {fd : FuncData} (FD : FunD K "_law_alike" "_law_alike" (defArgs (top 25)) (defBody (top 25)) (defScope (top 25)) [] [] f fd) (m_repr : mg "repr" = none) : FnG P w K mg base 1 f fd ["found", "due"] (spF (pmK K) 2 f__law_alike) :=
  fnG FD sc__law_alike rfl fun cdv A outer s H E c => b__law_alike c m_repr
theorem bd__law_alike {f : Addr} {fd : FuncData} (FD : FunD K "_law_alike" "_law_alike" (defArgs (top 25)) (defBody (top 25)) (defScope (top 25)) [] [] f fd) : Binds K fd ["found", "due"] [] := FD.bindsN fun _ _ _ _ _ _ us hl => match us, hl with | [_, _], _ => rfl
theorem ok__law_needles {f : Addr} {fd : FuncData} (FD : FunD K "_law_needles" "_law_needles" (defArgs (top 32)) (defBody (top 32)) (defScope (top 32)) [] [] f fd) (m_tuple : mg "tuple" = none) (m_zip : mg "zip" = none) (m_range : mg "range" = none) : FnG P w K mg base 1 f fd ["many", "order"] (spF (pmK K) 2 f__law_needles) :=
  fnG FD sc__law_needles rfl fun cdv A outer s H E c => b__law_needles c m_tuple m_zip m_range
theorem bd__law_needles {f : Addr} {fd : FuncData} (FD : FunD K "_law_needles" "_law_needles" (defArgs (top 32)) (defBody (top 32)) (defScope (top 32)) [] [] f fd) : Binds K fd ["many", "order"] [] := FD.bindsN fun _ _ _ _ _ _ us hl => match us, hl with | [_, _], _ => rfl
theorem ok_many_uses {f : Addr} {fd : FuncData} (FD : FunD K "many_uses" "many_uses" (defArgs (top 4)) (defBody (top 4)) (defScope (top 4)) [] [] f fd) (g_UNARY : mg "UNARY" = some (.ref (He.ga K "UNARY"))) (t_UNARY : He.tupB K "UNARY" ((["fresh", "not"] : List Str).map He.Dv.str) = true) (g_BINARY : mg "BINARY" = some (.ref (He.ga K "BINARY"))) (t_BINARY : He.tupB K "BINARY" ((["and", "xor"] : List Str).map He.Dv.str) = true) : FnG P w K mg base 1 f fd ["node"] (spF (pmK K) 1 f_many_uses) :=
  fnG FD sc_many_uses rfl fun cdv A outer s H E c => b_many_uses c g_UNARY t_UNARY g_BINARY t_BINARY
theorem bd_many_uses {f : Addr} {fd : FuncData} (FD : FunD K "many_uses" "many_uses" (defArgs (top 4)) (defBody (top 4)) (defScope (top 4)) [] [] f fd) : Binds K fd ["node"] [] := FD.bindsN fun _ _ _ _ _ _ us hl => match us, hl with | [_], _ => rfl
theorem ok_inputs_of {f : Addr} {fd : FuncData} (FD : FunD K "inputs_of" "inputs_of" (defArgs (top 5)) (defBody (top 5)) (defScope (top 5)) [] [] f fd) (G_many_uses : CalG P w K mg base (pmK K) "many_uses" 1 ["node"] f_many_uses) (m_tuple : mg "tuple" = none) : FnG P w K mg base 2 f fd ["node"] (spF (pmK K) 1 f_inputs_of) :=
  fnG FD sc_inputs_of rfl fun cdv A outer s H E c => b_inputs_of c G_many_uses m_tuple
theorem bd_inputs_of {f : Addr} {fd : FuncData} (FD : FunD K "inputs_of" "inputs_of" (defArgs (top 5)) (defBody (top 5)) (defScope (top 5)) [] [] f fd) : Binds K fd ["node"] [] := FD.bindsN fun _ _ _ _ _ _ us hl => match us, hl with | [_], _ => rfl
theorem ok_spots_of {f : Addr} {fd : FuncData} (FD : FunD K "spots_of" "spots_of" (defArgs (top 6)) (defBody (top 6)) (defScope (top 6)) [] [] f fd) (G_inputs_of : CalG P w K mg base (pmK K) "inputs_of" 2 ["node"] f_inputs_of) : FnG P w K mg base 3 f fd ["net"] (spF (pmK K) 1 f_spots_of) :=
  fnG FD sc_spots_of rfl fun cdv A outer s H E c => b_spots_of c G_inputs_of
theorem bd_spots_of {f : Addr} {fd : FuncData} (FD : FunD K "spots_of" "spots_of" (defArgs (top 6)) (defBody (top 6)) (defScope (top 6)) [] [] f fd) : Binds K fd ["net"] [] := FD.bindsN fun _ _ _ _ _ _ us hl => match us, hl with | [_], _ => rfl
theorem ok_is_near {f : Addr} {fd : FuncData} (FD : FunD K "is_near" "is_near" (defArgs (top 8)) (defBody (top 8)) (defScope (top 8)) [] [] f fd) (m_len : mg "len" = none) : FnG P w K mg base 1 f fd ["net", "number", "grades"] (spF (pmK K) 3 f_is_near) :=
  fnG FD sc_is_near rfl fun cdv A outer s H E c => b_is_near c m_len
theorem bd_is_near {f : Addr} {fd : FuncData} (FD : FunD K "is_near" "is_near" (defArgs (top 8)) (defBody (top 8)) (defScope (top 8)) [] [] f fd) : Binds K fd ["net", "number", "grades"] [] := FD.bindsN fun _ _ _ _ _ _ us hl => match us, hl with | [_, _, _], _ => rfl
theorem ok_is_integer {f : Addr} {fd : FuncData} (FD : FunD K "is_integer" "is_integer" (defArgs (top 16)) (defBody (top 16)) (defScope (top 16)) [] [] f fd) (m_isinstance : mg "isinstance" = none) (m_int : mg "int" = none) (m_bool : mg "bool" = none) : FnG P w K mg base 1 f fd ["thing"] (spF (pmK K) 1 f_is_integer) :=
  fnG FD sc_is_integer rfl fun cdv A outer s H E c => b_is_integer c m_isinstance m_int m_bool
theorem bd_is_integer {f : Addr} {fd : FuncData} (FD : FunD K "is_integer" "is_integer" (defArgs (top 16)) (defBody (top 16)) (defScope (top 16)) [] [] f fd) : Binds K fd ["thing"] [] := FD.bindsN fun _ _ _ _ _ _ us hl => match us, hl with | [_], _ => rfl
theorem ok_is_count {f : Addr} {fd : FuncData} (FD : FunD K "is_count" "is_count" (defArgs (top 17)) (defBody (top 17)) (defScope (top 17)) [] [] f fd) (G_is_integer : CalG P w K mg base (pmK K) "is_integer" 1 ["thing"] f_is_integer) : FnG P w K mg base 2 f fd ["thing"] (spF (pmK K) 1 f_is_count) :=
  fnG FD sc_is_count rfl fun cdv A outer s H E c => b_is_count c G_is_integer
theorem bd_is_count {f : Addr} {fd : FuncData} (FD : FunD K "is_count" "is_count" (defArgs (top 17)) (defBody (top 17)) (defScope (top 17)) [] [] f fd) : Binds K fd ["thing"] [] := FD.bindsN fun _ _ _ _ _ _ us hl => match us, hl with | [_], _ => rfl
theorem ok_asked_of {f : Addr} {fd : FuncData} (FD : FunD K "asked_of" "asked_of" (defArgs (top 19)) (defBody (top 19)) (defScope (top 19)) [] [] f fd) (G_is_near : CalG P w K mg base (pmK K) "is_near" 1 ["net", "number", "grades"] f_is_near) (G_is_count : CalG P w K mg base (pmK K) "is_count" 2 ["thing"] f_is_count) (G_spots_of : CalG P w K mg base (pmK K) "spots_of" 3 ["net"] f_spots_of) (m_tuple : mg "tuple" = none) (m_range : mg "range" = none) (m_len : mg "len" = none) (m_isinstance : mg "isinstance" = none) (m_all : mg "all" = none) (g_Nothing : mg "Nothing" = some (.ref (He.ga K "Nothing"))) (e_Nothing : (He.Fa.exc "Nothing").ok K = true) (x_Nothing : PySem.W.exmOne K (.ref (He.ga K "Nothing")) (.ref (He.ga K "Nothing")) = some true) : FnG P w K mg base 4 f fd ["net", "grades", "needles"] (spF (pmK K) 3 f_asked_of) :=
  fnG FD sc_asked_of rfl fun cdv A outer s H E c => b_asked_of c G_is_near G_is_count G_spots_of m_tuple m_range m_len m_isinstance m_all g_Nothing e_Nothing x_Nothing
theorem bd_asked_of {f : Addr} {fd : FuncData} (FD : FunD K "asked_of" "asked_of" (defArgs (top 19)) (defBody (top 19)) (defScope (top 19)) [] [] f fd) : Binds K fd ["net", "grades", "needles"] [] := FD.bindsN fun _ _ _ _ _ _ us hl => match us, hl with | [_, _, _], _ => rfl
theorem ok_add_ways {f : Addr} {fd : FuncData} (FD : FunD K "add_ways" "add_ways" (defArgs (top 7)) (defBody (top 7)) (defScope (top 7)) [] [] f fd)  : FnG P w K mg base 1 f fd ["row", "number", "behind"] (spF (pmK K) 3 f_add_ways) :=
  fnG FD sc_add_ways rfl fun cdv A outer s H E c => b_add_ways c 
theorem bd_add_ways {f : Addr} {fd : FuncData} (FD : FunD K "add_ways" "add_ways" (defArgs (top 7)) (defBody (top 7)) (defScope (top 7)) [] [] f fd) : Binds K fd ["row", "number", "behind"] [] := FD.bindsN fun _ _ _ _ _ _ us hl => match us, hl with | [_, _, _], _ => rfl
theorem ok_ways_of {f : Addr} {fd : FuncData} (FD : FunD K "ways_of" "ways_of" (defArgs (top 9)) (defBody (top 9)) (defScope (top 9)) [] [] f fd) (G_add_ways : CalG P w K mg base (pmK K) "add_ways" 1 ["row", "number", "behind"] f_add_ways) (G_is_near : CalG P w K mg base (pmK K) "is_near" 1 ["net", "number", "grades"] f_is_near) (G_spots_of : CalG P w K mg base (pmK K) "spots_of" 3 ["net"] f_spots_of) (m_tuple : mg "tuple" = none) (m_sorted : mg "sorted" = none) (m_range : mg "range" = none) (m_len : mg "len" = none) : FnG P w K mg base 4 f fd ["net", "grades"] (spF (pmK K) 2 f_ways_of) :=
  fnG FD sc_ways_of rfl fun cdv A outer s H E c => b_ways_of c G_add_ways G_is_near G_spots_of m_tuple m_sorted m_range m_len
theorem bd_ways_of {f : Addr} {fd : FuncData} (FD : FunD K "ways_of" "ways_of" (defArgs (top 9)) (defBody (top 9)) (defScope (top 9)) [] [] f fd) : Binds K fd ["net", "grades"] [] := FD.bindsN fun _ _ _ _ _ _ us hl => match us, hl with | [_, _], _ => rfl
theorem ok_first_double {f : Addr} {fd : FuncData} (FD : FunD K "first_double" "first_double" (defArgs (top 10)) (defBody (top 10)) (defScope (top 10)) [] [] f fd) (G_ways_of : CalG P w K mg base (pmK K) "ways_of" 4 ["net", "grades"] f_ways_of) (m_enumerate : mg "enumerate" = none) : FnG P w K mg base 5 f fd ["net", "grades"] (spF (pmK K) 2 f_first_double) :=
  fnG FD sc_first_double rfl fun cdv A outer s H E c => b_first_double c G_ways_of m_enumerate
theorem bd_first_double {f : Addr} {fd : FuncData} (FD : FunD K "first_double" "first_double" (defArgs (top 10)) (defBody (top 10)) (defScope (top 10)) [] [] f fd) : Binds K fd ["net", "grades"] [] := FD.bindsN fun _ _ _ _ _ _ us hl => match us, hl with | [_, _], _ => rfl
theorem ok_are_single {f : Addr} {fd : FuncData} (FD : FunD K "are_single" "are_single" (defArgs (top 11)) (defBody (top 11)) (defScope (top 11)) [] [] f fd) (G_first_double : CalG P w K mg base (pmK K) "first_double" 5 ["net", "grades"] f_first_double) : FnG P w K mg base 6 f fd ["net", "grades"] (spF (pmK K) 2 f_are_single) :=
  fnG FD sc_are_single rfl fun cdv A outer s H E c => b_are_single c G_first_double
theorem bd_are_single {f : Addr} {fd : FuncData} (FD : FunD K "are_single" "are_single" (defArgs (top 11)) (defBody (top 11)) (defScope (top 11)) [] [] f fd) : Binds K fd ["net", "grades"] [] := FD.bindsN fun _ _ _ _ _ _ us hl => match us, hl with | [_, _], _ => rfl
theorem ok_do_fit {f : Addr} {fd : FuncData} (FD : FunD K "do_fit" "do_fit" (defArgs (top 20)) (defBody (top 20)) (defScope (top 20)) [] [] f fd) (G_asked_of : CalG P w K mg base (pmK K) "asked_of" 4 ["net", "grades", "needles"] f_asked_of) (m_enumerate : mg "enumerate" = none) : FnG P w K mg base 5 f fd ["net", "grades", "order", "needles"] (spF (pmK K) 4 f_do_fit) :=
  fnG FD sc_do_fit rfl fun cdv A outer s H E c => b_do_fit c G_asked_of m_enumerate
theorem bd_do_fit {f : Addr} {fd : FuncData} (FD : FunD K "do_fit" "do_fit" (defArgs (top 20)) (defBody (top 20)) (defScope (top 20)) [] [] f fd) : Binds K fd ["net", "grades", "order", "needles"] [] := FD.bindsN fun _ _ _ _ _ _ us hl => match us, hl with | [_, _, _, _], _ => rfl
theorem ok_law {f : Addr} {fd : FuncData} (FD : FunD K "law" "law" (defArgs (top 33)) (defBody (top 33)) (defScope (top 33)) [] [] f fd) (G_asked_of : CalG P w K mg base (pmK K) "asked_of" 4 ["net", "grades", "needles"] f_asked_of) (G__law_take : CalG P w K mg base (pmK K) "_law_take" 1 ["bag", "many"] f__law_take) (G__law_alike : CalG P w K mg base (pmK K) "_law_alike" 1 ["found", "due"] f__law_alike) (G_do_fit : CalG P w K mg base (pmK K) "do_fit" 5 ["net", "grades", "order", "needles"] f_do_fit) (G__law_needles : CalG P w K mg base (pmK K) "_law_needles" 1 ["many", "order"] f__law_needles) (G_are_single : CalG P w K mg base (pmK K) "are_single" 6 ["net", "grades"] f_are_single) (G_first_double : CalG P w K mg base (pmK K) "first_double" 5 ["net", "grades"] f_first_double) (G_ways_of : CalG P w K mg base (pmK K) "ways_of" 4 ["net", "grades"] f_ways_of) (G_spots_of : CalG P w K mg base (pmK K) "spots_of" 3 ["net"] f_spots_of) (G__law_roads : CalG P w K mg base (pmK K) "_law_roads" 2 ["net", "grades", "value"] f__law_roads) (G__law_spots : CalG P w K mg base (pmK K) "_law_spots" 1 ["net"] f__law_spots) (G__law_grades : CalG P w K mg base (pmK K) "_law_grades" 3 ["bag"] f__law_grades) (G__law_net : CalG P w K mg base (pmK K) "_law_net" 3 ["bag", "many"] f__law_net) (G__law_bag : CalG P w K mg base (pmK K) "_law_bag" 1 ["script"] f__law_bag) (m_len : mg "len" = none) (m_tuple : mg "tuple" = none) (m_enumerate : mg "enumerate" = none) (m_sum : mg "sum" = none) (m_range : mg "range" = none) (m_sorted : mg "sorted" = none) (g_Nothing : mg "Nothing" = some (.ref (He.ga K "Nothing"))) (e_Nothing : (He.Fa.exc "Nothing").ok K = true) (x_Nothing : PySem.W.exmOne K (.ref (He.ga K "Nothing")) (.ref (He.ga K "Nothing")) = some true) : FnG P w K mg base 7 f fd ["script"] (spF (pmK K) 1 f_law) :=
  fnG FD sc_law rfl fun cdv A outer s H E c => b_law c G_asked_of G__law_take G__law_alike G_do_fit G__law_needles G_are_single G_first_double G_ways_of G_spots_of G__law_roads G__law_spots G__law_grades G__law_net G__law_bag m_len m_tuple m_enumerate m_sum m_range m_sorted g_Nothing e_Nothing x_Nothing
theorem bd_law {f : Addr} {fd : FuncData} (FD : FunD K "law" "law" (defArgs (top 33)) (defBody (top 33)) (defScope (top 33)) [] [] f fd) : Binds K fd ["script"] [] := FD.bindsN fun _ _ _ _ _ _ us hl => match us, hl with | [_], _ => rfl
end
theorem facts {P : Program} {w : World} {K : PySem.W.Frag} {h : Heap} {mg : Str → Option Value} {f : Addr} (X : K.In h) (G : h.Ns mainGlobals mg) (hfa : mg ("law" : Str) = some (.ref f)) (c : He.SaysX faAll fnAll [] [] exB w h K) :
    ∃ fd : FuncData, (∀ (s : Shared) (v : Value), BindsTo s fd ⟨[v], []⟩ [("script", v)]) ∧ ∀ base : Heap, K.In base → base.Ns mainGlobals mg → FnG P w K mg base 7 f fd ["script"] (spF (pmK K) 1 f_law) := by
  have cd := c.t.d
  obtain ⟨fd__law_bag, FD__law_bag⟩ := cd.def_ 0 (d := d__law_bag) rfl
  obtain ⟨fd__law_spots, FD__law_spots⟩ := cd.def_ 1 (d := d__law_spots) rfl
  obtain ⟨fd__law_take, FD__law_take⟩ := cd.def_ 2 (d := d__law_take) rfl
  obtain ⟨fd__law_some, FD__law_some⟩ := cd.def_ 3 (d := d__law_some) rfl
  obtain ⟨fd__law_net, FD__law_net⟩ := cd.def_ 4 (d := d__law_net) rfl
  obtain ⟨fd__law_grades, FD__law_grades⟩ := cd.def_ 5 (d := d__law_grades) rfl
  obtain ⟨fd__law_roads, FD__law_roads⟩ := cd.def_ 6 (d := d__law_roads) rfl
  obtain ⟨fd__law_alike, FD__law_alike⟩ := cd.def_ 7 (d := d__law_alike) rfl
  obtain ⟨fd__law_needles, FD__law_needles⟩ := cd.def_ 8 (d := d__law_needles) rfl
  obtain ⟨fd_many_uses, FD_many_uses⟩ := cd.def_ 9 (d := d_many_uses) rfl
  obtain ⟨fd_inputs_of, FD_inputs_of⟩ := cd.def_ 10 (d := d_inputs_of) rfl
  obtain ⟨fd_spots_of, FD_spots_of⟩ := cd.def_ 11 (d := d_spots_of) rfl
  obtain ⟨fd_is_near, FD_is_near⟩ := cd.def_ 12 (d := d_is_near) rfl
  obtain ⟨fd_is_integer, FD_is_integer⟩ := cd.def_ 13 (d := d_is_integer) rfl
  obtain ⟨fd_is_count, FD_is_count⟩ := cd.def_ 14 (d := d_is_count) rfl
  obtain ⟨fd_asked_of, FD_asked_of⟩ := cd.def_ 15 (d := d_asked_of) rfl
  obtain ⟨fd_add_ways, FD_add_ways⟩ := cd.def_ 16 (d := d_add_ways) rfl
  obtain ⟨fd_ways_of, FD_ways_of⟩ := cd.def_ 17 (d := d_ways_of) rfl
  obtain ⟨fd_first_double, FD_first_double⟩ := cd.def_ 18 (d := d_first_double) rfl
  obtain ⟨fd_are_single, FD_are_single⟩ := cd.def_ 19 (d := d_are_single) rfl
  obtain ⟨fd_do_fit, FD_do_fit⟩ := cd.def_ 20 (d := d_do_fit) rfl
  obtain ⟨fd_law, FD_law⟩ := cd.def_ 21 (d := d_law) rfl
  have g__law_bag := He.glo_ok X G (cd.fact 0 (f := .glo "_law_bag") rfl)
  have g__law_spots := He.glo_ok X G (cd.fact 1 (f := .glo "_law_spots") rfl)
  have g__law_take := He.glo_ok X G (cd.fact 2 (f := .glo "_law_take") rfl)
  have g__law_some := He.glo_ok X G (cd.fact 3 (f := .glo "_law_some") rfl)
  have g__law_net := He.glo_ok X G (cd.fact 4 (f := .glo "_law_net") rfl)
  have g__law_grades := He.glo_ok X G (cd.fact 5 (f := .glo "_law_grades") rfl)
  have g__law_roads := He.glo_ok X G (cd.fact 6 (f := .glo "_law_roads") rfl)
  have g__law_alike := He.glo_ok X G (cd.fact 7 (f := .glo "_law_alike") rfl)
  have g__law_needles := He.glo_ok X G (cd.fact 8 (f := .glo "_law_needles") rfl)
  have g_many_uses := He.glo_ok X G (cd.fact 9 (f := .glo "many_uses") rfl)
  have g_inputs_of := He.glo_ok X G (cd.fact 10 (f := .glo "inputs_of") rfl)
  have g_spots_of := He.glo_ok X G (cd.fact 11 (f := .glo "spots_of") rfl)
  have g_is_near := He.glo_ok X G (cd.fact 12 (f := .glo "is_near") rfl)
  have g_is_integer := He.glo_ok X G (cd.fact 13 (f := .glo "is_integer") rfl)
  have g_is_count := He.glo_ok X G (cd.fact 14 (f := .glo "is_count") rfl)
  have g_asked_of := He.glo_ok X G (cd.fact 15 (f := .glo "asked_of") rfl)
  have g_add_ways := He.glo_ok X G (cd.fact 16 (f := .glo "add_ways") rfl)
  have g_ways_of := He.glo_ok X G (cd.fact 17 (f := .glo "ways_of") rfl)
  have g_first_double := He.glo_ok X G (cd.fact 18 (f := .glo "first_double") rfl)
  have g_are_single := He.glo_ok X G (cd.fact 19 (f := .glo "are_single") rfl)
  have g_do_fit := He.glo_ok X G (cd.fact 20 (f := .glo "do_fit") rfl)
  have g_law := He.glo_ok X G (cd.fact 21 (f := .glo "law") rfl)
  have m_abs := He.free_ok X G (cd.fact 22 (f := .free "abs") rfl)
  have m_int := He.free_ok X G (cd.fact 23 (f := .free "int") rfl)
  have m_len := He.free_ok X G (cd.fact 24 (f := .free "len") rfl)
  have m_tuple := He.free_ok X G (cd.fact 25 (f := .free "tuple") rfl)
  have m_range := He.free_ok X G (cd.fact 26 (f := .free "range") rfl)
  have m_enumerate := He.free_ok X G (cd.fact 27 (f := .free "enumerate") rfl)
  have m_repr := He.free_ok X G (cd.fact 28 (f := .free "repr") rfl)
  have m_zip := He.free_ok X G (cd.fact 29 (f := .free "zip") rfl)
  have m_isinstance := He.free_ok X G (cd.fact 30 (f := .free "isinstance") rfl)
  have m_bool := He.free_ok X G (cd.fact 31 (f := .free "bool") rfl)
  have m_all := He.free_ok X G (cd.fact 32 (f := .free "all") rfl)
  have m_sorted := He.free_ok X G (cd.fact 33 (f := .free "sorted") rfl)
  have m_sum := He.free_ok X G (cd.fact 34 (f := .free "sum") rfl)
  have g_UNARY := He.glo_ok X G (cd.fact 35 (f := .glo "UNARY") rfl)
  have g_BINARY := He.glo_ok X G (cd.fact 36 (f := .glo "BINARY") rfl)
  have g_Nothing := He.glo_ok X G (cd.fact 37 (f := .glo "Nothing") rfl)
  have e_Nothing := cd.fact 38 (f := .exc "Nothing") rfl
  have x_Nothing := He.exm_ok (cd.fact 39 (f := .exm "Nothing" "Nothing" true) rfl)
  obtain ⟨t_UNARY, mo0⟩ := He.ba (show (He.tupB K "UNARY" _ && _) = true from c.more)
  have t_BINARY := mo0
  have e := hfa.symm.trans g_law
  cases e
  refine ⟨fd_law, fun s v => FunD.bindsA (ps := ["script"]) FD_law (fun _ _ _ _ _ _ us hl => match us, hl with | [_], _ => rfl) s [v] rfl, fun base _ _ => ?_⟩
  have G__law_bag : CalG P w K mg base (pmK K) "_law_bag" 1 ["script"] f__law_bag := ⟨_, fd__law_bag, ok__law_bag FD__law_bag m_abs, bd__law_bag FD__law_bag, g__law_bag, FD__law_bag.kp⟩
  have G__law_spots : CalG P w K mg base (pmK K) "_law_spots" 1 ["net"] f__law_spots := ⟨_, fd__law_spots, ok__law_spots FD__law_spots , bd__law_spots FD__law_spots, g__law_spots, FD__law_spots.kp⟩
  have G__law_take : CalG P w K mg base (pmK K) "_law_take" 1 ["bag", "many"] f__law_take := ⟨_, fd__law_take, ok__law_take FD__law_take m_int, bd__law_take FD__law_take, g__law_take, FD__law_take.kp⟩
  have G__law_some : CalG P w K mg base (pmK K) "_law_some" 2 ["bag", "things"] f__law_some := ⟨_, fd__law_some, ok__law_some FD__law_some G__law_take m_len, bd__law_some FD__law_some, g__law_some, FD__law_some.kp⟩
  have G__law_net : CalG P w K mg base (pmK K) "_law_net" 3 ["bag", "many"] f__law_net := ⟨_, fd__law_net, ok__law_net FD__law_net G__law_take G__law_some m_len m_tuple m_range, bd__law_net FD__law_net, g__law_net, FD__law_net.kp⟩
  have G__law_grades : CalG P w K mg base (pmK K) "_law_grades" 3 ["bag"] f__law_grades := ⟨_, fd__law_grades, ok__law_grades FD__law_grades G__law_some, bd__law_grades FD__law_grades, g__law_grades, FD__law_grades.kp⟩
  have G__law_roads : CalG P w K mg base (pmK K) "_law_roads" 2 ["net", "grades", "value"] f__law_roads := ⟨_, fd__law_roads, ok__law_roads FD__law_roads G__law_spots m_len m_enumerate, bd__law_roads FD__law_roads, g__law_roads, FD__law_roads.kp⟩
  have G__law_alike : CalG P w K mg base (pmK K) "_law_alike" 1 ["found", "due"] f__law_alike := ⟨_, fd__law_alike, ok__law_alike FD__law_alike m_repr, bd__law_alike FD__law_alike, g__law_alike, FD__law_alike.kp⟩
  have G__law_needles : CalG P w K mg base (pmK K) "_law_needles" 1 ["many", "order"] f__law_needles := ⟨_, fd__law_needles, ok__law_needles FD__law_needles m_tuple m_zip m_range, bd__law_needles FD__law_needles, g__law_needles, FD__law_needles.kp⟩
  have G_many_uses : CalG P w K mg base (pmK K) "many_uses" 1 ["node"] f_many_uses := ⟨_, fd_many_uses, ok_many_uses FD_many_uses g_UNARY t_UNARY g_BINARY t_BINARY, bd_many_uses FD_many_uses, g_many_uses, FD_many_uses.kp⟩
  have G_inputs_of : CalG P w K mg base (pmK K) "inputs_of" 2 ["node"] f_inputs_of := ⟨_, fd_inputs_of, ok_inputs_of FD_inputs_of G_many_uses m_tuple, bd_inputs_of FD_inputs_of, g_inputs_of, FD_inputs_of.kp⟩
  have G_spots_of : CalG P w K mg base (pmK K) "spots_of" 3 ["net"] f_spots_of := ⟨_, fd_spots_of, ok_spots_of FD_spots_of G_inputs_of, bd_spots_of FD_spots_of, g_spots_of, FD_spots_of.kp⟩
  have G_is_near : CalG P w K mg base (pmK K) "is_near" 1 ["net", "number", "grades"] f_is_near := ⟨_, fd_is_near, ok_is_near FD_is_near m_len, bd_is_near FD_is_near, g_is_near, FD_is_near.kp⟩
  have G_is_integer : CalG P w K mg base (pmK K) "is_integer" 1 ["thing"] f_is_integer := ⟨_, fd_is_integer, ok_is_integer FD_is_integer m_isinstance m_int m_bool, bd_is_integer FD_is_integer, g_is_integer, FD_is_integer.kp⟩
  have G_is_count : CalG P w K mg base (pmK K) "is_count" 2 ["thing"] f_is_count := ⟨_, fd_is_count, ok_is_count FD_is_count G_is_integer, bd_is_count FD_is_count, g_is_count, FD_is_count.kp⟩
  have G_asked_of : CalG P w K mg base (pmK K) "asked_of" 4 ["net", "grades", "needles"] f_asked_of := ⟨_, fd_asked_of, ok_asked_of FD_asked_of G_is_near G_is_count G_spots_of m_tuple m_range m_len m_isinstance m_all g_Nothing e_Nothing x_Nothing, bd_asked_of FD_asked_of, g_asked_of, FD_asked_of.kp⟩
  have G_add_ways : CalG P w K mg base (pmK K) "add_ways" 1 ["row", "number", "behind"] f_add_ways := ⟨_, fd_add_ways, ok_add_ways FD_add_ways , bd_add_ways FD_add_ways, g_add_ways, FD_add_ways.kp⟩
  have G_ways_of : CalG P w K mg base (pmK K) "ways_of" 4 ["net", "grades"] f_ways_of := ⟨_, fd_ways_of, ok_ways_of FD_ways_of G_add_ways G_is_near G_spots_of m_tuple m_sorted m_range m_len, bd_ways_of FD_ways_of, g_ways_of, FD_ways_of.kp⟩
  have G_first_double : CalG P w K mg base (pmK K) "first_double" 5 ["net", "grades"] f_first_double := ⟨_, fd_first_double, ok_first_double FD_first_double G_ways_of m_enumerate, bd_first_double FD_first_double, g_first_double, FD_first_double.kp⟩
  have G_are_single : CalG P w K mg base (pmK K) "are_single" 6 ["net", "grades"] f_are_single := ⟨_, fd_are_single, ok_are_single FD_are_single G_first_double, bd_are_single FD_are_single, g_are_single, FD_are_single.kp⟩
  have G_do_fit : CalG P w K mg base (pmK K) "do_fit" 5 ["net", "grades", "order", "needles"] f_do_fit := ⟨_, fd_do_fit, ok_do_fit FD_do_fit G_asked_of m_enumerate, bd_do_fit FD_do_fit, g_do_fit, FD_do_fit.kp⟩
  exact ok_law FD_law G_asked_of G__law_take G__law_alike G_do_fit G__law_needles G_are_single G_first_double G_ways_of G_spots_of G__law_roads G__law_spots G__law_grades G__law_net G__law_bag m_len m_tuple m_enumerate m_sum m_range m_sorted g_Nothing e_Nothing x_Nothing
end Lw
open PySem PySem.W PySem.Calls PyProof.Rows
theorem Lw.holds (hl : ∀ ns : List Int, ns.length ≤ 63 → ∃ st, Lw.f_law [.rol (ns.map Ev.D.int)] [] = .ok (.bl true) st) : PySem.Challenge.rw_maskwright_k33_whole_ways_and_what_is_as.Holds := by
  w_on; o_law
  refine HandSHeadRun.head_any (r := OpenLaw.row PySem.Challenge.rw_maskwright_k33_whole_ways_and_what_is_as) (q := view (OpenLaw.row PySem.Challenge.rw_maskwright_k33_whole_ways_and_what_is_as).prog [33]) (H := Lw.hk) (ob := Lw.ob) (M := 20000) (loose := Lw.loose) (d := HandSHeadRun.topDef (OpenLaw.row PySem.Challenge.rw_maskwright_k33_whole_ways_and_what_is_as).prog 33) (kwd := []) Lw.ob_eq
    (by kernel_rfl) (fun s => by kernel_rfl) Lw.run (by kernel_rfl) (by kernel_rfl) (by kernel_rfl) (by rfl) (by first | assumption | decide +kernel) (by decide +kernel) ⟨rfl, rfl, rfl, rfl, rfl, by decide +kernel⟩ ?hw ?hc
  case hw => w_witness2
  case hc =>
    refine Ev.walkG (l := PySem.Challenge.rw_maskwright_k33_whole_ways_and_what_is_as) (n := 63) (k := 7) (x := "script") rfl (by decide) (by kernel_rfl) ⟨rfl, by decide, by decide⟩ ?F
    intro w mg fa h Y G hmg0
    obtain ⟨K, KX, c⟩ := Y
    have hmg : mg ("law" : PySem.Str) = some (.ref fa) := by
      have e : (HandSHeadRun.topDef (OpenLaw.row PySem.Challenge.rw_maskwright_k33_whole_ways_and_what_is_as).prog 33).name = ("law" : PySem.Str) := by kernel_rfl
      rw [← e]
      exact hmg0
    obtain ⟨fd, hb, hF⟩ := Lw.facts (P := (PySem.Challenge.rw_maskwright_k33_whole_ways_and_what_is_as).prog) (w := w) KX G hmg c
    exact ⟨K, fd, _, KX, hb, fun H a ns hn only sq => Ev.spF_law only sq (hl ns hn), hF⟩
end

section
set_option Elab.async false
set_option linter.all false
set_option maxRecDepth 100000
set_option autoImplicit false
set_option maxHeartbeats 1000000
/-! M1: reckoning with the evaluator -/
namespace Ev
open PySem L2
def Wf (st : Sto) : Prop := st.all (closedO st.length) = true
mutual
theorem closed_le {n m : Nat} (h : n ≤ m) : ∀ d : D, closed n d = true → closed m d = true
  | .tup xs, c => closeds_le h xs c
  | .rol xs, c => closeds_le h xs c
  | .ref k, c => decide_eq_true (Nat.lt_of_lt_of_le (of_decide_eq_true c) h)
  | .non, _ => rfl
  | .bl _, _ => rfl
  | .int _, _ => rfl
  | .str _, _ => rfl
  | .fn _, _ => rfl
theorem closeds_le {n m : Nat} (h : n ≤ m) : ∀ ds : List D, closeds n ds = true → closeds m ds = true
  | [], _ => rfl
  | d :: ds, c => by
    simp only [closeds, Bool.and_eq_true] at c ⊢
    exact ⟨closed_le h d c.1, closeds_le h ds c.2⟩
end
theorem closedO_le {n m : Nat} (h : n ≤ m) (o : MO) (c : closedO n o = true) : closedO m o = true := by
  cases o <;> exact closeds_le h _ c
theorem Wf.nil : Wf [] := rfl
theorem Wf.at_ {st : Sto} {n : Nat} {o : MO} (w : Wf st) (h : st[n]? = some o) : closedO st.length o = true := List.all_eq_true.mp w o (List.mem_of_getElem? h)
theorem Wf.app {st js : Sto} (w : Wf st) (h : js.all (closedO (st.length + js.length)) = true) : Wf (st ++ js) := by
  unfold Wf
  rw [List.all_append, List.length_append, h, Bool.and_true, List.all_eq_true]
  exact fun o ho => closedO_le (Nat.le_add_right _ _) o (List.all_eq_true.mp w o ho)
theorem Wf.set {st : Sto} {n : Nat} {o : MO} (w : Wf st) (h : closedO st.length o = true) : Wf (st.set n o) := by
  unfold Wf
  rw [List.length_set, List.all_eq_true]
  intro q hq
  rcases List.mem_or_eq_of_mem_set hq with z | z
  · exact List.all_eq_true.mp w q z
  · rw [z]; exact h
/-- a def that leaves only rubbish -/
theorem gc_old {st js : Sto} {d : D} (w : Wf st) (h : closed st.length d = true) : gc st.length d (st ++ js) = .ok d st := by
  unfold gc
  rw [List.take_left' rfl, if_pos (show st.all (closedO st.length) = true from w), if_pos h]
theorem gc_old0 {st : Sto} {d : D} (w : Wf st) (h : closed st.length d = true) : gc st.length d st = .ok d st := by
  have := gc_old (js := []) w h
  rwa [List.append_nil] at this
/-- .. that leaves one thing and rubbish -/
theorem gc_new {st js : Sto} {k : Nat} {o : MO} (w : Wf st) (hk : js[k]? = some o) (h : closedO st.length o = true) : gc st.length (.ref (st.length + k)) (st ++ js) = .ok (.ref st.length) (st ++ [o]) := by
  unfold gc
  rw [List.take_left' rfl, if_pos (show st.all (closedO st.length) = true from w), if_neg (by simp [closed])]
  dsimp only
  rw [List.getElem?_append_right (Nat.le_add_right _ _), Nat.add_sub_cancel_left, hk]
  dsimp only
  rw [if_pos ⟨h, Nat.le_add_right _ _⟩]
/-- .. after a write -/
theorem gc_oldW {st st' : Sto} {n : Nat} {d : D} (w : Wf (st'.take n)) (hn : (st'.take n).length = n) (h : closed n d = true) : gc n d st' = .ok d (st'.take n) := by
  unfold gc
  rw [if_pos (by unfold Wf at w; rw [hn] at w; exact w), if_pos h]

/-! ### loops -/
theorem forL_inv {bind : D → En → Option En} {body : En → Sto → SO} {chk : Sto → Bool} (Inv : Nat → En → Sto → Prop) {xs : List D}
    (hc : ∀ i env st, Inv i env st → chk st = true) (hs : ∀ i env st x, Inv i env st → xs[i]? = some x → ∃ env1 env2 st2, bind x env = some env1 ∧ (body env1 st = .nx env2 st2 ∨ body env1 st = .ct env2 st2) ∧ Inv (i + 1) env2 st2) {env : En} {st : Sto} (h0 : Inv 0 env st) :
    ∃ env' st', forL bind body chk xs env st = .nx env' st' ∧ Inv xs.length env' st' := by
  have go : ∀ (ys : List D) (i : Nat) (env : En) (st : Sto), xs.drop i = ys → i + ys.length = xs.length → Inv i env st → ∃ env' st', forL bind body chk ys env st = .nx env' st' ∧ Inv xs.length env' st' := by
    intro ys
    induction ys with
    | nil =>
      intro i env st _ hi h
      simp at hi
      subst hi
      exact ⟨env, st, by simp only [forL, hc _ _ _ h, if_true], h⟩
    | cons y ys ih =>
      intro i env st hd hi h
      have hy : xs[i]? = some y := by
        have := congrArg (·[0]?) hd
        simpa [List.getElem?_drop] using this
      obtain ⟨env1, env2, st2, h1, h2, h3⟩ := hs i env st y h hy
      have hd2 : xs.drop (i + 1) = ys := by
        rw [← List.drop_drop, hd]; rfl
      obtain ⟨e', s', h4, h5⟩ := ih (i + 1) env2 st2 hd2 (by simp at hi; omega) h3
      refine ⟨e', s', ?_, h5⟩
      simp only [forL, hc _ _ _ h, if_true, h1]
      rcases h2 with h2 | h2 <;> simp only [h2, h4]
  exact go xs 0 env st rfl (by simp) h0
/-- .. that may return -/
theorem forL_ret {bind : D → En → Option En} {body : En → Sto → SO} {chk : Sto → Bool} (Inv : Nat → En → Sto → Prop) (Rt : Nat → D → Sto → Prop) {xs : List D}
    (hc : ∀ i env st, Inv i env st → chk st = true) (hs : ∀ i env st x, Inv i env st → xs[i]? = some x → ∃ env1, bind x env = some env1 ∧ ((∃ env2 st2, body env1 st = .nx env2 st2 ∧ Inv (i + 1) env2 st2) ∨ ∃ d st2, body env1 st = .rt d st2 ∧ Rt i d st2)) {env : En} {st : Sto} (h0 : Inv 0 env st) :
    (∃ env' st', forL bind body chk xs env st = .nx env' st' ∧ Inv xs.length env' st') ∨ ∃ i d st', i < xs.length ∧ forL bind body chk xs env st = .rt d st' ∧ Rt i d st' := by
  have go : ∀ (ys : List D) (i : Nat) (env : En) (st : Sto), xs.drop i = ys → i + ys.length = xs.length → Inv i env st → (∃ env' st', forL bind body chk ys env st = .nx env' st' ∧ Inv xs.length env' st') ∨ ∃ i d st', i < xs.length ∧ forL bind body chk ys env st = .rt d st' ∧ Rt i d st' := by
    intro ys
    induction ys with
    | nil =>
      intro i env st _ hi h
      simp at hi
      subst hi
      exact .inl ⟨env, st, by simp only [forL, hc _ _ _ h, if_true], h⟩
    | cons y ys ih =>
      intro i env st hd hi h
      have hy : xs[i]? = some y := by
        have := congrArg (·[0]?) hd
        simpa [List.getElem?_drop] using this
      obtain ⟨env1, h1, h2⟩ := hs i env st y h hy
      have hd2 : xs.drop (i + 1) = ys := by
        rw [← List.drop_drop, hd]; rfl
      rcases h2 with ⟨env2, st2, h2, h3⟩ | ⟨d, st2, h2, h3⟩
      · rcases ih (i + 1) env2 st2 hd2 (by simp at hi; omega) h3 with ⟨e', s', h4, h5⟩ | ⟨j, d, s', hj, h4, h5⟩
        · exact .inl ⟨e', s', by simp only [forL, hc _ _ _ h, if_true, h1, h2, h4], h5⟩
        · exact .inr ⟨j, d, s', hj, by simp only [forL, hc _ _ _ h, if_true, h1, h2, h4], h5⟩
      · exact .inr ⟨i, d, st2, by simp at hi; omega, by simp only [forL, hc _ _ _ h, if_true, h1, h2], h3⟩
  exact go xs 0 env st rfl (by simp) h0
/-- a comprehension that changes nothing -/
theorem lcL_map {bind : D → En → Option En} {t : En → Sto → Out Bool} {f : En → Sto → Out D} {chk : Sto → Bool} {env : En} {st : Sto} (g : D → D) (hc : chk st = true) : ∀ (xs acc : List D),
    (∀ x ∈ xs, ∃ env1, bind x env = some env1 ∧ t env1 st = .ok true st ∧ f env1 st = .ok (g x) st) → lcL bind t f chk env acc xs st = .ok (acc ++ xs.map g) st
  | [], acc, _ => by simp [lcL, hc]
  | x :: xs, acc, h => by
    obtain ⟨env1, h1, h2, h3⟩ := h x List.mem_cons_self
    simp only [lcL, hc, if_true, h1, h2, noexc_ok, Out.bind_ok, h3]
    rw [lcL_map g hc xs _ fun y hy => h y (List.mem_cons_of_mem _ hy)]
    simp
/-- .. with a condition -/
theorem lcL_filter {bind : D → En → Option En} {t : En → Sto → Out Bool} {f : En → Sto → Out D} {chk : Sto → Bool} {env : En} {st : Sto} (p : D → Bool) (g : D → D) (hc : chk st = true) : ∀ (xs acc : List D),
    (∀ x ∈ xs, ∃ env1, bind x env = some env1 ∧ t env1 st = .ok (p x) st ∧ (p x = true → f env1 st = .ok (g x) st)) → lcL bind t f chk env acc xs st = .ok (acc ++ (xs.filter p).map g) st
  | [], acc, _ => by simp [lcL, hc]
  | x :: xs, acc, h => by
    obtain ⟨env1, h1, h2, h3⟩ := h x List.mem_cons_self
    have ih := fun acc => lcL_filter (f := f) p g hc xs acc fun y hy => h y (List.mem_cons_of_mem _ hy)
    cases e : p x with
    | true =>
      rw [e] at h2
      simp only [lcL, hc, if_true, h1, h2, noexc_ok, Out.bind_ok, h3 e, ih, List.filter_cons, e]
      simp
    | false =>
      rw [e] at h2
      simp only [lcL, hc, if_true, h1, h2, noexc_ok, Out.bind_ok, ih, List.filter_cons, e]
      simp
/-- .. that makes something at each turn -/
theorem lcL_inv {bind : D → En → Option En} {t : En → Sto → Out Bool} {f : En → Sto → Out D} {chk : Sto → Bool} {env : En} (Inv : Nat → List D → Sto → Prop) {xs : List D} (hc : ∀ i ys st, Inv i ys st → chk st = true)
    (hs : ∀ i ys st x, Inv i ys st → xs[i]? = some x → ∃ env1 st1 st2 y, bind x env = some env1 ∧ t env1 st = .ok true st1 ∧ f env1 st1 = .ok y st2 ∧ Inv (i + 1) (ys ++ [y]) st2) {st : Sto} (h0 : Inv 0 [] st) :
    ∃ ys st', lcL bind t f chk env [] xs st = .ok ys st' ∧ Inv xs.length ys st' := by
  have go : ∀ (zs : List D) (i : Nat) (acc : List D) (st : Sto), xs.drop i = zs → i + zs.length = xs.length → Inv i acc st → ∃ ys st', lcL bind t f chk env acc zs st = .ok ys st' ∧ Inv xs.length ys st' := by
    intro zs
    induction zs with
    | nil =>
      intro i acc st _ hi h
      simp at hi
      subst hi
      exact ⟨acc, st, by simp only [lcL, hc _ _ _ h, if_true], h⟩
    | cons y zs ih =>
      intro i acc st hd hi h
      have hy : xs[i]? = some y := by
        have := congrArg (·[0]?) hd
        simpa [List.getElem?_drop] using this
      obtain ⟨env1, st1, st2, r, h1, h2, h3, h4⟩ := hs i acc st y h hy
      have hd2 : xs.drop (i + 1) = zs := by
        rw [← List.drop_drop, hd]; rfl
      obtain ⟨ys, s', h5, h6⟩ := ih (i + 1) _ st2 hd2 (by simp at hi; omega) h4
      exact ⟨ys, s', by simp only [lcL, hc _ _ _ h, if_true, h1, h2, noexc_ok, Out.bind_ok, h3, h5], h6⟩
  exact go xs 0 [] st rfl (by simp) h0
/-- a while by a measure -/
theorem whL_inv {c : En → Sto → Out Bool} {body : En → Sto → SO} (Inv : Nat → En → Sto → Prop)
    (hs : ∀ m env st, Inv m env st → (c env st = .ok false st ∨ ∃ st1 env2 st2 m', c env st = .ok true st1 ∧ body env st1 = .nx env2 st2 ∧ m' < m ∧ Inv m' env2 st2)) (Fin : En → Sto → Prop) (hf : ∀ m env st, Inv m env st → c env st = .ok false st → Fin env st) :
    ∀ (m n : Nat) (env : En) (st : Sto), m < n → Inv m env st → ∃ env' st', whL c body n env st = .nx env' st' ∧ Fin env' st' := by
  intro m
  induction m using Nat.strongRecOn with
  | ind m ih =>
    intro n env st hn h
    cases n with
    | zero => omega
    | succ n =>
      rcases hs m env st h with e | ⟨st1, env2, st2, m', e1, e2, hm, h2⟩
      · exact ⟨env, st, by simp only [whL, e, Out.sb_ok], hf m env st h e⟩
      · obtain ⟨e', s', h3, h4⟩ := ih m' hm n env2 st2 (by omega) h2
        exact ⟨e', s', by simp only [whL, e1, Out.sb_ok, e2, h3], h4⟩

/-! ### reckoning by simp: the rest of a code stands shut till its turn -/
section
variable {F : Fns}
def kV (o : Option (Option D)) (st : Sto) : Out D := match o with
  | some (some d) => .ok d st
  | _ => .stk
@[simp] theorem kV_ok (d : D) (st : Sto) : kV (some (some d)) st = .ok d st := rfl
def kTup (ds : List D) (st : Sto) : Out D := if ds.length ≤ SZ then .ok (.tup ds) st else .stk
def kLst (ds : List D) (st : Sto) : Out D := newL ds st
def kDct (ks : List Str) (ds : List D) (st : Sto) : Out D := if ds.length = ks.length ∧ ks.length ≤ 15 ∧ ks.Nodup then .ok (.ref st.length) (st ++ [.dct ((ks.zip ds).map fun p => (.inr p.1, p.2))]) else .stk
def kOp2 (o : Bop) (x : D) (y : D) (st : Sto) : Out D := noexc (evOp o x y st)
def kOp1 (F : Fns) (o : Bop) (b : E) (env : En) (x : D) (st : Sto) : Out D := (evE F b env st).bind (kOp2 o x)
def kCmp2 (o : Cop) (x : D) (y : D) (st : Sto) : Out D := noexc (evCmp o x y st)
def kCmp1 (F : Fns) (o : Cop) (b : E) (env : En) (x : D) (st : Sto) : Out D := (evE F b env st).bind (kCmp2 o x)
def kIsN (x : D) (st : Sto) : Out D := .ok (.bl (decide (x = .non))) st
def kNotN (x : D) (st : Sto) : Out D := .ok (.bl (!decide (x = .non))) st
def kAnd2 (F : Fns) (b : E) (env : En) (x : D) (st : Sto) (t : Option Bool) : Out D := match t with
  | some true => evE F b env st
  | some false => .ok x st
  | none => .stk
@[simp] theorem kAnd2_t (b : E) (env : En) (x : D) (st : Sto) : kAnd2 F b env x st (some true) = evE F b env st := rfl
@[simp] theorem kAnd2_f (b : E) (env : En) (x : D) (st : Sto) : kAnd2 F b env x st (some false) = .ok x st := rfl
def kAnd (F : Fns) (b : E) (env : En) (x : D) (st : Sto) : Out D := kAnd2 F b env x st (truD st x)
def kOr2 (F : Fns) (b : E) (env : En) (x : D) (st : Sto) (t : Option Bool) : Out D := match t with
  | some true => .ok x st
  | some false => evE F b env st
  | none => .stk
@[simp] theorem kOr2_t (b : E) (env : En) (x : D) (st : Sto) : kOr2 F b env x st (some true) = .ok x st := rfl
@[simp] theorem kOr2_f (b : E) (env : En) (x : D) (st : Sto) : kOr2 F b env x st (some false) = evE F b env st := rfl
def kOr (F : Fns) (b : E) (env : En) (x : D) (st : Sto) : Out D := kOr2 F b env x st (truD st x)
def kTru2 (st : Sto) (t : Option Bool) : Out Bool := match t with
  | some b => .ok b st
  | none => .stk
@[simp] theorem kTru2_s (st : Sto) (b : Bool) : kTru2 st (some b) = .ok b st := rfl
def kTru (d : D) (st : Sto) : Out Bool := kTru2 st (truD st d)
def kNot (b : Bool) (st : Sto) : Out D := .ok (.bl (!b)) st
def kIf (F : Fns) (a b : E) (env : En) (k : Bool) (st : Sto) : Out D := match k with
  | true => evE F a env st
  | false => evE F b env st
@[simp] theorem kIf_t (a b : E) (env : En) (st : Sto) : kIf F a b env true st = evE F a env st := rfl
@[simp] theorem kIf_f (a b : E) (env : En) (st : Sto) : kIf F a b env false st = evE F b env st := rfl
def kCall (F : Fns) (f : Nat) (ds : List D) (st : Sto) : Out D := F f ds st
def kBi (b : Bi) (n : Nat) (d : D) (st : Sto) : Out D := noexc (evBi b n d st)
def kGc (n : Nat) (r : D) (st : Sto) : Out D := gc n r st
def kM0 (m : Mt) (d : D) (st : Sto) : Out D := noexc (evMth0 m d st)
def kM1b (m : Mt) (d : D) (x : D) (st : Sto) : Out D := noexc (evMth1 m d x st)
def kM1 (F : Fns) (m : Mt) (e : E) (env : En) (d : D) (st : Sto) : Out D := if isL st d = false then .stk else (evE F e env st).bind (kM1b m d)
def kG1b (d : D) (x : D) (st : Sto) : Out D := noexc (evGet d x .non st)
def kG1 (F : Fns) (k : E) (env : En) (d : D) (st : Sto) : Out D := if isDc st d = false then .stk else (evE F k env st).bind (kG1b d)
def kG2c (d x : D) (y : D) (st : Sto) : Out D := noexc (evGet d x y st)
def kG2b (F : Fns) (e : E) (env : En) (d : D) (x : D) (st : Sto) : Out D := (evE F e env st).bind (kG2c d x)
def kG2 (F : Fns) (k e : E) (env : En) (d : D) (st : Sto) : Out D := if isDc st d = false then .stk else (evE F k env st).bind (kG2b F e env d)
def kIx2 (x : D) (y : D) (st : Sto) : Out D := noexc (evIx x y st)
def kIx1 (F : Fns) (i : E) (env : En) (x : D) (st : Sto) : Out D := (evE F i env st).bind (kIx2 x)
def kSl3 (x : D) (l : Option Int) (h : Option Int) (st : Sto) : Out D := noexc (evSl x l h st)
def kSl2 (F : Fns) (hi : EO) (env : En) (x : D) (l : Option Int) (st : Sto) : Out D := (evEO F hi env st).bind (kSl3 x l)
def kSl1 (F : Fns) (lo hi : EO) (env : En) (x : D) (st : Sto) : Out D := (evEO F lo env st).bind (kSl2 F hi env x)
def kLc2 (ys : List D) (st : Sto) : Out D := .ok (.ref st.length) (st ++ [.lst ys])
def lcX (F : Fns) (elt : E) (g : G) (c : EO) (own : List Nat) (env : En) (chk : Chk) (xs : List D) (st : Sto) : Out (List D) := lcL (bindG g) (fun env st => evC F c env st) (fun env st => evE F elt env st) chk.ok (wipeE env own) [] xs st
def kLc1 (F : Fns) (elt : E) (g : G) (c : EO) (own : List Nat) (env : En) (p : List D × Chk) (st : Sto) : Out D := if p.1.length ≤ SZ then (lcX F elt g c own env p.2 p.1 st).bind kLc2 else .stk
def kL2 (x : D) (xs : List D) (st : Sto) : Out (List D) := .ok (x :: xs) st
def kL1 (F : Fns) (es : EL) (env : En) (x : D) (st : Sto) : Out (List D) := (evEL F es env st).bind (kL2 x)
def kOS (x : D) (st : Sto) : Out (Option Int) := match x with
  | .int i => .ok (some i) st
  | _ => .stk
@[simp] theorem kOS_i (i : Int) (st : Sto) : kOS (.int i) st = .ok (some i) st := rfl
theorem e_v (i : Nat) (env : En) (st : Sto) : evE F (.v i) env st = kV env[i]? st := by simp only [evE]; rfl
theorem e_k (d : D) (env : En) (st : Sto) : evE F (.k d) env st = .ok d st := by simp only [evE]
theorem e_tup (es : EL) (env : En) (st : Sto) : evE F (.tup es) env st = (evEL F es env st).bind kTup := by simp only [evE]; rfl
theorem e_lst (es : EL) (env : En) (st : Sto) : evE F (.lst es) env st = (evEL F es env st).bind kLst := by simp only [evE]; rfl
theorem e_dct (ks : List Str) (es : EL) (env : En) (st : Sto) : evE F (.dct ks es) env st = (evEL F es env st).bind (kDct ks) := by simp only [evE]; rfl
theorem e_op (o : Bop) (a b : E) (env : En) (st : Sto) : evE F (.op o a b) env st = (evE F a env st).bind (kOp1 F o b env) := by simp only [evE]; rfl
theorem e_cmp (o : Cop) (a b : E) (env : En) (st : Sto) : evE F (.cmp o a b) env st = (evE F a env st).bind (kCmp1 F o b env) := by simp only [evE]; rfl
theorem e_isN (a : E) (env : En) (st : Sto) : evE F (.isN a) env st = (evE F a env st).bind kIsN := by simp only [evE]; rfl
theorem e_notN (a : E) (env : En) (st : Sto) : evE F (.notN a) env st = (evE F a env st).bind kNotN := by simp only [evE]; rfl
theorem e_and (a b : E) (env : En) (st : Sto) : evE F (.and a b) env st = (evE F a env st).bind (kAnd F b env) := by simp only [evE]; rfl
theorem e_or (a b : E) (env : En) (st : Sto) : evE F (.or a b) env st = (evE F a env st).bind (kOr F b env) := by simp only [evE]; rfl
theorem e_not (a : E) (env : En) (st : Sto) : evE F (.not a) env st = ((evE F a env st).bind kTru).bind kNot := by simp only [evE]; rfl
theorem e_ifx (c a b : E) (env : En) (st : Sto) : evE F (.ifx c a b) env st = ((evE F c env st).bind kTru).bind (kIf F a b env) := by simp only [evE]; rfl
theorem e_call (f : Nat) (es : EL) (env : En) (st : Sto) : evE F (.call f es) env st = (evEL F es env st).bind (kCall F f) := by simp only [evE]; rfl
theorem e_bi (b : Bi) (e : E) (env : En) (st : Sto) : evE F (.bi b e) env st = (evE F e env st).bind (kBi b st.length) := by simp only [evE]; rfl
theorem e_m0 (m : Mt) (o : E) (env : En) (st : Sto) : evE F (.mth0 m o) env st = (evE F o env st).bind (kM0 m) := by simp only [evE]; rfl
theorem e_m1 (m : Mt) (o e : E) (env : En) (st : Sto) : evE F (.mth1 m o e) env st = (evE F o env st).bind (kM1 F m e env) := by simp only [evE]; rfl
theorem e_g1 (o k : E) (env : En) (st : Sto) : evE F (.get1 o k) env st = (evE F o env st).bind (kG1 F k env) := by simp only [evE]; rfl
theorem e_g2 (o k e : E) (env : En) (st : Sto) : evE F (.get2 o k e) env st = (evE F o env st).bind (kG2 F k e env) := by simp only [evE]; rfl
theorem e_ix (a i : E) (env : En) (st : Sto) : evE F (.ix a i) env st = (evE F a env st).bind (kIx1 F i env) := by simp only [evE]; rfl
theorem e_sl (a : E) (lo hi : EO) (env : En) (st : Sto) : evE F (.sl a lo hi) env st = (evE F a env st).bind (kSl1 F lo hi env) := by simp only [evE]; rfl
theorem e_lc (elt : E) (g : G) (it : I) (c : EO) (own : List Nat) (env : En) (st : Sto) : evE F (.lc elt g it c own) env st = (evI F it env st).bind (kLc1 F elt g c own env) := by simp only [evE]; rfl
theorem l_nil (env : En) (st : Sto) : evEL F .nil env st = .ok [] st := by simp only [evEL]
theorem l_cons (e : E) (es : EL) (env : En) (st : Sto) : evEL F (.cons e es) env st = (evE F e env st).bind (kL1 F es env) := by simp only [evEL]; rfl
theorem o_no (env : En) (st : Sto) : evEO F .no env st = .ok none st := by simp only [evEO]
theorem o_so (e : E) (env : En) (st : Sto) : evEO F (.so e) env st = (evE F e env st).bind kOS := by simp only [evEO]; rfl
theorem t_t (e : E) (env : En) (st : Sto) : evT F e env st = (evE F e env st).bind kTru := rfl
theorem c_no (env : En) (st : Sto) : evC F .no env st = .ok true st := by simp only [evC]
theorem c_so (e : E) (env : En) (st : Sto) : evC F (.so e) env st = (evE F e env st).bind kTru := by simp only [evC]; rfl
def kWalk2 (st : Sto) (o : Option (List D × Chk)) : Out (List D × Chk) := match o with
  | some p => .ok p st
  | none => .stk
@[simp] theorem kWalk2_s (st : Sto) (p : List D × Chk) : kWalk2 st (some p) = .ok p st := rfl
def kWalk (d : D) (st : Sto) : Out (List D × Chk) := kWalk2 st (walkD d st)
def kR1 (d : D) (st : Sto) : Out (List D × Chk) := match d with
  | .int j => if small62 j = true then .ok (rangeL 0 1 j.toNat, .free) st else .stk
  | _ => .stk
theorem small62_n {j : Int} (h1 : -4611686018427387904 ≤ j) (h2 : j < 4611686018427387904) : small62 j = true := by
  have e : (2 : Int) ^ 62 = 4611686018427387904 := by decide
  unfold small62
  rw [decide_eq_true_eq, e]
  exact ⟨h1, h2⟩
theorem kR1_n (j : Nat) (st : Sto) (h : j < 4611686018427387904) : kR1 (.int (j : Int)) st = .ok (rangeL 0 1 j, .free) st := by
  simp only [kR1]
  rw [if_pos (small62_n (by omega) (by omega)), Int.toNat_natCast]
def kR3c (d e : D) (f : D) (st : Sto) : Out (List D × Chk) := match d, e, f with
  | .int i, .int j, .int k => if small62 i = true ∧ small62 j = true ∧ k = -1 then .ok (rangeL i (-1) (i - j).toNat, .free) st else .stk
  | _, _, _ => .stk
def kR3b (F : Fns) (c : E) (env : En) (d : D) (e : D) (st : Sto) : Out (List D × Chk) := (evE F c env st).bind (kR3c d e)
def kR3a (F : Fns) (b c : E) (env : En) (d : D) (st : Sto) : Out (List D × Chk) := (evE F b env st).bind (kR3b F c env d)
theorem kR3c_n (n : Nat) (st : Sto) (h : n < 4611686018427387904) : kR3c (.int ((n : Int) - 1)) (.int (-1)) (.int (-1)) st = .ok (rangeL ((n : Int) - 1) (-1) n, .free) st := by
  simp only [kR3c]
  rw [if_pos ⟨small62_n (by omega) (by omega), small62_n (by omega) (by omega), trivial⟩]
  have e : ((n : Int) - 1 - -1).toNat = n := by omega
  rw [e]
def kEn2 (st : Sto) (o : Option (List D × Chk)) : Out (List D × Chk) := match o with
  | some p => .ok (enumL p.1, p.2) st
  | none => .stk
@[simp] theorem kEn2_s (st : Sto) (p : List D × Chk) : kEn2 st (some p) = .ok (enumL p.1, p.2) st := rfl
def kEn (d : D) (st : Sto) : Out (List D × Chk) := kEn2 st (walkD d st)
def kZi2 (d : D) (e : D) (st : Sto) : Out (List D × Chk) := match d, e with
  | .tup xs, .tup ys => .ok (zipL xs ys, .free) st
  | .ref n, .ref m => match st[n]?, st[m]? with
    | some (.lst xs), some (.lst ys) => .ok (zipL xs ys, .two (.at_ n (.lst xs)) (.at_ m (.lst ys))) st
    | _, _ => .stk
  | _, _ => .stk
@[simp] theorem kZi2_t (xs ys : List D) (st : Sto) : kZi2 (.tup xs) (.tup ys) st = .ok (zipL xs ys, .free) st := rfl
def kZi1 (F : Fns) (b : E) (env : En) (d : D) (st : Sto) : Out (List D × Chk) := (evE F b env st).bind (kZi2 d)
theorem i_of (e : E) (env : En) (st : Sto) : evI F (.of e) env st = (evE F e env st).bind kWalk := by simp only [evI]; rfl
theorem i_r1 (e : E) (env : En) (st : Sto) : evI F (.r1 e) env st = (evE F e env st).bind kR1 := by simp only [evI]; rfl
theorem i_r3 (a b c : E) (env : En) (st : Sto) : evI F (.r3 a b c) env st = (evE F a env st).bind (kR3a F b c env) := by simp only [evI]; rfl
theorem i_en (e : E) (env : En) (st : Sto) : evI F (.en e) env st = (evE F e env st).bind kEn := by simp only [evI]; rfl
theorem i_zi (a b : E) (env : En) (st : Sto) : evI F (.zi a b) env st = (evE F a env st).bind (kZi1 F b env) := by simp only [evI]; rfl
/-! statements -/
def SO.seq (o : SO) (F : Fns) (ss : SL) : SO := match o with
  | .nx env st => evSL F ss env st
  | .rt d st => .rt d st
  | .bk env st => .bk env st
  | .ct env st => .ct env st
  | .exc c env st => .exc c env st
  | .stk => .stk
@[simp] theorem seq_nx (env : En) (st : Sto) (ss : SL) : (SO.nx env st).seq F ss = evSL F ss env st := rfl
@[simp] theorem seq_rt (d : D) (st : Sto) (ss : SL) : (SO.rt d st).seq F ss = .rt d st := rfl
@[simp] theorem seq_bk (env : En) (st : Sto) (ss : SL) : (SO.bk env st).seq F ss = .bk env st := rfl
@[simp] theorem seq_ct (env : En) (st : Sto) (ss : SL) : (SO.ct env st).seq F ss = .ct env st := rfl
@[simp] theorem seq_exc (c : Nat) (env : En) (st : Sto) (ss : SL) : (SO.exc c env st).seq F ss = .exc c env st := rfl
theorem sl_cons (s : S) (ss : SL) (env : En) (st : Sto) : evSL F (.cons s ss) env st = (evS F s env st).seq F ss := by
  simp only [evSL]
  cases evS F s env st <;> rfl
theorem sl_nil (env : En) (st : Sto) : evSL F .nil env st = .nx env st := by simp only [evSL]
def kEx (env : En) (d : D) (st : Sto) : SO := .nx env st
def kSet2 (st : Sto) (o : Option En) : SO := match o with
  | some env' => .nx env' st
  | none => .stk
@[simp] theorem kSet2_s (st : Sto) (e : En) : kSet2 st (some e) = .nx e st := rfl
def kSet (g : G) (env : En) (d : D) (st : Sto) : SO := kSet2 st (bindG g d env)
def kP2b (i j : Nat) (env : En) (x : D) (y : D) (st : Sto) : SO := .nx ((env.set i (some x)).set j (some y)) st
def kP2 (F : Fns) (i j : Nat) (b : E) (env : En) (x : D) (st : Sto) : SO := (evE F b env st).sb env (kP2b i j env x)
def kP3c (i j k : Nat) (env : En) (x y : D) (z : D) (st : Sto) : SO := .nx (((env.set i (some x)).set j (some y)).set k (some z)) st
def kP3b (F : Fns) (i j k : Nat) (c : E) (env : En) (x : D) (y : D) (st : Sto) : SO := (evE F c env st).sb env (kP3c i j k env x y)
def kP3 (F : Fns) (i j k : Nat) (b c : E) (env : En) (x : D) (st : Sto) : SO := (evE F b env st).sb env (kP3b F i j k c env x)
def kSx (env : En) (o : Option Sto) : SO := match o with
  | some st => .nx env st
  | none => .stk
@[simp] theorem kSx_s (env : En) (st : Sto) : kSx env (some st) = .nx env st := rfl
def kSi3 (env : En) (x d : D) (k : D) (st : Sto) : SO := kSx env (evSetIx d k x st)
def kSi2 (F : Fns) (i : E) (env : En) (x : D) (d : D) (st : Sto) : SO := (evE F i env st).sb env (kSi3 env x d)
def kSi1 (F : Fns) (o i : E) (env : En) (x : D) (st : Sto) : SO := (evE F o env st).sb env (kSi2 F i env x)
def kAu3 (i : Nat) (env : En) (z : D) (st : Sto) : SO := .nx (env.set i (some z)) st
def kAu2 (i : Nat) (o : Bop) (env : En) (x : D) (y : D) (st : Sto) : SO := (noexc (evAug o x y st)).sb env (kAu3 i env)
def kAu (F : Fns) (i : Nat) (o : Bop) (e : E) (env : En) (st : Sto) (v : Option (Option D)) : SO := match v with
  | some (some x) => (evE F e env st).sb env (kAu2 i o env x)
  | _ => .stk
@[simp] theorem kAu_s (i : Nat) (o : Bop) (e : E) (env : En) (st : Sto) (x : D) : kAu F i o e env st (some (some x)) = (evE F e env st).sb env (kAu2 i o env x) := rfl
def kAx5 (env : En) (d k : D) (z : D) (st : Sto) : SO := kSx env (evSetIx d k z st)
def kAx4 (o : Bop) (env : En) (d k x : D) (y : D) (st : Sto) : SO := (noexc (evAug o x y st)).sb env (kAx5 env d k)
def kAx3 (F : Fns) (o : Bop) (e : E) (env : En) (d k : D) (x : D) (st : Sto) : SO := (evE F e env st).sb env (kAx4 o env d k x)
def kAx2 (F : Fns) (o : Bop) (e : E) (env : En) (d : D) (k : D) (st : Sto) : SO := (noexc (evIx d k st)).sb env (kAx3 F o e env d k)
def kAx1 (F : Fns) (i : E) (o : Bop) (e : E) (env : En) (d : D) (st : Sto) : SO := (evE F i env st).sb env (kAx2 F o e env d)
def kIfS (F : Fns) (a b : SL) (env : En) (k : Bool) (st : Sto) : SO := match k with
  | true => evSL F a env st
  | false => evSL F b env st
@[simp] theorem kIfS_t (a b : SL) (env : En) (st : Sto) : kIfS F a b env true st = evSL F a env st := rfl
@[simp] theorem kIfS_f (a b : SL) (env : En) (st : Sto) : kIfS F a b env false st = evSL F b env st := rfl
def forF (F : Fns) (g : G) (b : SL) (chk : Chk) (xs : List D) (env : En) (st : Sto) : SO := forL (bindG g) (fun env st => evSL F b env st) chk.ok xs env st
def kFor (F : Fns) (g : G) (b : SL) (env : En) (p : List D × Chk) (st : Sto) : SO := forF F g b p.2 p.1 env st
def whF (F : Fns) (c : E) (b : SL) (n : Nat) (env : En) (st : Sto) : SO := whL (fun env st => evT F c env st) (fun env st => evSL F b env st) n env st
def kRet (d : D) (st : Sto) : SO := .rt d st
theorem q_ex (e : E) (env : En) (st : Sto) : evS F (.ex e) env st = (evE F e env st).sb env (kEx env) := by simp only [evS]; rfl
theorem q_set (g : G) (e : E) (env : En) (st : Sto) : evS F (.set g e) env st = (evE F e env st).sb env (kSet g env) := by simp only [evS]; rfl
theorem q_p2 (i j : Nat) (a b : E) (env : En) (st : Sto) : evS F (.par2 i j a b) env st = (evE F a env st).sb env (kP2 F i j b env) := by simp only [evS]; rfl
theorem q_p3 (i j k : Nat) (a b c : E) (env : En) (st : Sto) : evS F (.par3 i j k a b c) env st = (evE F a env st).sb env (kP3 F i j k b c env) := by simp only [evS]; rfl
theorem q_si (o i e : E) (env : En) (st : Sto) : evS F (.setIx o i e) env st = (evE F e env st).sb env (kSi1 F o i env) := by simp only [evS]; rfl
theorem q_au (i : Nat) (o : Bop) (e : E) (env : En) (st : Sto) : evS F (.aug i o e) env st = kAu F i o e env st env[i]? := by simp only [evS]; rfl
theorem q_ax (a i : E) (o : Bop) (e : E) (env : En) (st : Sto) : evS F (.augIx a i o e) env st = (evE F a env st).sb env (kAx1 F i o e env) := by simp only [evS]; rfl
theorem q_if (c : E) (a b : SL) (env : En) (st : Sto) : evS F (.ife c a b) env st = ((evE F c env st).bind kTru).sb env (kIfS F a b env) := by simp only [evS]; rfl
theorem q_for (g : G) (it : I) (b : SL) (env : En) (st : Sto) : evS F (.forI g it b) env st = (evI F it env st).sb env (kFor F g b env) := by simp only [evS]; rfl
theorem q_wh (c : E) (b : SL) (env : En) (st : Sto) : evS F (.wh c b) env st = whF F c b TURNS env st := by simp only [evS]; rfl
theorem q_ret (e : E) (env : En) (st : Sto) : evS F (.ret e) env st = (evE F e env st).sb env kRet := by simp only [evS]; rfl
theorem q_retN (env : En) (st : Sto) : evS F .retN env st = .rt .non st := by simp only [evS]
theorem q_pass (env : En) (st : Sto) : evS F .pass env st = .nx env st := by simp only [evS]
theorem q_raise (c : Nat) (env : En) (st : Sto) : evS F (.raise c) env st = .exc c env st := by simp only [evS]
def kTry (F : Fns) (c : Nat) (h : SL) (o : SO) : SO := match o with
  | .exc c' env' st' => if c' = c then (match evSL F h env' st' with | .exc _ _ _ => .stk | o => o) else .stk
  | o => o
theorem q_try (b : SL) (c : Nat) (h : SL) (env : En) (st : Sto) : evS F (.try_ b c h) env st = kTry F c h (evSL F b env st) := by simp only [evS]; rfl
end
/-- a def's end -/
def fin (n : Nat) (o : SO) : Out D := match o with
  | .nx _ st' => gc n .non st'
  | .rt d st' => gc n d st'
  | .exc c _ st' => if (st'.take n).all (closedO n) = true then .exc c (st'.take n) else .exc c st'
  | _ => .stk
@[simp] theorem fin_nx (n : Nat) (env : En) (st : Sto) : fin n (.nx env st) = gc n .non st := rfl
@[simp] theorem fin_rt (n : Nat) (d : D) (st : Sto) : fin n (.rt d st) = gc n d st := rfl
theorem evF_fin (F : Fns) (many : Nat) (code : SL) (ds : List D) (st : Sto) : evF F many code ds st = fin st.length (evSL F code (ds.map some ++ List.replicate (many - ds.length) none) st) := by
  unfold evF fin
  cases evSL F code (ds.map some ++ List.replicate (many - ds.length) none) st <;> rfl
@[simp] theorem atI_nat {α : Type} (xs : List α) (n : Nat) : atI xs (n : Int) = xs[n]? := by
  unfold atI ixN
  rw [if_pos (Int.natCast_nonneg n)]
  by_cases h : n < xs.length
  · rw [if_pos (by omega)]
    rfl
  · rw [if_neg (by omega), List.getElem?_eq_none (by omega)]
    rfl
@[simp] theorem atI_lit {α : Type} (xs : List α) (n : Nat) : atI xs (@OfNat.ofNat Int n instOfNat) = xs[n]? := atI_nat xs n
@[simp] theorem atI_0 {α : Type} (xs : List α) : atI xs 0 = xs[0]? := atI_nat xs 0
@[simp] theorem atI_1 {α : Type} (xs : List α) : atI xs 1 = xs[1]? := atI_nat xs 1
@[simp] theorem atI_2 {α : Type} (xs : List α) : atI xs 2 = xs[2]? := atI_nat xs 2
@[simp] theorem atI_3 {α : Type} (xs : List α) : atI xs 3 = xs[3]? := atI_nat xs 3
@[simp] theorem atI_4 {α : Type} (xs : List α) : atI xs 4 = xs[4]? := atI_nat xs 4
@[simp] theorem atI_5 {α : Type} (xs : List α) : atI xs 5 = xs[5]? := atI_nat xs 5

@[simp] theorem app_at (st r : Sto) (o : MO) : (st ++ o :: r)[st.length]? = some o := by rw [List.getElem?_append_right (Nat.le_refl _), Nat.sub_self]; rfl
@[simp] theorem app_at1 (st r : Sto) (a o : MO) : (st ++ a :: o :: r)[st.length + 1]? = some o := by rw [List.getElem?_append_right (Nat.le_add_right _ _), Nat.add_sub_cancel_left]; rfl
@[simp] theorem app_at2 (st r : Sto) (a b o : MO) : (st ++ a :: b :: o :: r)[st.length + 2]? = some o := by rw [List.getElem?_append_right (Nat.le_add_right _ _), Nat.add_sub_cancel_left]; rfl
@[simp] theorem app_at3 (st r : Sto) (a b c o : MO) : (st ++ a :: b :: c :: o :: r)[st.length + 3]? = some o := by rw [List.getElem?_append_right (Nat.le_add_right _ _), Nat.add_sub_cancel_left]; rfl
@[simp] theorem app_at4 (st r : Sto) (a b c d o : MO) : (st ++ a :: b :: c :: d :: o :: r)[st.length + 4]? = some o := by rw [List.getElem?_append_right (Nat.le_add_right _ _), Nat.add_sub_cancel_left]; rfl
@[simp] theorem app_set (st r : Sto) (o q : MO) : (st ++ o :: r).set st.length q = st ++ q :: r := by
  rw [List.set_append_right _ _ (Nat.le_refl _), Nat.sub_self]
  rfl
@[simp] theorem app_set1 (st r : Sto) (a o q : MO) : (st ++ a :: o :: r).set (st.length + 1) q = st ++ a :: q :: r := by
  rw [List.set_append_right _ _ (Nat.le_add_right _ _), Nat.add_sub_cancel_left]
  rfl
@[simp] theorem app_set2 (st r : Sto) (a b o q : MO) : (st ++ a :: b :: o :: r).set (st.length + 2) q = st ++ a :: b :: q :: r := by
  rw [List.set_append_right _ _ (Nat.le_add_right _ _), Nat.add_sub_cancel_left]
  rfl
theorem app_low {st r : Sto} {n : Nat} {o : MO} (h : st[n]? = some o) : (st ++ r)[n]? = some o := by
  rw [List.getElem?_append_left (List.getElem?_eq_some_iff.mp h).1]
  exact h
theorem lc_map {F : Fns} {elt : E} {G : G} {c : EO} {own : List Nat} {env : En} {chk : Chk} {st : Sto} {α : Type} (ys : List α) (toD g : α → D) (hl : ys.length ≤ 1000) (hc : chk.ok st = true)
    (h : ∀ y ∈ ys, ∃ env1, bindG G (toD y) (wipeE env own) = some env1 ∧ evC F c env1 st = .ok true st ∧ evE F elt env1 st = .ok (g y) st) : kLc1 F elt G c own env (ys.map toD, chk) st = .ok (.ref st.length) (st ++ [.lst (ys.map g)]) := by
  unfold kLc1
  rw [if_pos (by simp [SZ]; omega)]
  have key : ∀ (zs : List α) (acc : List D), (∀ y ∈ zs, ∃ env1, bindG G (toD y) (wipeE env own) = some env1 ∧ evC F c env1 st = .ok true st ∧ evE F elt env1 st = .ok (g y) st) →
      lcL (bindG G) (fun env st => evC F c env st) (fun env st => evE F elt env st) chk.ok (wipeE env own) acc (zs.map toD) st = .ok (acc ++ zs.map g) st := by
    intro zs
    induction zs with
    | nil => intro acc _; simp [lcL, hc]
    | cons z zs ih =>
      intro acc h
      obtain ⟨env1, h1, h2, h3⟩ := h z List.mem_cons_self
      simp only [List.map_cons, lcL, hc, if_true, h1, h2, noexc_ok, Out.bind_ok, h3]
      rw [ih _ fun y hy => h y (List.mem_cons_of_mem _ hy)]
      simp
  unfold lcX
  rw [key ys [] h]
  rfl
end Ev
end

section
set_option Elab.async false
set_option linter.all false
set_option maxRecDepth 100000
set_option autoImplicit false
set_option maxHeartbeats 1000000
/-! M2: nets as data; the small defs -/
namespace Lw
open PySem
@[simp] theorem v_param : ((("param" : Str) == "param") = true) := by decide +kernel
@[simp] theorem w_param_kept : ((("param" : Str) = "kept") = False) := eq_false (by decide +kernel)
@[simp] theorem v_param_kept : ((("param" : Str) == "kept") = false) := by decide +kernel
@[simp] theorem w_param_xor : ((("param" : Str) = "xor") = False) := eq_false (by decide +kernel)
@[simp] theorem v_param_xor : ((("param" : Str) == "xor") = false) := by decide +kernel
@[simp] theorem w_param_and : ((("param" : Str) = "and") = False) := eq_false (by decide +kernel)
@[simp] theorem v_param_and : ((("param" : Str) == "and") = false) := by decide +kernel
@[simp] theorem w_param_not : ((("param" : Str) = "not") = False) := eq_false (by decide +kernel)
@[simp] theorem v_param_not : ((("param" : Str) == "not") = false) := by decide +kernel
@[simp] theorem w_param_bit : ((("param" : Str) = "bit") = False) := eq_false (by decide +kernel)
@[simp] theorem v_param_bit : ((("param" : Str) == "bit") = false) := by decide +kernel
@[simp] theorem w_param_fresh : ((("param" : Str) = "fresh") = False) := eq_false (by decide +kernel)
@[simp] theorem v_param_fresh : ((("param" : Str) == "fresh") = false) := by decide +kernel
@[simp] theorem w_param_near : ((("param" : Str) = "near") = False) := eq_false (by decide +kernel)
@[simp] theorem v_param_near : ((("param" : Str) == "near") = false) := by decide +kernel
@[simp] theorem w_param_strong : ((("param" : Str) = "strong") = False) := eq_false (by decide +kernel)
@[simp] theorem v_param_strong : ((("param" : Str) == "strong") = false) := by decide +kernel
@[simp] theorem w_param_open : ((("param" : Str) = "open") = False) := eq_false (by decide +kernel)
@[simp] theorem v_param_open : ((("param" : Str) == "open") = false) := by decide +kernel
@[simp] theorem w_param_show : ((("param" : Str) = "show") = False) := eq_false (by decide +kernel)
@[simp] theorem v_param_show : ((("param" : Str) == "show") = false) := by decide +kernel
@[simp] theorem w_kept_param : ((("kept" : Str) = "param") = False) := eq_false (by decide +kernel)
@[simp] theorem v_kept_param : ((("kept" : Str) == "param") = false) := by decide +kernel
@[simp] theorem v_kept : ((("kept" : Str) == "kept") = true) := by decide +kernel
@[simp] theorem w_kept_xor : ((("kept" : Str) = "xor") = False) := eq_false (by decide +kernel)
@[simp] theorem v_kept_xor : ((("kept" : Str) == "xor") = false) := by decide +kernel
@[simp] theorem w_kept_and : ((("kept" : Str) = "and") = False) := eq_false (by decide +kernel)
@[simp] theorem v_kept_and : ((("kept" : Str) == "and") = false) := by decide +kernel
@[simp] theorem w_kept_not : ((("kept" : Str) = "not") = False) := eq_false (by decide +kernel)
@[simp] theorem v_kept_not : ((("kept" : Str) == "not") = false) := by decide +kernel
@[simp] theorem w_kept_bit : ((("kept" : Str) = "bit") = False) := eq_false (by decide +kernel)
@[simp] theorem v_kept_bit : ((("kept" : Str) == "bit") = false) := by decide +kernel
@[simp] theorem w_kept_fresh : ((("kept" : Str) = "fresh") = False) := eq_false (by decide +kernel)
@[simp] theorem v_kept_fresh : ((("kept" : Str) == "fresh") = false) := by decide +kernel
@[simp] theorem w_kept_near : ((("kept" : Str) = "near") = False) := eq_false (by decide +kernel)
@[simp] theorem v_kept_near : ((("kept" : Str) == "near") = false) := by decide +kernel
@[simp] theorem w_kept_strong : ((("kept" : Str) = "strong") = False) := eq_false (by decide +kernel)
@[simp] theorem v_kept_strong : ((("kept" : Str) == "strong") = false) := by decide +kernel
@[simp] theorem w_kept_open : ((("kept" : Str) = "open") = False) := eq_false (by decide +kernel)
@[simp] theorem v_kept_open : ((("kept" : Str) == "open") = false) := by decide +kernel
@[simp] theorem w_kept_show : ((("kept" : Str) = "show") = False) := eq_false (by decide +kernel)
@[simp] theorem v_kept_show : ((("kept" : Str) == "show") = false) := by decide +kernel
@[simp] theorem w_xor_param : ((("xor" : Str) = "param") = False) := eq_false (by decide +kernel)
@[simp] theorem v_xor_param : ((("xor" : Str) == "param") = false) := by decide +kernel
@[simp] theorem w_xor_kept : ((("xor" : Str) = "kept") = False) := eq_false (by decide +kernel)
@[simp] theorem v_xor_kept : ((("xor" : Str) == "kept") = false) := by decide +kernel
@[simp] theorem v_xor : ((("xor" : Str) == "xor") = true) := by decide +kernel
@[simp] theorem w_xor_and : ((("xor" : Str) = "and") = False) := eq_false (by decide +kernel)
@[simp] theorem v_xor_and : ((("xor" : Str) == "and") = false) := by decide +kernel
@[simp] theorem w_xor_not : ((("xor" : Str) = "not") = False) := eq_false (by decide +kernel)
@[simp] theorem v_xor_not : ((("xor" : Str) == "not") = false) := by decide +kernel
@[simp] theorem w_xor_bit : ((("xor" : Str) = "bit") = False) := eq_false (by decide +kernel)
@[simp] theorem v_xor_bit : ((("xor" : Str) == "bit") = false) := by decide +kernel
@[simp] theorem w_xor_fresh : ((("xor" : Str) = "fresh") = False) := eq_false (by decide +kernel)
@[simp] theorem v_xor_fresh : ((("xor" : Str) == "fresh") = false) := by decide +kernel
@[simp] theorem w_xor_near : ((("xor" : Str) = "near") = False) := eq_false (by decide +kernel)
@[simp] theorem v_xor_near : ((("xor" : Str) == "near") = false) := by decide +kernel
@[simp] theorem w_xor_strong : ((("xor" : Str) = "strong") = False) := eq_false (by decide +kernel)
@[simp] theorem v_xor_strong : ((("xor" : Str) == "strong") = false) := by decide +kernel
@[simp] theorem w_xor_open : ((("xor" : Str) = "open") = False) := eq_false (by decide +kernel)
@[simp] theorem v_xor_open : ((("xor" : Str) == "open") = false) := by decide +kernel
@[simp] theorem w_xor_show : ((("xor" : Str) = "show") = False) := eq_false (by decide +kernel)
@[simp] theorem v_xor_show : ((("xor" : Str) == "show") = false) := by decide +kernel
@[simp] theorem w_and_param : ((("and" : Str) = "param") = False) := eq_false (by decide +kernel)
@[simp] theorem v_and_param : ((("and" : Str) == "param") = false) := by decide +kernel
@[simp] theorem w_and_kept : ((("and" : Str) = "kept") = False) := eq_false (by decide +kernel)
@[simp] theorem v_and_kept : ((("and" : Str) == "kept") = false) := by decide +kernel
@[simp] theorem w_and_xor : ((("and" : Str) = "xor") = False) := eq_false (by decide +kernel)
@[simp] theorem v_and_xor : ((("and" : Str) == "xor") = false) := by decide +kernel
@[simp] theorem v_and : ((("and" : Str) == "and") = true) := by decide +kernel
@[simp] theorem w_and_not : ((("and" : Str) = "not") = False) := eq_false (by decide +kernel)
@[simp] theorem v_and_not : ((("and" : Str) == "not") = false) := by decide +kernel
@[simp] theorem w_and_bit : ((("and" : Str) = "bit") = False) := eq_false (by decide +kernel)
@[simp] theorem v_and_bit : ((("and" : Str) == "bit") = false) := by decide +kernel
@[simp] theorem w_and_fresh : ((("and" : Str) = "fresh") = False) := eq_false (by decide +kernel)
@[simp] theorem v_and_fresh : ((("and" : Str) == "fresh") = false) := by decide +kernel
@[simp] theorem w_and_near : ((("and" : Str) = "near") = False) := eq_false (by decide +kernel)
@[simp] theorem v_and_near : ((("and" : Str) == "near") = false) := by decide +kernel
@[simp] theorem w_and_strong : ((("and" : Str) = "strong") = False) := eq_false (by decide +kernel)
@[simp] theorem v_and_strong : ((("and" : Str) == "strong") = false) := by decide +kernel
@[simp] theorem w_and_open : ((("and" : Str) = "open") = False) := eq_false (by decide +kernel)
@[simp] theorem v_and_open : ((("and" : Str) == "open") = false) := by decide +kernel
@[simp] theorem w_and_show : ((("and" : Str) = "show") = False) := eq_false (by decide +kernel)
@[simp] theorem v_and_show : ((("and" : Str) == "show") = false) := by decide +kernel
@[simp] theorem w_not_param : ((("not" : Str) = "param") = False) := eq_false (by decide +kernel)
@[simp] theorem v_not_param : ((("not" : Str) == "param") = false) := by decide +kernel
@[simp] theorem w_not_kept : ((("not" : Str) = "kept") = False) := eq_false (by decide +kernel)
@[simp] theorem v_not_kept : ((("not" : Str) == "kept") = false) := by decide +kernel
@[simp] theorem w_not_xor : ((("not" : Str) = "xor") = False) := eq_false (by decide +kernel)
@[simp] theorem v_not_xor : ((("not" : Str) == "xor") = false) := by decide +kernel
@[simp] theorem w_not_and : ((("not" : Str) = "and") = False) := eq_false (by decide +kernel)
@[simp] theorem v_not_and : ((("not" : Str) == "and") = false) := by decide +kernel
@[simp] theorem v_not : ((("not" : Str) == "not") = true) := by decide +kernel
@[simp] theorem w_not_bit : ((("not" : Str) = "bit") = False) := eq_false (by decide +kernel)
@[simp] theorem v_not_bit : ((("not" : Str) == "bit") = false) := by decide +kernel
@[simp] theorem w_not_fresh : ((("not" : Str) = "fresh") = False) := eq_false (by decide +kernel)
@[simp] theorem v_not_fresh : ((("not" : Str) == "fresh") = false) := by decide +kernel
@[simp] theorem w_not_near : ((("not" : Str) = "near") = False) := eq_false (by decide +kernel)
@[simp] theorem v_not_near : ((("not" : Str) == "near") = false) := by decide +kernel
@[simp] theorem w_not_strong : ((("not" : Str) = "strong") = False) := eq_false (by decide +kernel)
@[simp] theorem v_not_strong : ((("not" : Str) == "strong") = false) := by decide +kernel
@[simp] theorem w_not_open : ((("not" : Str) = "open") = False) := eq_false (by decide +kernel)
@[simp] theorem v_not_open : ((("not" : Str) == "open") = false) := by decide +kernel
@[simp] theorem w_not_show : ((("not" : Str) = "show") = False) := eq_false (by decide +kernel)
@[simp] theorem v_not_show : ((("not" : Str) == "show") = false) := by decide +kernel
@[simp] theorem w_bit_param : ((("bit" : Str) = "param") = False) := eq_false (by decide +kernel)
@[simp] theorem v_bit_param : ((("bit" : Str) == "param") = false) := by decide +kernel
@[simp] theorem w_bit_kept : ((("bit" : Str) = "kept") = False) := eq_false (by decide +kernel)
@[simp] theorem v_bit_kept : ((("bit" : Str) == "kept") = false) := by decide +kernel
@[simp] theorem w_bit_xor : ((("bit" : Str) = "xor") = False) := eq_false (by decide +kernel)
@[simp] theorem v_bit_xor : ((("bit" : Str) == "xor") = false) := by decide +kernel
@[simp] theorem w_bit_and : ((("bit" : Str) = "and") = False) := eq_false (by decide +kernel)
@[simp] theorem v_bit_and : ((("bit" : Str) == "and") = false) := by decide +kernel
@[simp] theorem w_bit_not : ((("bit" : Str) = "not") = False) := eq_false (by decide +kernel)
@[simp] theorem v_bit_not : ((("bit" : Str) == "not") = false) := by decide +kernel
@[simp] theorem v_bit : ((("bit" : Str) == "bit") = true) := by decide +kernel
@[simp] theorem w_bit_fresh : ((("bit" : Str) = "fresh") = False) := eq_false (by decide +kernel)
@[simp] theorem v_bit_fresh : ((("bit" : Str) == "fresh") = false) := by decide +kernel
@[simp] theorem w_bit_near : ((("bit" : Str) = "near") = False) := eq_false (by decide +kernel)
@[simp] theorem v_bit_near : ((("bit" : Str) == "near") = false) := by decide +kernel
@[simp] theorem w_bit_strong : ((("bit" : Str) = "strong") = False) := eq_false (by decide +kernel)
@[simp] theorem v_bit_strong : ((("bit" : Str) == "strong") = false) := by decide +kernel
@[simp] theorem w_bit_open : ((("bit" : Str) = "open") = False) := eq_false (by decide +kernel)
@[simp] theorem v_bit_open : ((("bit" : Str) == "open") = false) := by decide +kernel
@[simp] theorem w_bit_show : ((("bit" : Str) = "show") = False) := eq_false (by decide +kernel)
@[simp] theorem v_bit_show : ((("bit" : Str) == "show") = false) := by decide +kernel
@[simp] theorem w_fresh_param : ((("fresh" : Str) = "param") = False) := eq_false (by decide +kernel)
@[simp] theorem v_fresh_param : ((("fresh" : Str) == "param") = false) := by decide +kernel
@[simp] theorem w_fresh_kept : ((("fresh" : Str) = "kept") = False) := eq_false (by decide +kernel)
@[simp] theorem v_fresh_kept : ((("fresh" : Str) == "kept") = false) := by decide +kernel
@[simp] theorem w_fresh_xor : ((("fresh" : Str) = "xor") = False) := eq_false (by decide +kernel)
@[simp] theorem v_fresh_xor : ((("fresh" : Str) == "xor") = false) := by decide +kernel
@[simp] theorem w_fresh_and : ((("fresh" : Str) = "and") = False) := eq_false (by decide +kernel)
@[simp] theorem v_fresh_and : ((("fresh" : Str) == "and") = false) := by decide +kernel
@[simp] theorem w_fresh_not : ((("fresh" : Str) = "not") = False) := eq_false (by decide +kernel)
@[simp] theorem v_fresh_not : ((("fresh" : Str) == "not") = false) := by decide +kernel
@[simp] theorem w_fresh_bit : ((("fresh" : Str) = "bit") = False) := eq_false (by decide +kernel)
@[simp] theorem v_fresh_bit : ((("fresh" : Str) == "bit") = false) := by decide +kernel
@[simp] theorem v_fresh : ((("fresh" : Str) == "fresh") = true) := by decide +kernel
@[simp] theorem w_fresh_near : ((("fresh" : Str) = "near") = False) := eq_false (by decide +kernel)
@[simp] theorem v_fresh_near : ((("fresh" : Str) == "near") = false) := by decide +kernel
@[simp] theorem w_fresh_strong : ((("fresh" : Str) = "strong") = False) := eq_false (by decide +kernel)
@[simp] theorem v_fresh_strong : ((("fresh" : Str) == "strong") = false) := by decide +kernel
@[simp] theorem w_fresh_open : ((("fresh" : Str) = "open") = False) := eq_false (by decide +kernel)
@[simp] theorem v_fresh_open : ((("fresh" : Str) == "open") = false) := by decide +kernel
@[simp] theorem w_fresh_show : ((("fresh" : Str) = "show") = False) := eq_false (by decide +kernel)
@[simp] theorem v_fresh_show : ((("fresh" : Str) == "show") = false) := by decide +kernel
@[simp] theorem w_near_param : ((("near" : Str) = "param") = False) := eq_false (by decide +kernel)
@[simp] theorem v_near_param : ((("near" : Str) == "param") = false) := by decide +kernel
@[simp] theorem w_near_kept : ((("near" : Str) = "kept") = False) := eq_false (by decide +kernel)
@[simp] theorem v_near_kept : ((("near" : Str) == "kept") = false) := by decide +kernel
@[simp] theorem w_near_xor : ((("near" : Str) = "xor") = False) := eq_false (by decide +kernel)
@[simp] theorem v_near_xor : ((("near" : Str) == "xor") = false) := by decide +kernel
@[simp] theorem w_near_and : ((("near" : Str) = "and") = False) := eq_false (by decide +kernel)
@[simp] theorem v_near_and : ((("near" : Str) == "and") = false) := by decide +kernel
@[simp] theorem w_near_not : ((("near" : Str) = "not") = False) := eq_false (by decide +kernel)
@[simp] theorem v_near_not : ((("near" : Str) == "not") = false) := by decide +kernel
@[simp] theorem w_near_bit : ((("near" : Str) = "bit") = False) := eq_false (by decide +kernel)
@[simp] theorem v_near_bit : ((("near" : Str) == "bit") = false) := by decide +kernel
@[simp] theorem w_near_fresh : ((("near" : Str) = "fresh") = False) := eq_false (by decide +kernel)
@[simp] theorem v_near_fresh : ((("near" : Str) == "fresh") = false) := by decide +kernel
@[simp] theorem v_near : ((("near" : Str) == "near") = true) := by decide +kernel
@[simp] theorem w_near_strong : ((("near" : Str) = "strong") = False) := eq_false (by decide +kernel)
@[simp] theorem v_near_strong : ((("near" : Str) == "strong") = false) := by decide +kernel
@[simp] theorem w_near_open : ((("near" : Str) = "open") = False) := eq_false (by decide +kernel)
@[simp] theorem v_near_open : ((("near" : Str) == "open") = false) := by decide +kernel
@[simp] theorem w_near_show : ((("near" : Str) = "show") = False) := eq_false (by decide +kernel)
@[simp] theorem v_near_show : ((("near" : Str) == "show") = false) := by decide +kernel
@[simp] theorem w_strong_param : ((("strong" : Str) = "param") = False) := eq_false (by decide +kernel)
@[simp] theorem v_strong_param : ((("strong" : Str) == "param") = false) := by decide +kernel
@[simp] theorem w_strong_kept : ((("strong" : Str) = "kept") = False) := eq_false (by decide +kernel)
@[simp] theorem v_strong_kept : ((("strong" : Str) == "kept") = false) := by decide +kernel
@[simp] theorem w_strong_xor : ((("strong" : Str) = "xor") = False) := eq_false (by decide +kernel)
@[simp] theorem v_strong_xor : ((("strong" : Str) == "xor") = false) := by decide +kernel
@[simp] theorem w_strong_and : ((("strong" : Str) = "and") = False) := eq_false (by decide +kernel)
@[simp] theorem v_strong_and : ((("strong" : Str) == "and") = false) := by decide +kernel
@[simp] theorem w_strong_not : ((("strong" : Str) = "not") = False) := eq_false (by decide +kernel)
@[simp] theorem v_strong_not : ((("strong" : Str) == "not") = false) := by decide +kernel
@[simp] theorem w_strong_bit : ((("strong" : Str) = "bit") = False) := eq_false (by decide +kernel)
@[simp] theorem v_strong_bit : ((("strong" : Str) == "bit") = false) := by decide +kernel
@[simp] theorem w_strong_fresh : ((("strong" : Str) = "fresh") = False) := eq_false (by decide +kernel)
@[simp] theorem v_strong_fresh : ((("strong" : Str) == "fresh") = false) := by decide +kernel
@[simp] theorem w_strong_near : ((("strong" : Str) = "near") = False) := eq_false (by decide +kernel)
@[simp] theorem v_strong_near : ((("strong" : Str) == "near") = false) := by decide +kernel
@[simp] theorem v_strong : ((("strong" : Str) == "strong") = true) := by decide +kernel
@[simp] theorem w_strong_open : ((("strong" : Str) = "open") = False) := eq_false (by decide +kernel)
@[simp] theorem v_strong_open : ((("strong" : Str) == "open") = false) := by decide +kernel
@[simp] theorem w_strong_show : ((("strong" : Str) = "show") = False) := eq_false (by decide +kernel)
@[simp] theorem v_strong_show : ((("strong" : Str) == "show") = false) := by decide +kernel
@[simp] theorem w_open_param : ((("open" : Str) = "param") = False) := eq_false (by decide +kernel)
@[simp] theorem v_open_param : ((("open" : Str) == "param") = false) := by decide +kernel
@[simp] theorem w_open_kept : ((("open" : Str) = "kept") = False) := eq_false (by decide +kernel)
@[simp] theorem v_open_kept : ((("open" : Str) == "kept") = false) := by decide +kernel
@[simp] theorem w_open_xor : ((("open" : Str) = "xor") = False) := eq_false (by decide +kernel)
@[simp] theorem v_open_xor : ((("open" : Str) == "xor") = false) := by decide +kernel
@[simp] theorem w_open_and : ((("open" : Str) = "and") = False) := eq_false (by decide +kernel)
@[simp] theorem v_open_and : ((("open" : Str) == "and") = false) := by decide +kernel
@[simp] theorem w_open_not : ((("open" : Str) = "not") = False) := eq_false (by decide +kernel)
@[simp] theorem v_open_not : ((("open" : Str) == "not") = false) := by decide +kernel
@[simp] theorem w_open_bit : ((("open" : Str) = "bit") = False) := eq_false (by decide +kernel)
@[simp] theorem v_open_bit : ((("open" : Str) == "bit") = false) := by decide +kernel
@[simp] theorem w_open_fresh : ((("open" : Str) = "fresh") = False) := eq_false (by decide +kernel)
@[simp] theorem v_open_fresh : ((("open" : Str) == "fresh") = false) := by decide +kernel
@[simp] theorem w_open_near : ((("open" : Str) = "near") = False) := eq_false (by decide +kernel)
@[simp] theorem v_open_near : ((("open" : Str) == "near") = false) := by decide +kernel
@[simp] theorem w_open_strong : ((("open" : Str) = "strong") = False) := eq_false (by decide +kernel)
@[simp] theorem v_open_strong : ((("open" : Str) == "strong") = false) := by decide +kernel
@[simp] theorem v_open : ((("open" : Str) == "open") = true) := by decide +kernel
@[simp] theorem w_open_show : ((("open" : Str) = "show") = False) := eq_false (by decide +kernel)
@[simp] theorem v_open_show : ((("open" : Str) == "show") = false) := by decide +kernel
@[simp] theorem w_show_param : ((("show" : Str) = "param") = False) := eq_false (by decide +kernel)
@[simp] theorem v_show_param : ((("show" : Str) == "param") = false) := by decide +kernel
@[simp] theorem w_show_kept : ((("show" : Str) = "kept") = False) := eq_false (by decide +kernel)
@[simp] theorem v_show_kept : ((("show" : Str) == "kept") = false) := by decide +kernel
@[simp] theorem w_show_xor : ((("show" : Str) = "xor") = False) := eq_false (by decide +kernel)
@[simp] theorem v_show_xor : ((("show" : Str) == "xor") = false) := by decide +kernel
@[simp] theorem w_show_and : ((("show" : Str) = "and") = False) := eq_false (by decide +kernel)
@[simp] theorem v_show_and : ((("show" : Str) == "and") = false) := by decide +kernel
@[simp] theorem w_show_not : ((("show" : Str) = "not") = False) := eq_false (by decide +kernel)
@[simp] theorem v_show_not : ((("show" : Str) == "not") = false) := by decide +kernel
@[simp] theorem w_show_bit : ((("show" : Str) = "bit") = False) := eq_false (by decide +kernel)
@[simp] theorem v_show_bit : ((("show" : Str) == "bit") = false) := by decide +kernel
@[simp] theorem w_show_fresh : ((("show" : Str) = "fresh") = False) := eq_false (by decide +kernel)
@[simp] theorem v_show_fresh : ((("show" : Str) == "fresh") = false) := by decide +kernel
@[simp] theorem w_show_near : ((("show" : Str) = "near") = False) := eq_false (by decide +kernel)
@[simp] theorem v_show_near : ((("show" : Str) == "near") = false) := by decide +kernel
@[simp] theorem w_show_strong : ((("show" : Str) = "strong") = False) := eq_false (by decide +kernel)
@[simp] theorem v_show_strong : ((("show" : Str) == "strong") = false) := by decide +kernel
@[simp] theorem w_show_open : ((("show" : Str) = "open") = False) := eq_false (by decide +kernel)
@[simp] theorem v_show_open : ((("show" : Str) == "open") = false) := by decide +kernel
@[simp] theorem v_show : ((("show" : Str) == "show") = true) := by decide +kernel
end Lw

namespace Lw
open PySem L2 Ev
def natD (n : Nat) : D := .int (n : Int)
def natsD (xs : List Nat) : D := .tup (xs.map natD)
inductive Nd where
  | par (x : Bool) | kept | bit (b : Int) | bin (w : Bool) (x y : Nat) | neg (x : Nat)
def Nd.word : Nd → Str
  | .par _ => "param"
  | .kept => "kept"
  | .bit _ => "bit"
  | .bin true _ _ => "and"
  | .bin false _ _ => "xor"
  | .neg _ => "not"
def Nd.ins : Nd → List Nat
  | .bin _ x y => [x, y]
  | .neg x => [x]
  | _ => []
def Nd.rest : Nd → List D
  | .par x => [.str (if x then "a" else "b")]
  | .kept => [.str "s"]
  | .bit b => [.int b]
  | .bin _ x y => [natD x, natD y]
  | .neg x => [natD x]
def Nd.d (n : Nd) : D := .tup (.str n.word :: n.rest)
structure Net where
  nodes : List Nd
  told : List Nat
  kv : Nat
def Net.d (N : Net) : D := .tup [.tup [.str "ma", .str "fa"], .tup [.str "a", .str "b"], .tup [.str "s"], .tup (N.nodes.map Nd.d), natsD N.told, .tup [.tup [.str "s", natD N.kv]]]
/-- the spots: role and uses -/
def Net.sp (N : Net) : List (Str × List Nat) := N.nodes.map (fun n => (n.word, n.ins)) ++ N.told.map (fun v => (("show" : Str), [v])) ++ [(("fresh" : Str), [N.kv])]
def spotD (s : Str × List Nat) : D := .tup [.str s.1, natsD s.2]
theorem closed_nats (n : Nat) (xs : List Nat) : closeds n (xs.map natD) = true := by
  induction xs with
  | nil => rfl
  | cons x xs ih => simp [closeds, closed, natD, ih]
theorem closed_natsD (n : Nat) (xs : List Nat) : closed n (natsD xs) = true := closed_nats n xs
theorem closed_nd (k : Nat) (n : Nd) : closed k n.d = true := by cases n <;> rfl
theorem closed_nds (k : Nat) (xs : List Nd) : closeds k (xs.map Nd.d) = true := by
  induction xs with
  | nil => rfl
  | cons x xs ih => simp [closeds, closed_nd, ih]
theorem closed_net (k : Nat) (N : Net) : closed k N.d = true := by
  simp [Net.d, closed, closeds, closed_nds, closed_natsD, natD]
theorem closed_spots (k : Nat) (xs : List (Str × List Nat)) : closeds k (xs.map spotD) = true := by
  induction xs with
  | nil => rfl
  | cons x xs ih => simp [closeds, closed, spotD, closed_natsD, ih]
section
variable {st : Sto}
theorem net3 (N : Net) : evIx N.d (.int 3) st = .ok (.tup (N.nodes.map Nd.d)) st := by simp [evIx, Net.d, itemsD]
theorem net4 (N : Net) : evIx N.d (.int 4) st = .ok (natsD N.told) st := by simp [evIx, Net.d, itemsD]
theorem net5 (N : Net) : evIx N.d (.int 5) st = .ok (.tup [.tup [.str "s", natD N.kv]]) st := by simp [evIx, Net.d, itemsD]
theorem nd0 (n : Nd) : evIx n.d (.int 0) st = .ok (.str n.word) st := by simp [evIx, Nd.d, itemsD]
theorem nodes_at (N : Net) (i : Nat) (n : Nd) (h : N.nodes[i]? = some n) : evIx (.tup (N.nodes.map Nd.d)) (natD i) st = .ok n.d st := by simp [evIx, itemsD, natD, h]
theorem str_in (x : Str) (xs : List Str) : evIn (.str x) (.tup (xs.map D.str)) st = .ok (.bl (xs.any fun y => y == x)) st := by
  have h : ∀ xs : List Str, (xs.map D.str).mapM flatD = some (xs.map V.str) := fun xs => by
    induction xs with
    | nil => rfl
    | cons y ys ih => simp [List.mapM_cons, flatD, ih]
  simp only [evIn, inD, itemsD, h, flatD, inV]
  congr 2
  rw [List.any_map]
  congr 1
theorem many_uses_ok (n : Nd) (w : Wf st) : f_many_uses [n.d] st = .ok (natD n.ins.length) st := by
  unfold f_many_uses c_many_uses
  rw [evF_fin]
  have h1 := fun x => str_in (st := st) x ["and", "xor"]
  have h2 := fun x => str_in (st := st) x ["fresh", "not"]
  simp only [List.map_cons, List.map_nil] at h1 h2
  have g : ∀ i : Int, gc st.length (.int i) st = .ok (.int i) st := fun i => gc_old0 w rfl
  cases n with
  | bin b x y => cases b <;> simp [sl_cons, sl_nil, q_ex, q_set, q_p2, q_p3, q_si, q_au, q_ax, q_if, q_for, q_ret, q_retN, q_pass, q_raise, e_v, e_k, e_tup, e_lst, e_dct, e_op, e_cmp, e_isN, e_notN, e_and, e_or, e_not, e_ifx, e_call, e_bi, e_m0, e_m1, e_g1, e_g2, e_ix, e_sl, l_nil, l_cons, o_no, o_so, t_t, c_no, c_so, kTup, kLst, kOp2, kOp1, kCmp2, kCmp1, kIsN, kNotN, kAnd, kOr, kTru, kNot, kM0, kM1b, kM1, kG1b, kG1, kG2c, kG2b, kG2, kIx2, kIx1, kSl3, kSl2, kSl1, kL2, kL1, kEx, kSet, kP2b, kP2, kP3c, kP3b, kP3, kSi3, kSi2, kSi1, kAu3, kAu2, kAx5, kAx4, kAx3, kAx2, kAx1, kRet, evOp, evCmp, evAug, nd0, h1, h2, strsD, truD, Nd.word, Nd.ins, natD, g]
  | _ => simp [sl_cons, sl_nil, q_ex, q_set, q_p2, q_p3, q_si, q_au, q_ax, q_if, q_for, q_ret, q_retN, q_pass, q_raise, e_v, e_k, e_tup, e_lst, e_dct, e_op, e_cmp, e_isN, e_notN, e_and, e_or, e_not, e_ifx, e_call, e_bi, e_m0, e_m1, e_g1, e_g2, e_ix, e_sl, l_nil, l_cons, o_no, o_so, t_t, c_no, c_so, kTup, kLst, kOp2, kOp1, kCmp2, kCmp1, kIsN, kNotN, kAnd, kOr, kTru, kNot, kM0, kM1b, kM1, kG1b, kG1, kG2c, kG2b, kG2, kIx2, kIx1, kSl3, kSl2, kSl1, kL2, kL1, kEx, kSet, kP2b, kP2, kP3c, kP3b, kP3, kSi3, kSi2, kSi1, kAu3, kAu2, kAx5, kAx4, kAx3, kAx2, kAx1, kRet, evOp, evCmp, evAug, nd0, h1, h2, strsD, truD, Nd.word, Nd.ins, natD, g]
theorem nd_sl (n : Nd) : evSl n.d (some 1) (some (1 + (n.ins.length : Int))) st = .ok (natsD n.ins) st := by
  cases n with
  | bin b x y => simp [evSl, Nd.d, cutD, HT.sIx, Nd.ins, Nd.rest, natsD]
  | _ => simp [evSl, Nd.d, cutD, HT.sIx, Nd.ins, Nd.rest, natsD]
theorem inputs_ok (n : Nd) (w : Wf st) : f_inputs_of [n.d] st = .ok (natsD n.ins) st := by
  unfold f_inputs_of c_inputs_of
  rw [evF_fin]
  have hm := many_uses_ok n w
  have hg : gc st.length (natsD n.ins) st = .ok (natsD n.ins) st := gc_old0 w (closed_natsD _ _)
  have hb : biTuple (natsD n.ins) st = .ok (natsD n.ins) st := by
    unfold biTuple
    simp [itemsD, natsD]
    cases n <;> simp [Nd.ins, SZ]
  simp [sl_cons, sl_nil, q_ex, q_set, q_p2, q_p3, q_si, q_au, q_ax, q_if, q_for, q_ret, q_retN, q_pass, q_raise, e_v, e_k, e_tup, e_lst, e_dct, e_op, e_cmp, e_isN, e_notN, e_and, e_or, e_not, e_ifx, e_call, e_bi, e_m0, e_m1, e_g1, e_g2, e_ix, e_sl, l_nil, l_cons, o_no, o_so, t_t, c_no, c_so, kTup, kLst, kOp2, kOp1, kCmp2, kCmp1, kIsN, kNotN, kAnd, kOr, kTru, kNot, kM0, kM1b, kM1, kG1b, kG1, kG2c, kG2b, kG2, kIx2, kIx1, kSl3, kSl2, kSl1, kL2, kL1, kEx, kSet, kP2b, kP2, kP3c, kP3b, kP3, kSi3, kSi2, kSi1, kAu3, kAu2, kAx5, kAx4, kAx3, kAx2, kAx1, kRet, evOp, evCmp, evAug, kCall, Tab, hm, evAdd, natD, nd_sl, kBi, evBi, evBi0, hb, hg]

theorem spots_ok (N : Net) (w : Wf st) (h1 : N.nodes.length ≤ 100) (h2 : N.told.length ≤ 100) : f_spots_of [N.d] st = .ok (.ref st.length) (st ++ [.lst (N.sp.map spotD)]) := by
  unfold f_spots_of c_spots_of
  rw [evF_fin]
  have a1 := fun (env : En) (own : List Nat) (F : Fns) (elt : E) (c : EO) (G : G) (h) => lc_map (F := F) (elt := elt) (G := G) (c := c) (own := own) (env := env) (chk := .free) (st := st) N.nodes Nd.d (fun n => spotD (n.word, n.ins)) (by omega) rfl h
  simp [sl_cons, sl_nil, q_ex, q_set, q_p2, q_p3, q_si, q_au, q_ax, q_if, q_for, q_ret, q_retN, q_pass, q_raise, e_v, e_k, e_tup, e_lst, e_dct, e_op, e_cmp, e_isN, e_notN, e_and, e_or, e_not, e_ifx, e_call, e_bi, e_m0, e_m1, e_g1, e_g2, e_ix, e_sl, l_nil, l_cons, o_no, o_so, t_t, c_no, c_so, kTup, kLst, kOp2, kOp1, kCmp2, kCmp1, kIsN, kNotN, kAnd, kOr, kTru, kNot, kM0, kM1b, kM1, kG1b, kG1, kG2c, kG2b, kG2, kIx2, kIx1, kSl3, kSl2, kSl1, kL2, kL1, kEx, kSet, kP2b, kP2, kP3c, kP3b, kP3, kSi3, kSi2, kSi1, kAu3, kAu2, kAx5, kAx4, kAx3, kAx2, kAx1, kRet, evOp, evCmp, evAug, i_of, e_lc, kWalk, walkD, net3, net4, net5]
  rw [a1 _ _ _ _ _ _ (by
    intro n hn
    refine ⟨_, rfl, c_no _ _, ?_⟩
    simp [sl_cons, sl_nil, q_ex, q_set, q_p2, q_p3, q_si, q_au, q_ax, q_if, q_for, q_ret, q_retN, q_pass, q_raise, e_v, e_k, e_tup, e_lst, e_dct, e_op, e_cmp, e_isN, e_notN, e_and, e_or, e_not, e_ifx, e_call, e_bi, e_m0, e_m1, e_g1, e_g2, e_ix, e_sl, l_nil, l_cons, o_no, o_so, t_t, c_no, c_so, kTup, kLst, kOp2, kOp1, kCmp2, kCmp1, kIsN, kNotN, kAnd, kOr, kTru, kNot, kM0, kM1b, kM1, kG1b, kG1, kG2c, kG2b, kG2, kIx2, kIx1, kSl3, kSl2, kSl1, kL2, kL1, kEx, kSet, kP2b, kP2, kP3c, kP3b, kP3, kSi3, kSi2, kSi1, kAu3, kAu2, kAx5, kAx4, kAx3, kAx2, kAx1, kRet, evOp, evCmp, evAug, wipeE, nd0, kCall, Tab, inputs_ok n w, spotD, SZ])]
  simp [sl_cons, sl_nil, q_ex, q_set, q_p2, q_p3, q_si, q_au, q_ax, q_if, q_for, q_ret, q_retN, q_pass, q_raise, e_v, e_k, e_tup, e_lst, e_dct, e_op, e_cmp, e_isN, e_notN, e_and, e_or, e_not, e_ifx, e_call, e_bi, e_m0, e_m1, e_g1, e_g2, e_ix, e_sl, l_nil, l_cons, o_no, o_so, t_t, c_no, c_so, kTup, kLst, kOp2, kOp1, kCmp2, kCmp1, kIsN, kNotN, kAnd, kOr, kTru, kNot, kM0, kM1b, kM1, kG1b, kG1, kG2c, kG2b, kG2, kIx2, kIx1, kSl3, kSl2, kSl1, kL2, kL1, kEx, kSet, kP2b, kP2, kP3c, kP3b, kP3, kSi3, kSi2, kSi1, kAu3, kAu2, kAx5, kAx4, kAx3, kAx2, kAx1, kRet, evOp, evCmp, evAug, bindG, net4, isL, i_of, e_lc, kWalk, walkD, natsD]
  have a2 := fun (st : Sto) (env : En) (own : List Nat) (F : Fns) (elt : E) (c : EO) (G : G) (h) => lc_map (F := F) (elt := elt) (G := G) (c := c) (own := own) (env := env) (chk := .free) (st := st) N.told natD (fun v => spotD ("show", [v])) (by omega) rfl h
  rw [a2 _ _ _ _ _ _ _ (by
    intro n hn
    refine ⟨_, rfl, c_no _ _, ?_⟩
    simp [sl_cons, sl_nil, q_ex, q_set, q_p2, q_p3, q_si, q_au, q_ax, q_if, q_for, q_ret, q_retN, q_pass, q_raise, e_v, e_k, e_tup, e_lst, e_dct, e_op, e_cmp, e_isN, e_notN, e_and, e_or, e_not, e_ifx, e_call, e_bi, e_m0, e_m1, e_g1, e_g2, e_ix, e_sl, l_nil, l_cons, o_no, o_so, t_t, c_no, c_so, kTup, kLst, kOp2, kOp1, kCmp2, kCmp1, kIsN, kNotN, kAnd, kOr, kTru, kNot, kM0, kM1b, kM1, kG1b, kG1, kG2c, kG2b, kG2, kIx2, kIx1, kSl3, kSl2, kSl1, kL2, kL1, kEx, kSet, kP2b, kP2, kP3c, kP3b, kP3, kSi3, kSi2, kSi1, kAu3, kAu2, kAx5, kAx4, kAx3, kAx2, kAx1, kRet, evOp, evCmp, evAug, wipeE, spotD, natsD, SZ])]
  have z1 : N.nodes.length + N.told.length ≤ 16777216 := by omega
  have z2 : N.nodes.length + (N.told.length + 1) ≤ 16777216 := by omega
  simp [sl_cons, sl_nil, q_ex, q_set, q_p2, q_p3, q_si, q_au, q_ax, q_if, q_for, q_ret, q_retN, q_pass, q_raise, e_v, e_k, e_tup, e_lst, e_dct, e_op, e_cmp, e_isN, e_notN, e_and, e_or, e_not, e_ifx, e_call, e_bi, e_m0, e_m1, e_g1, e_g2, e_ix, e_sl, l_nil, l_cons, o_no, o_so, t_t, c_no, c_so, kTup, kLst, kOp2, kOp1, kCmp2, kCmp1, kIsN, kNotN, kAnd, kOr, kTru, kNot, kM0, kM1b, kM1, kG1b, kG1, kG2c, kG2b, kG2, kIx2, kIx1, kSl3, kSl2, kSl1, kL2, kL1, kEx, kSet, kP2b, kP2, kP3c, kP3b, kP3, kSi3, kSi2, kSi1, kAu3, kAu2, kAx5, kAx4, kAx3, kAx2, kAx1, kRet, evOp, evCmp, evAug, evMth1, SZ, z1, i_of, e_lc, kWalk, walkD, net5]
  have a3 := fun (st : Sto) (env : En) (own : List Nat) (F : Fns) (elt : E) (c : EO) (G : G) (h) => lc_map (F := F) (elt := elt) (G := G) (c := c) (own := own) (env := env) (chk := .free) (st := st) [N.kv] (fun v => .tup [.str "s", natD v]) (fun v => spotD ("fresh", [v])) (by simp) rfl h
  simp only [List.map_cons, List.map_nil] at a3
  rw [a3 _ _ _ _ _ _ _ (by
    intro n hn
    refine ⟨_, rfl, c_no _ _, ?_⟩
    simp [sl_cons, sl_nil, q_ex, q_set, q_p2, q_p3, q_si, q_au, q_ax, q_if, q_for, q_ret, q_retN, q_pass, q_raise, e_v, e_k, e_tup, e_lst, e_dct, e_op, e_cmp, e_isN, e_notN, e_and, e_or, e_not, e_ifx, e_call, e_bi, e_m0, e_m1, e_g1, e_g2, e_ix, e_sl, l_nil, l_cons, o_no, o_so, t_t, c_no, c_so, kTup, kLst, kOp2, kOp1, kCmp2, kCmp1, kIsN, kNotN, kAnd, kOr, kTru, kNot, kM0, kM1b, kM1, kG1b, kG1, kG2c, kG2b, kG2, kIx2, kIx1, kSl3, kSl2, kSl1, kL2, kL1, kEx, kSet, kP2b, kP2, kP3c, kP3b, kP3, kSi3, kSi2, kSi1, kAu3, kAu2, kAx5, kAx4, kAx3, kAx2, kAx1, kRet, evOp, evCmp, evAug, wipeE, spotD, natsD, SZ])]
  simp [sl_cons, sl_nil, q_ex, q_set, q_p2, q_p3, q_si, q_au, q_ax, q_if, q_for, q_ret, q_retN, q_pass, q_raise, e_v, e_k, e_tup, e_lst, e_dct, e_op, e_cmp, e_isN, e_notN, e_and, e_or, e_not, e_ifx, e_call, e_bi, e_m0, e_m1, e_g1, e_g2, e_ix, e_sl, l_nil, l_cons, o_no, o_so, t_t, c_no, c_so, kTup, kLst, kOp2, kOp1, kCmp2, kCmp1, kIsN, kNotN, kAnd, kOr, kTru, kNot, kM0, kM1b, kM1, kG1b, kG1, kG2c, kG2b, kG2, kIx2, kIx1, kSl3, kSl2, kSl1, kL2, kL1, kEx, kSet, kP2b, kP2, kP3c, kP3b, kP3, kSi3, kSi2, kSi1, kAu3, kAu2, kAx5, kAx4, kAx3, kAx2, kAx1, kRet, evOp, evCmp, evAug, evAdd, newL, SZ, z2]
  have e : N.sp.map spotD = N.nodes.map (fun n => spotD (n.word, n.ins)) ++ (N.told.map (fun v => spotD ("show", [v])) ++ [spotD ("fresh", [N.kv])]) := by
    simp [Net.sp, Function.comp_def]
  rw [← e]
  exact gc_new w rfl (closed_spots _ _)
theorem nd_sl1 (n : Nd) : evSl n.d (some 1) none st = .ok (.tup n.rest) st := by
  cases n <;> simp [evSl, Nd.d, cutD, HT.sIx, Nd.rest]
theorem nd_hd (n : Nd) : ([("xor" : Str), "and", "not", "fresh"].any fun y => y == n.word) = true → .tup n.rest = natsD n.ins := by
  cases n with
  | bin b x y => cases b <;> simp [Nd.word, Nd.rest, Nd.ins, natsD]
  | _ => simp [Nd.word, Nd.rest, Nd.ins, natsD]
theorem nd_hd0 (n : Nd) : ([("xor" : Str), "and", "not", "fresh"].any fun y => y == n.word) = false → .tup [] = natsD n.ins := by
  cases n with
  | bin b x y => cases b <;> simp [Nd.word, Nd.rest, Nd.ins, natsD]
  | _ => simp [Nd.word, Nd.rest, Nd.ins, natsD]
theorem lspots_ok (N : Net) (w : Wf st) (h1 : N.nodes.length ≤ 100) (h2 : N.told.length ≤ 100) : f__law_spots [N.d] st = .ok (.ref st.length) (st ++ [.lst (N.sp.map spotD)]) := by
  unfold f__law_spots c__law_spots
  rw [evF_fin]
  have a1 := fun (env : En) (own : List Nat) (F : Fns) (elt : E) (c : EO) (G : G) (h) => lc_map (F := F) (elt := elt) (G := G) (c := c) (own := own) (env := env) (chk := .free) (st := st) N.nodes Nd.d (fun n => spotD (n.word, n.ins)) (by omega) rfl h
  simp [sl_cons, sl_nil, q_ex, q_set, q_p2, q_p3, q_si, q_au, q_ax, q_if, q_for, q_ret, q_retN, q_pass, q_raise, e_v, e_k, e_tup, e_lst, e_dct, e_op, e_cmp, e_isN, e_notN, e_and, e_or, e_not, e_ifx, e_call, e_bi, e_m0, e_m1, e_g1, e_g2, e_ix, e_sl, l_nil, l_cons, o_no, o_so, t_t, c_no, c_so, kTup, kLst, kOp2, kOp1, kCmp2, kCmp1, kIsN, kNotN, kAnd, kOr, kTru, kNot, kM0, kM1b, kM1, kG1b, kG1, kG2c, kG2b, kG2, kIx2, kIx1, kSl3, kSl2, kSl1, kL2, kL1, kEx, kSet, kP2b, kP2, kP3c, kP3b, kP3, kSi3, kSi2, kSi1, kAu3, kAu2, kAx5, kAx4, kAx3, kAx2, kAx1, kRet, evOp, evCmp, evAug, i_of, e_lc, kWalk, walkD, net3, net4, net5]
  rw [a1 _ _ _ _ _ _ (by
    intro n hn
    refine ⟨_, rfl, c_no _ _, ?_⟩
    have q := str_in (st := st) n.word ["xor", "and", "not", "fresh"]
    simp only [List.map_cons, List.map_nil] at q
    cases e : ([("xor" : Str), "and", "not", "fresh"].any fun y => y == n.word) with
    | true =>
      rw [e] at q
      simp [sl_cons, sl_nil, q_ex, q_set, q_p2, q_p3, q_si, q_au, q_ax, q_if, q_for, q_ret, q_retN, q_pass, q_raise, e_v, e_k, e_tup, e_lst, e_dct, e_op, e_cmp, e_isN, e_notN, e_and, e_or, e_not, e_ifx, e_call, e_bi, e_m0, e_m1, e_g1, e_g2, e_ix, e_sl, l_nil, l_cons, o_no, o_so, t_t, c_no, c_so, kTup, kLst, kOp2, kOp1, kCmp2, kCmp1, kIsN, kNotN, kAnd, kOr, kTru, kNot, kM0, kM1b, kM1, kG1b, kG1, kG2c, kG2b, kG2, kIx2, kIx1, kSl3, kSl2, kSl1, kL2, kL1, kEx, kSet, kP2b, kP2, kP3c, kP3b, kP3, kSi3, kSi2, kSi1, kAu3, kAu2, kAx5, kAx4, kAx3, kAx2, kAx1, kRet, evOp, evCmp, evAug, wipeE, nd0, q, truD, nd_sl1, nd_hd n e, spotD, SZ]
    | false =>
      rw [e] at q
      simp [sl_cons, sl_nil, q_ex, q_set, q_p2, q_p3, q_si, q_au, q_ax, q_if, q_for, q_ret, q_retN, q_pass, q_raise, e_v, e_k, e_tup, e_lst, e_dct, e_op, e_cmp, e_isN, e_notN, e_and, e_or, e_not, e_ifx, e_call, e_bi, e_m0, e_m1, e_g1, e_g2, e_ix, e_sl, l_nil, l_cons, o_no, o_so, t_t, c_no, c_so, kTup, kLst, kOp2, kOp1, kCmp2, kCmp1, kIsN, kNotN, kAnd, kOr, kTru, kNot, kM0, kM1b, kM1, kG1b, kG1, kG2c, kG2b, kG2, kIx2, kIx1, kSl3, kSl2, kSl1, kL2, kL1, kEx, kSet, kP2b, kP2, kP3c, kP3b, kP3, kSi3, kSi2, kSi1, kAu3, kAu2, kAx5, kAx4, kAx3, kAx2, kAx1, kRet, evOp, evCmp, evAug, wipeE, nd0, q, truD, ← nd_hd0 n e, spotD, SZ])]
  have z1 : N.nodes.length + N.told.length ≤ 16777216 := by omega
  have z2 : N.nodes.length + (N.told.length + 1) ≤ 16777216 := by omega
  simp [sl_cons, sl_nil, q_ex, q_set, q_p2, q_p3, q_si, q_au, q_ax, q_if, q_for, q_ret, q_retN, q_pass, q_raise, e_v, e_k, e_tup, e_lst, e_dct, e_op, e_cmp, e_isN, e_notN, e_and, e_or, e_not, e_ifx, e_call, e_bi, e_m0, e_m1, e_g1, e_g2, e_ix, e_sl, l_nil, l_cons, o_no, o_so, t_t, c_no, c_so, kTup, kLst, kOp2, kOp1, kCmp2, kCmp1, kIsN, kNotN, kAnd, kOr, kTru, kNot, kM0, kM1b, kM1, kG1b, kG1, kG2c, kG2b, kG2, kIx2, kIx1, kSl3, kSl2, kSl1, kL2, kL1, kEx, kSet, kP2b, kP2, kP3c, kP3b, kP3, kSi3, kSi2, kSi1, kAu3, kAu2, kAx5, kAx4, kAx3, kAx2, kAx1, kRet, evOp, evCmp, evAug, bindG, net4, i_of, e_lc, kWalk, walkD, natsD]
  have a2 := fun (st : Sto) (env : En) (own : List Nat) (F : Fns) (elt : E) (c : EO) (G : G) (h) => lc_map (F := F) (elt := elt) (G := G) (c := c) (own := own) (env := env) (chk := .free) (st := st) N.told natD (fun v => spotD ("show", [v])) (by omega) rfl h
  rw [a2 _ _ _ _ _ _ _ (by
    intro n hn
    refine ⟨_, rfl, c_no _ _, ?_⟩
    simp [sl_cons, sl_nil, q_ex, q_set, q_p2, q_p3, q_si, q_au, q_ax, q_if, q_for, q_ret, q_retN, q_pass, q_raise, e_v, e_k, e_tup, e_lst, e_dct, e_op, e_cmp, e_isN, e_notN, e_and, e_or, e_not, e_ifx, e_call, e_bi, e_m0, e_m1, e_g1, e_g2, e_ix, e_sl, l_nil, l_cons, o_no, o_so, t_t, c_no, c_so, kTup, kLst, kOp2, kOp1, kCmp2, kCmp1, kIsN, kNotN, kAnd, kOr, kTru, kNot, kM0, kM1b, kM1, kG1b, kG1, kG2c, kG2b, kG2, kIx2, kIx1, kSl3, kSl2, kSl1, kL2, kL1, kEx, kSet, kP2b, kP2, kP3c, kP3b, kP3, kSi3, kSi2, kSi1, kAu3, kAu2, kAx5, kAx4, kAx3, kAx2, kAx1, kRet, evOp, evCmp, evAug, wipeE, spotD, natsD, SZ])]
  simp [sl_cons, sl_nil, q_ex, q_set, q_p2, q_p3, q_si, q_au, q_ax, q_if, q_for, q_ret, q_retN, q_pass, q_raise, e_v, e_k, e_tup, e_lst, e_dct, e_op, e_cmp, e_isN, e_notN, e_and, e_or, e_not, e_ifx, e_call, e_bi, e_m0, e_m1, e_g1, e_g2, e_ix, e_sl, l_nil, l_cons, o_no, o_so, t_t, c_no, c_so, kTup, kLst, kOp2, kOp1, kCmp2, kCmp1, kIsN, kNotN, kAnd, kOr, kTru, kNot, kM0, kM1b, kM1, kG1b, kG1, kG2c, kG2b, kG2, kIx2, kIx1, kSl3, kSl2, kSl1, kL2, kL1, kEx, kSet, kP2b, kP2, kP3c, kP3b, kP3, kSi3, kSi2, kSi1, kAu3, kAu2, kAx5, kAx4, kAx3, kAx2, kAx1, kRet, evOp, evCmp, evAug, evAdd, newL, SZ, z1, i_of, e_lc, kWalk, walkD, net5]
  have a3 := fun (st : Sto) (env : En) (own : List Nat) (F : Fns) (elt : E) (c : EO) (G : G) (h) => lc_map (F := F) (elt := elt) (G := G) (c := c) (own := own) (env := env) (chk := .free) (st := st) [N.kv] (fun v => .tup [.str "s", natD v]) (fun v => spotD ("fresh", [v])) (by simp) rfl h
  simp only [List.map_cons, List.map_nil] at a3
  rw [a3 _ _ _ _ _ _ _ (by
    intro n hn
    refine ⟨_, rfl, c_no _ _, ?_⟩
    simp [sl_cons, sl_nil, q_ex, q_set, q_p2, q_p3, q_si, q_au, q_ax, q_if, q_for, q_ret, q_retN, q_pass, q_raise, e_v, e_k, e_tup, e_lst, e_dct, e_op, e_cmp, e_isN, e_notN, e_and, e_or, e_not, e_ifx, e_call, e_bi, e_m0, e_m1, e_g1, e_g2, e_ix, e_sl, l_nil, l_cons, o_no, o_so, t_t, c_no, c_so, kTup, kLst, kOp2, kOp1, kCmp2, kCmp1, kIsN, kNotN, kAnd, kOr, kTru, kNot, kM0, kM1b, kM1, kG1b, kG1, kG2c, kG2b, kG2, kIx2, kIx1, kSl3, kSl2, kSl1, kL2, kL1, kEx, kSet, kP2b, kP2, kP3c, kP3b, kP3, kSi3, kSi2, kSi1, kAu3, kAu2, kAx5, kAx4, kAx3, kAx2, kAx1, kRet, evOp, evCmp, evAug, wipeE, spotD, natsD, SZ])]
  simp [sl_cons, sl_nil, q_ex, q_set, q_p2, q_p3, q_si, q_au, q_ax, q_if, q_for, q_ret, q_retN, q_pass, q_raise, e_v, e_k, e_tup, e_lst, e_dct, e_op, e_cmp, e_isN, e_notN, e_and, e_or, e_not, e_ifx, e_call, e_bi, e_m0, e_m1, e_g1, e_g2, e_ix, e_sl, l_nil, l_cons, o_no, o_so, t_t, c_no, c_so, kTup, kLst, kOp2, kOp1, kCmp2, kCmp1, kIsN, kNotN, kAnd, kOr, kTru, kNot, kM0, kM1b, kM1, kG1b, kG1, kG2c, kG2b, kG2, kIx2, kIx1, kSl3, kSl2, kSl1, kL2, kL1, kEx, kSet, kP2b, kP2, kP3c, kP3b, kP3, kSi3, kSi2, kSi1, kAu3, kAu2, kAx5, kAx4, kAx3, kAx2, kAx1, kRet, evOp, evCmp, evAug, evAdd, newL, SZ, z2]
  have e : N.sp.map spotD = N.nodes.map (fun n => spotD (n.word, n.ins)) ++ (N.told.map (fun v => spotD ("show", [v])) ++ [spotD ("fresh", [N.kv])]) := by
    simp [Net.sp, Function.comp_def]
  rw [← e]
  exact gc_new w rfl (closed_spots _ _)
end
end Lw
end

section
set_option Elab.async false
set_option linter.all false
set_option maxRecDepth 100000
set_option autoImplicit false
set_option maxHeartbeats 1000000
/-! M3: grades, counts -/
namespace Lw
open PySem L2 Ev
def gs (b : Bool) : D := .str (if b then "near" else "strong")
def grO (a n x : Bool) : MO := .dct [(.inr "and", gs a), (.inr "not", gs n), (.inr "xor", gs x), (.inr "fresh", .str "strong"), (.inr "show", .str "open")]
def Nd.near (a n x : Bool) : Nd → Bool
  | .bin true _ _ => a
  | .bin false _ _ => x
  | .neg _ => n
  | _ => false
def Net.near (N : Net) (a n x : Bool) (k : Nat) : Bool := match N.nodes[k]? with
  | some m => m.near a n x
  | none => false
section
variable {st : Sto}
theorem len_tup (xs : List D) : biLen (.tup xs) st = .ok (.int xs.length) st := rfl
theorem bi_len (n : Nat) (d : D) (k : Int) (w : Wf st) (h : biLen d st = .ok (.int k) st) : kBi .len st.length d st = .ok (.int k) st := by
  simp [kBi, evBi, evBi0, h, gc_old0 w (show closed st.length (.int k) = true from rfl)]
theorem gr_get (a n x : Bool) (g : Nat) (m : Nd) (h : st[g]? = some (grO a n x)) : (evGet (.ref g) (.str m.word) .non st).bind (fun d st => noexc (evEq d (.str "near") st)) = .ok (.bl (m.near a n x)) st := by
  have s1 : PyData.strOk ("near" : Str) = true := by decide +kernel
  cases m with
  | bin b y z => cases b <;> cases a <;> cases x <;> simp [evGet, dictAt, h, grO, keyD, lookK, Nd.word, Nd.near, gs, evEq, eqD, List.find?]
  | neg y => cases n <;> simp [evGet, dictAt, h, grO, keyD, lookK, Nd.word, Nd.near, gs, evEq, eqD, List.find?]
  | par y => simp [evGet, dictAt, h, grO, keyD, lookK, Nd.word, Nd.near, gs, evEq, eqD, List.find?, toP, s1, PyData.eqv]
  | kept => simp [evGet, dictAt, h, grO, keyD, lookK, Nd.word, Nd.near, gs, evEq, eqD, List.find?, toP, s1, PyData.eqv]
  | bit y => simp [evGet, dictAt, h, grO, keyD, lookK, Nd.word, Nd.near, gs, evEq, eqD, List.find?, toP, s1, PyData.eqv]
theorem word_fresh (m : Nd) : decide (m.word = ("fresh" : Str)) = false := by
  cases m with
  | bin b y z => cases b <;> simp [Nd.word]
  | _ => simp [Nd.word]
theorem near_ok (N : Net) (a n x : Bool) (g k : Nat) (w : Wf st) (h : st[g]? = some (grO a n x)) : f_is_near [N.d, natD k, .ref g] st = .ok (.bl (N.near a n x k)) st := by
  unfold f_is_near c_is_near
  rw [evF_fin]
  have gb : ∀ b : Bool, gc st.length (.bl b) st = .ok (.bl b) st := fun b => gc_old0 w rfl
  have hl := bi_len 0 (.tup (N.nodes.map Nd.d)) N.nodes.length w (by rw [len_tup]; simp)
  by_cases hk : k < N.nodes.length
  · have hn : ¬ (N.nodes.length : Int) ≤ (k : Int) := by omega
    obtain ⟨m, hm⟩ : ∃ m, N.nodes[k]? = some m := ⟨_, List.getElem?_eq_getElem hk⟩
    have q := gr_get a n x g m h
    have hd : isDc st (.ref g) = true := by simp [isDc, dictAt, h, grO]
    have e1 := word_fresh m
    cases e2 : evGet (.ref g) (.str m.word) .non st with
    | stk => rw [e2] at q; simp at q
    | exc c s => rw [e2] at q; simp at q
    | ok d s =>
      rw [e2] at q
      simp only [Out.bind_ok] at q
      have es : s = st := by
        unfold evGet at e2
        split at e2 <;> simp at e2
        exact e2.2.symm
      subst es
      have e3 := nodes_at (st := s) N k m hm
      have e4 : evEq (.str m.word) (.str "fresh") s = .ok (.bl false) s := by simp [evEq, eqD, e1]
      simp only [natD] at e3
      have q2 : evEq d (.str "near") s = .ok (.bl (m.near a n x)) s := by
        cases e5 : evEq d (.str "near") s with
        | ok z s2 => rw [e5] at q; exact q
        | exc c s2 => rw [e5] at q; simp [noexc] at q
        | stk => rw [e5] at q; simp [noexc] at q
      have e6 : N.near a n x k = m.near a n x := by simp [Net.near, hm]
      simp [sl_cons, sl_nil, q_ex, q_set, q_p2, q_p3, q_si, q_au, q_ax, q_if, q_for, q_ret, q_retN, q_pass, q_raise, e_v, e_k, e_tup, e_lst, e_dct, e_op, e_cmp, e_isN, e_notN, e_and, e_or, e_not, e_ifx, e_call, e_bi, e_m0, e_m1, e_g1, e_g2, e_ix, e_sl, l_nil, l_cons, o_no, o_so, t_t, c_no, c_so, kTup, kLst, kOp2, kOp1, kCmp2, kCmp1, kIsN, kNotN, kAnd, kOr, kTru, kNot, kM0, kM1b, kM1, kG1b, kG1, kG2c, kG2b, kG2, kIx2, kIx1, kSl3, kSl2, kSl1, kL2, kL1, kEx, kSet, kP2b, kP2, kP3c, kP3b, kP3, kSi3, kSi2, kSi1, kAu3, kAu2, kAx5, kAx4, kAx3, kAx2, kAx1, kRet, evOp, evCmp, evAug, net3, hl, natD, evGe, hn, e3, nd0, e4, truD, hd, e2, q2, gb, e6]
  · have hn : (N.nodes.length : Int) ≤ (k : Int) := by omega
    have e : N.near a n x k = false := by simp [Net.near, List.getElem?_eq_none (Nat.le_of_not_lt hk)]
    simp [sl_cons, sl_nil, q_ex, q_set, q_p2, q_p3, q_si, q_au, q_ax, q_if, q_for, q_ret, q_retN, q_pass, q_raise, e_v, e_k, e_tup, e_lst, e_dct, e_op, e_cmp, e_isN, e_notN, e_and, e_or, e_not, e_ifx, e_call, e_bi, e_m0, e_m1, e_g1, e_g2, e_ix, e_sl, l_nil, l_cons, o_no, o_so, t_t, c_no, c_so, kTup, kLst, kOp2, kOp1, kCmp2, kCmp1, kIsN, kNotN, kAnd, kOr, kTru, kNot, kM0, kM1b, kM1, kG1b, kG1, kG2c, kG2b, kG2, kIx2, kIx1, kSl3, kSl2, kSl1, kL2, kL1, kEx, kSet, kP2b, kP2, kP3c, kP3b, kP3, kSi3, kSi2, kSi1, kAu3, kAu2, kAx5, kAx4, kAx3, kAx2, kAx1, kRet, evOp, evCmp, evAug, net3, hl, natD, evGe, truD, hn, e, gb]
end
end Lw
end

section
set_option Elab.async false
set_option linter.all false
set_option maxRecDepth 100000
set_option autoImplicit false
set_option maxHeartbeats 1000000
/-! M4: rows of counts: as functions, as dicts -/
namespace Lw
open PySem L2 Ev
/-! ### dicts of counts -/
def prs (f : Nat → Nat) (ks : List Nat) : List (Key × D) := ks.map fun k : Nat => (Sum.inl (k : Int), natD (f k))
structure Row (kvs : List (Key × D)) (f : Nat → Nat) : Prop where
  ex : ∃ ks : List Nat, kvs = prs f ks ∧ ks.Nodup ∧ ∀ k, k ∈ ks ↔ 0 < f k
theorem Row.nil : Row [] (fun _ => 0) := ⟨[], rfl, List.nodup_nil, fun k => by simp⟩
theorem look_prs (f : Nat → Nat) (k : Nat) : ∀ ks : List Nat, lookK (prs f ks) (.inl (k : Int)) = if k ∈ ks then some (natD (f k)) else none
  | [] => rfl
  | j :: ks => by
    have ih := look_prs f k ks
    unfold lookK prs at ih ⊢
    rw [List.map_cons, List.find?_cons]
    by_cases h : j = k
    · subst h
      simp
    · have h1 : ¬ ((j : Int) = (k : Int)) := by omega
      have h2 : ¬ k = j := fun e => h e.symm
      simp [h1, h2] at ih ⊢
      exact ih
theorem Row.look {kvs : List (Key × D)} {f : Nat → Nat} (r : Row kvs f) (k : Nat) : (lookK kvs (.inl (k : Int))).getD (natD 0) = natD (f k) := by
  obtain ⟨ks, rfl, _, h⟩ := r.ex
  rw [look_prs]
  by_cases hk : k ∈ ks
  · rw [if_pos hk]; rfl
  · rw [if_neg hk]
    have : f k = 0 := by
      have := (not_congr (h k)).mp hk
      omega
    rw [this]; rfl
theorem Row.look1 {kvs : List (Key × D)} {f : Nat → Nat} (r : Row kvs f) (k : Nat) (h0 : 0 < f k) : lookK kvs (.inl (k : Int)) = some (natD (f k)) := by
  obtain ⟨ks, rfl, _, h⟩ := r.ex
  rw [look_prs, if_pos ((h k).mpr h0)]
theorem any_prs (f : Nat → Nat) (k : Nat) (ks : List Nat) : ((prs f ks).any fun p => decide (p.1 = (Sum.inl (k : Int) : Key))) = decide (k ∈ ks) := by
  unfold prs
  rw [List.any_map]
  induction ks with
  | nil => rfl
  | cons j ks ih =>
    rw [List.any_cons, ih]
    have e : ((fun p : Key × D => decide (p.1 = (Sum.inl (k : Int) : Key))) ∘ fun k : Nat => ((Sum.inl (k : Int) : Key), natD (f k))) j = decide (k = j) := by
      simp only [Function.comp, Sum.inl.injEq]
      by_cases h : k = j
      · simp [h]
      · have : ¬ ((j : Int) = (k : Int)) := by omega
        simp [h, this]
    rw [e]
    simp
theorem Row.put {kvs : List (Key × D)} {f g : Nat → Nat} {k c : Nat} (r : Row kvs f) (hc : 0 < c) (hk : g k = c) (hg : ∀ j, j ≠ k → g j = f j) : Row (putD kvs (.inl (k : Int)) (natD c)) g := by
  obtain ⟨ks, rfl, nd, h⟩ := r.ex
  unfold putD
  rw [any_prs]
  by_cases hm : k ∈ ks
  · rw [if_pos (by simpa using hm)]
    refine ⟨ks, ?_, nd, fun j => ?_⟩
    · unfold prs
      rw [List.map_map]
      refine List.map_congr_left fun j hj => ?_
      simp only [Function.comp, Sum.inl.injEq]
      by_cases e : j = k
      · subst e
        simp [hk]
      · have : ¬ ((j : Int) = (k : Int)) := by omega
        simp [this, hg j e]
    · by_cases e : j = k
      · subst e
        simp [hm, hk, hc]
      · rw [h j, hg j e]
  · rw [if_neg (by simpa using hm)]
    refine ⟨ks ++ [k], ?_, ?_, fun j => ?_⟩
    · unfold prs
      rw [List.map_append]
      congr 1
      · refine List.map_congr_left fun j hj => ?_
        rw [hg j (fun e => hm (e ▸ hj))]
      · simp [hk]
    · rw [List.nodup_append]
      exact ⟨nd, by simp, fun a ha b hb => by rw [List.mem_singleton.mp hb]; rintro rfl; exact hm ha⟩
    · rw [List.mem_append, List.mem_singleton]
      by_cases e : j = k
      · subst e
        simp [hk, hc]
      · rw [h j, hg j e]
        simp [e]
/-- the keys by their order -/
def ups (f : Nat → Nat) (n : Nat) : List Nat := (List.range n).filter fun k => decide (0 < f k)
def rowD (f : Nat → Nat) (n : Nat) : List D := (ups f n).map fun k => D.tup [natD k, natD (f k)]
theorem keys_prs (f : Nat → Nat) : ∀ ks : List Nat, keyInts (prs f ks) = some (ks.map fun k : Nat => (k : Int))
  | [] => rfl
  | k :: ks => by
    have ih := keys_prs f ks
    unfold prs at ih ⊢
    rw [List.map_cons]
    simp [keyInts, ih]
theorem vals_prs (f : Nat → Nat) : ∀ ks : List Nat, intsD ((prs f ks).map (·.2)) = some (ks.map fun k : Nat => (f k : Int))
  | [] => rfl
  | k :: ks => by
    have ih := vals_prs f ks
    show (intsD ((prs f ks).map (·.2))).map (((f k : Nat) : Int) :: ·) = _
    rw [ih]
    rfl
theorem sort_ups {f : Nat → Nat} {ks : List Nat} {n : Nat} (nd : ks.Nodup) (h : ∀ k, k ∈ ks ↔ 0 < f k) (hn : ∀ k, n ≤ k → f k = 0) : sortInts (ks.map fun k : Nat => (k : Int)) = (ups f n).map fun k : Nat => (k : Int) := by
  have ndu : (ups f n).Nodup := List.Nodup.sublist List.filter_sublist List.nodup_range
  have p : ks.Perm (ups f n) := by
    rw [List.perm_ext_iff_of_nodup nd ndu]
    intro k
    rw [h k]
    unfold ups
    rw [List.mem_filter, List.mem_range, decide_eq_true_eq]
    refine ⟨fun h0 => ⟨?_, h0⟩, fun h0 => h0.2⟩
    apply Nat.lt_of_not_le
    intro hle
    rw [hn k hle] at h0
    exact Nat.lt_irrefl 0 h0
  refine sorted_one ((sortInts_perm _).trans (p.map _)) (sortInts_sorted _) ?_
  rw [List.pairwise_map]
  have : (ups f n).Pairwise (· < ·) := List.Pairwise.sublist List.filter_sublist List.pairwise_lt_range
  exact this.imp fun h => by omega
theorem len_ks {f : Nat → Nat} {ks : List Nat} {n : Nat} (nd : ks.Nodup) (h : ∀ k, k ∈ ks ↔ 0 < f k) (hn : ∀ k, n ≤ k → f k = 0) : ks.length ≤ n := by
  have ndu : (ups f n).Nodup := List.Nodup.sublist List.filter_sublist List.nodup_range
  have p : ks.Perm (ups f n) := by
    rw [List.perm_ext_iff_of_nodup nd ndu]
    intro k
    rw [h k]
    unfold ups
    rw [List.mem_filter, List.mem_range, decide_eq_true_eq]
    refine ⟨fun h0 => ⟨?_, h0⟩, fun h0 => h0.2⟩
    apply Nat.lt_of_not_le
    intro hle
    rw [hn k hle] at h0
    exact Nat.lt_irrefl 0 h0
  rw [p.length_eq]
  have := List.length_filter_le (fun k => decide (0 < f k)) (List.range n)
  rw [List.length_range] at this
  exact this
theorem Row.sortI {st : Sto} {r n : Nat} {kvs : List (Key × D)} {f : Nat → Nat} (R : Row kvs f) (hs : st[r]? = some (.dct kvs)) (hn : ∀ k, n ≤ k → f k = 0) (h63 : n < 64) : biSortI (.ref r) st = .ok (.ref st.length) (st ++ [.lst (rowD f n)]) := by
  obtain ⟨ks, rfl, nd, h⟩ := R.ex
  have hl := len_ks nd h hn
  have ndi : (ks.map fun k : Nat => (k : Int)).Nodup := List.pairwise_map.mpr (nd.imp fun h => by omega)
  simp only [biSortI, hs, keys_prs, vals_prs]
  rw [if_pos ⟨by rw [List.length_map]; omega, ndi⟩, sort_ups nd h hn]
  have e : sortPairs (prs f ks) ((ups f n).map fun k : Nat => (k : Int)) = rowD f n := by
    unfold sortPairs rowD
    rw [List.map_map]
    refine List.map_congr_left fun k hk => ?_
    have h0 : 0 < f k := by
      have := (List.mem_filter.mp hk).2
      simpa using this
    simp only [Function.comp]
    rw [look_prs, if_pos ((h k).mpr h0)]
    rfl
  rw [e]
  unfold newL
  have : (rowD f n).length ≤ n := by
    unfold rowD ups
    rw [List.length_map]
    have := List.length_filter_le (fun k => decide (0 < f k)) (List.range n)
    rwa [List.length_range] at this
  rw [if_pos (by simp [SZ]; omega)]
theorem Row.sortK {st : Sto} {r n : Nat} {kvs : List (Key × D)} {f : Nat → Nat} (R : Row kvs f) (hs : st[r]? = some (.dct kvs)) (hn : ∀ k, n ≤ k → f k = 0) (h63 : n < 64) : biSortK (.ref r) st = .ok (.ref st.length) (st ++ [.lst ((ups f n).map natD)]) := by
  obtain ⟨ks, rfl, nd, h⟩ := R.ex
  have hl := len_ks nd h hn
  simp only [biSortK, hs, keys_prs]
  rw [if_pos (by rw [List.length_map]; omega), sort_ups nd h hn]
  unfold newL
  have : (ups f n).length ≤ n := by
    unfold ups
    have := List.length_filter_le (fun k => decide (0 < f k)) (List.range n)
    rwa [List.length_range] at this
  rw [if_pos (by simp [SZ]; omega), List.map_map]
  rfl

/-! ### the rows as functions -/
def stepR (us : List Nat) (b : Bool) (i : Nat) (f : Nat → Nat → Nat) : Nat → Nat → Nat := fun v k => f v k + us.count v * ((if k = i then 1 else 0) + (if b then f i k else 0))
/-- behind the top j spots -/
def DP (U : List (List Nat)) (nr : Nat → Bool) : Nat → Nat → Nat → Nat
  | 0 => fun _ _ => 0
  | j + 1 => stepR (U.getD (U.length - 1 - j) []) (nr (U.length - 1 - j)) (U.length - 1 - j) (DP U nr j)
def RR (U : List (List Nat)) (nr : Nat → Bool) : Nat → Nat → Nat := DP U nr U.length
structure Good (U : List (List Nat)) (nr : Nat → Bool) (V : Nat) : Prop where
  two : ∀ i, (U.getD i []).length ≤ 2
  low : ∀ i v, i < V → v ∈ U.getD i [] → v < i
  nrV : ∀ i, nr i = true → i < V
  le : V ≤ U.length
section
variable {U : List (List Nat)} {nr : Nat → Bool} {V : Nat}
theorem DP_out : ∀ (j : Nat) (v k : Nat), U.length ≤ k → DP U nr j v k = 0
  | 0, _, _, _ => rfl
  | j + 1, v, k, h => by
    show DP U nr j v k + _ * _ = 0
    rw [DP_out j v k h, DP_out j _ k h]
    by_cases e : U.length = 0
    · have : U.getD (U.length - 1 - j) [] = [] := by
        rw [List.getD_eq_getElem?_getD, List.getElem?_eq_none (by omega)]
        rfl
      rw [this]
      simp
    · have : ¬ k = U.length - 1 - j := by omega
      simp [this]
def sumTo (f : Nat → Nat) : Nat → Nat
  | 0 => 0
  | n + 1 => sumTo f n + f n
theorem sumTo_add (f g : Nat → Nat) : ∀ n, sumTo (fun k => f k + g k) n = sumTo f n + sumTo g n
  | 0 => rfl
  | n + 1 => by
    simp only [sumTo]
    rw [sumTo_add f g n]
    omega
theorem sumTo_mul (c : Nat) (f : Nat → Nat) : ∀ n, sumTo (fun k => c * f k) n = c * sumTo f n
  | 0 => rfl
  | n + 1 => by
    simp only [sumTo]
    rw [sumTo_mul c f n, Nat.mul_add]
theorem sumTo_congr {f g : Nat → Nat} : ∀ n, (∀ k, k < n → f k = g k) → sumTo f n = sumTo g n
  | 0, _ => rfl
  | n + 1, h => by
    simp only [sumTo]
    rw [sumTo_congr n fun k hk => h k (by omega), h n (by omega)]
theorem sumTo_one (i c : Nat) : ∀ n, i < n → sumTo (fun k => if k = i then c else 0) n = c
  | 0, h => by omega
  | n + 1, h => by
    simp only [sumTo]
    by_cases e : n = i
    · subst e
      have : sumTo (fun k => if k = n then c else 0) n = sumTo (fun _ => 0) n := sumTo_congr n fun k hk => by rw [if_neg (by omega)]
      rw [this, if_pos rfl]
      have z : ∀ m, sumTo (fun _ => 0) m = 0 := fun m => by
        induction m with
        | zero => rfl
        | succ m ih => simp [sumTo, ih]
      rw [z]
      omega
    · rw [sumTo_one i c n (by omega), if_neg e]
      rfl
theorem sumTo_ge (f : Nat → Nat) {k : Nat} : ∀ n, k < n → f k ≤ sumTo f n
  | 0, h => by omega
  | n + 1, h => by
    simp only [sumTo]
    by_cases e : k = n
    · subst e; omega
    · have := sumTo_ge f n (k := k) (by omega)
      omega
/-- a weighed sum over a row -/
def wsum (U : List (List Nat)) (n : Nat → Nat) (f : Nat → Nat) : Nat := sumTo (fun k => f k * n k) U.length
theorem wsum_step (n : Nat → Nat) (us : List Nat) (b : Bool) (i : Nat) (f : Nat → Nat → Nat) (v : Nat) (hi : i < U.length) : wsum U n (stepR us b i f v) = wsum U n (f v) + us.count v * (n i + (if b then wsum U n (f i) else 0)) := by
  unfold wsum stepR
  have e : ∀ k, (f v k + us.count v * ((if k = i then 1 else 0) + (if b then f i k else 0))) * n k = f v k * n k + us.count v * ((if k = i then n i else 0) + (if b then f i k * n k else 0)) := fun k => by
    rw [Nat.add_mul, Nat.mul_assoc, Nat.add_mul]
    congr 2
    congr 1
    · by_cases e : k = i
      · simp [e]
      · simp [e]
    · cases b <;> simp
  rw [sumTo_congr U.length fun k _ => e k, sumTo_add, sumTo_mul, sumTo_add, sumTo_one i (n i) U.length hi]
  congr 3
  cases b with
  | true => simp
  | false =>
    simp
    have z : ∀ m, sumTo (fun _ => 0) m = 0 := fun m => by
      induction m with
      | zero => rfl
      | succ m ih => simp [sumTo, ih]
    exact z _
theorem DP_bound (G : Good U nr V) : ∀ (j : Nat), j ≤ U.length → ∀ v, wsum U (fun _ => 1) (DP U nr j v) + 1 ≤ 3 ^ j
  | 0, _, v => by
    have z : ∀ m, sumTo (fun _ => 0) m = 0 := fun m => by
      induction m with
      | zero => rfl
      | succ m ih => simp [sumTo, ih]
    have : wsum U (fun _ => 1) (DP U nr 0 v) = 0 := by
      unfold wsum DP
      simp only [Nat.zero_mul]
      exact z _
    rw [this]
    simp
  | j + 1, h, v => by
    have i1 := DP_bound G j (by omega) v
    have i2 := DP_bound G j (by omega) (U.length - 1 - j)
    show wsum U (fun _ => 1) (stepR _ _ _ (DP U nr j) v) + 1 ≤ _
    rw [wsum_step _ _ _ _ _ _ (by omega), Nat.pow_succ]
    have c2 : (U.getD (U.length - 1 - j) []).count v ≤ 2 := Nat.le_trans List.count_le_length (G.two _)
    have hx : (1 + (if nr (U.length - 1 - j) = true then wsum U (fun _ => 1) (DP U nr j (U.length - 1 - j)) else 0)) ≤ 3 ^ j := by
      split <;> omega
    have := Nat.mul_le_mul c2 hx
    omega
/-- uses stand lower: what is reckoned stays -/
theorem DP_stay (G : Good U nr V) (i : Nat) (hi : i < V) : ∀ j, U.length - 1 - i ≤ j → j ≤ U.length → DP U nr j i = DP U nr (U.length - 1 - i) i := by
  intro j h1
  induction j with
  | zero =>
    intro _
    have : U.length - 1 - i = 0 := by omega
    rw [this]
  | succ j ih =>
    intro h2
    by_cases e : U.length - 1 - i = j + 1
    · rw [e]
    · rw [← ih (by omega) (by omega)]
      funext k
      show DP U nr j i k + _ * _ = DP U nr j i k
      have hlt : U.length - 1 - j < V := by omega
      have : (U.getD (U.length - 1 - j) []).count i = 0 := List.count_eq_zero.mpr fun hm => by
        have := G.low _ _ hlt hm
        omega
      rw [this]
      simp
theorem RR_at (G : Good U nr V) (i : Nat) (hi : i < V) : DP U nr (U.length - 1 - i) i = RR U nr i := (DP_stay G i hi U.length (by omega) (Nat.le_refl _)).symm
/-- the rows, each from those above -/
theorem DP_sum (G : Good U nr V) (v k : Nat) : ∀ j, j ≤ U.length → DP U nr j v k = sumTo (fun m => (U.getD (U.length - 1 - m) []).count v * ((if k = U.length - 1 - m then 1 else 0) + (if nr (U.length - 1 - m) then RR U nr (U.length - 1 - m) k else 0))) j
  | 0, _ => rfl
  | j + 1, h => by
    simp only [sumTo]
    rw [← DP_sum G v k j (by omega)]
    show DP U nr j v k + _ * _ = _
    congr 2
    cases e : nr (U.length - 1 - j) with
    | false => simp
    | true =>
      have hv := G.nrV _ e
      have := RR_at G _ hv
      rw [show U.length - 1 - (U.length - 1 - j) = j from by omega] at this
      simp [this]
theorem sumTo_rev (f : Nat → Nat) : ∀ n, sumTo (fun m => f (n - 1 - m)) n = sumTo f n := by
  have shift : ∀ (f : Nat → Nat) n, sumTo f (n + 1) = f 0 + sumTo (fun m => f (m + 1)) n := by
    intro f n
    induction n with
    | zero => simp [sumTo]
    | succ n ih =>
      rw [sumTo, ih, sumTo]
      omega
  intro n
  induction n with
  | zero => rfl
  | succ n ih =>
    rw [shift]
    have e : sumTo (fun m => f (n + 1 - 1 - (m + 1))) n = sumTo (fun m => f (n - 1 - m)) n := sumTo_congr n fun m hm => by congr 1; omega
    rw [e, ih, sumTo]
    simp
    omega
theorem RR_sum (G : Good U nr V) (v k : Nat) : RR U nr v k = sumTo (fun i => (U.getD i []).count v * ((if k = i then 1 else 0) + (if nr i then RR U nr i k else 0))) U.length := by
  show DP U nr U.length v k = _
  rw [DP_sum G v k _ (Nat.le_refl _)]
  exact sumTo_rev (fun i => (U.getD i []).count v * ((if k = i then 1 else 0) + (if nr i then RR U nr i k else 0))) U.length
theorem sumTo_zero {f : Nat → Nat} (n : Nat) (h : ∀ k, k < n → f k = 0) : sumTo f n = 0 := by
  induction n with
  | zero => rfl
  | succ n ih =>
    rw [sumTo, ih fun k hk => h k (by omega), h n (by omega)]
theorem RR_low (G : Good U nr V) : ∀ (d i : Nat), U.length - i ≤ d → i < V → ∀ k, k ≤ i → RR U nr i k = 0 := by
  intro d
  induction d with
  | zero =>
    intro i h hi k hk
    have := G.le
    omega
  | succ d ih =>
    intro i h hi k hk
    rw [RR_sum G]
    refine sumTo_zero _ fun m hm => ?_
    by_cases hc : i ∈ U.getD m []
    · by_cases hv : m < V
      · have him := G.low m i hv hc
        rw [if_neg (by omega), ih m (by omega) hv k (by omega)]
        simp
      · have : nr m = false := by
          cases e : nr m with
          | false => rfl
          | true => exact absurd (G.nrV m e) hv
        rw [if_neg (by omega), this]
        simp
    · rw [List.count_eq_zero.mpr hc, Nat.zero_mul]
theorem RR_self' (G : Good U nr V) (v : Nat) (hv : v < V) : RR U nr v v = 0 := RR_low G _ v (Nat.le_refl _) hv v (Nat.le_refl _)
theorem RR_out (v k : Nat) (h : U.length ≤ k) : RR U nr v k = 0 := DP_out _ v k h
theorem RR_le (G : Good U nr V) (v k : Nat) : RR U nr v k < 3 ^ U.length := by
  by_cases h : k < U.length
  · have h1 := DP_bound G U.length (Nat.le_refl _) v
    have h2 := sumTo_ge (fun k => DP U nr U.length v k * (fun _ => 1) k) U.length h
    unfold wsum at h1
    simp only [Nat.mul_one] at h1 h2
    show DP U nr U.length v k < _
    omega
  · rw [RR_out v k (by omega)]
    exact Nat.pow_pos (by decide)
/-- a weighed row, from those above -/
theorem wsum_RR (G : Good U nr V) (n : Nat → Nat) (v : Nat) : wsum U n (RR U nr v) = sumTo (fun i => (U.getD i []).count v * (n i + (if nr i then wsum U n (RR U nr i) else 0))) U.length := by
  have key : ∀ j, j ≤ U.length → wsum U n (DP U nr j v) = sumTo (fun m => (U.getD (U.length - 1 - m) []).count v * (n (U.length - 1 - m) + (if nr (U.length - 1 - m) then wsum U n (RR U nr (U.length - 1 - m)) else 0))) j := by
    intro j
    induction j with
    | zero =>
      intro _
      exact sumTo_zero _ fun k _ => Nat.zero_mul _
    | succ j ih =>
      intro h
      simp only [sumTo]
      rw [← ih (by omega)]
      show wsum U n (stepR _ _ _ (DP U nr j) v) = _
      rw [wsum_step _ _ _ _ _ _ (by omega)]
      cases e : nr (U.length - 1 - j) with
      | false => simp
      | true =>
        have := RR_at G _ (G.nrV _ e)
        rw [show U.length - 1 - (U.length - 1 - j) = j from by omega] at this
        simp [this]
  rw [show wsum U n (RR U nr v) = wsum U n (DP U nr U.length v) from rfl, key _ (Nat.le_refl _)]
  exact sumTo_rev (fun i => (U.getD i []).count v * (n i + (if nr i then wsum U n (RR U nr i) else 0))) U.length
end
end Lw
end

section
set_option Elab.async false
set_option linter.all false
set_option maxRecDepth 100000
set_option autoImplicit false
set_option maxHeartbeats 1000000
/-! M5: the rows reckoned by the text -/
namespace Lw
open PySem L2 Ev
section
variable {st : Sto}
theorem gc_set {r : Nat} {o : MO} {d : D} (w : Wf st) (ho : closedO st.length o = true) (hd : closed st.length d = true) : gc st.length d (st.set r o) = .ok d (st.set r o) := by
  have := gc_old0 (st := st.set r o) (d := d) (w.set ho) (by rw [List.length_set]; exact hd)
  rwa [List.length_set] at this
theorem Row.closed {kvs : List (Key × D)} {f : Nat → Nat} (R : Row kvs f) (n : Nat) : closedO n (.dct kvs) = true := by
  obtain ⟨ks, rfl, -, -⟩ := R.ex
  show closeds n ((prs f ks).map (·.2)) = true
  clear R
  induction ks with
  | nil => rfl
  | cons k ks ih => simp [prs, closeds, Ev.closed, natD] at ih ⊢; exact ih
theorem Row.len {kvs : List (Key × D)} {f : Nat → Nat} {n : Nat} (R : Row kvs f) (hn : ∀ k, n ≤ k → f k = 0) : kvs.length ≤ n := by
  obtain ⟨ks, rfl, nd, h⟩ := R.ex
  have := len_ks nd h hn
  unfold prs
  rwa [List.length_map]
theorem get_row {r i : Nat} {kvs : List (Key × D)} {f : Nat → Nat} (h : st[r]? = some (.dct kvs)) (R : Row kvs f) : evGet (.ref r) (natD i) (.int 0) st = .ok (natD (f i)) st := by
  have := R.look i
  simp only [evGet, dictAt, h, keyD, natD] at this ⊢
  rw [show (D.int 0) = D.int ((0 : Nat) : Int) from rfl, this]
theorem add_nat (a b : Nat) : evAdd (natD a) (natD b) st = .ok (natD (a + b)) st := by simp [evAdd, natD]
theorem add_nat1 (a b : Nat) : evAdd (natD a) (.int b) st = .ok (natD (a + b)) st := by simp [evAdd, natD]
theorem add_one (a : Nat) : evAdd (natD a) (.int 1) st = .ok (natD (a + 1)) st := by simp [evAdd, natD]
theorem set_row {r i c : Nat} {kvs : List (Key × D)} (h : st[r]? = some (.dct kvs)) (hl : kvs.length < SZ) : evSetIx (.ref r) (natD i) (natD c) st = some (st.set r (.dct (putD kvs (.inl (i : Int)) (natD c)))) := by
  simp [evSetIx, h, keyD, natD, hl]
theorem dc_at {r : Nat} {kvs : List (Key × D)} (h : st[r]? = some (.dct kvs)) : isDc st (.ref r) = true := by simp [isDc, dictAt, h]
theorem q_fd {F : Fns} {g : G} {i n : Nat} {b : SL} {env : En} {kvs : List (Key × D)} (h1 : env[i]? = some (some (.ref n))) (h2 : st[n]? = some (.dct kvs)) : evS F (.forD g i b) env st = unlockS n (forF F g b (.at_ n (.lok kvs)) (pairsD kvs) env (st.set n (.lok kvs))) := by
  simp only [evS]
  rw [h1]
  dsimp only
  rw [h2]
  rfl
theorem lt_of_at {n : Nat} {o : MO} (h : st[n]? = some o) : n < st.length := (List.getElem?_eq_some_iff.mp h).1
theorem pairs_prs (g : Nat → Nat) (ks : List Nat) : pairsD (prs g ks) = ks.map fun k => .tup [natD k, natD (g k)] := by
  unfold pairsD prs
  rw [List.map_map]
  rfl
theorem add_ways_ok {r b i n : Nat} {kvs kb : List (Key × D)} {f g : Nat → Nat} (w : Wf st) (hr : st[r]? = some (.dct kvs)) (hb : st[b]? = some (.dct kb)) (hne : r ≠ b) (Rf : Row kvs f) (Rg : Row kb g) (hi : i < n) (hf : ∀ k, n ≤ k → f k = 0) (hg : ∀ k, n ≤ k → g k = 0) (h63 : n < 64) :
    ∃ kvs', f_add_ways [.ref r, natD i, .ref b] st = .ok .non (st.set r (.dct kvs')) ∧ Row kvs' (fun k => f k + ((if k = i then 1 else 0) + g k)) := by
  have hl := Rf.len hf
  let f1 : Nat → Nat := fun k => f k + if k = i then 1 else 0
  have R1 : Row (putD kvs (.inl (i : Int)) (natD (f i + 1))) f1 := Rf.put (by omega) (by simp [f1]) (fun j hj => by simp [f1, hj])
  obtain ⟨ks, rfl, nd, hks⟩ := Rg.ex
  have hb1 : (st.set r (.dct (putD kvs (.inl (i : Int)) (natD (f i + 1)))))[b]? = some (.dct (prs g ks)) := by rw [List.getElem?_set_ne hne]; exact hb
  let st1 : Sto := (st.set r (.dct (putD kvs (.inl (i : Int)) (natD (f i + 1))))).set b (.lok (prs g ks))
  have st1l : st1.length = st.length := by simp [st1]
  have hrl := lt_of_at hr
  have hbl := lt_of_at hb
  let fj : Nat → Nat → Nat := fun j k => f1 k + if k ∈ ks.take j then g k else 0
  obtain ⟨env', st', e1, x2, y2, kv', Rj, rfl, rfl⟩ := forL_inv (bind := bindG (.t (.cons (.n 3) (.cons (.n 4) .nil)))) (body := fun env st => evSL T_add_ways (.cons (.setIx (.v 0) (.v 3) (.op .add (.get2 (.v 0) (.v 3) (.k (.int 0))) (.v 4))) .nil) env st) (chk := (Chk.at_ b (.lok (prs g ks))).ok)
    (fun j env s => ∃ (x y : Option D) (kv : List (Key × D)), Row kv (fj j) ∧ env = [some (.ref r), some (natD i), some (.ref b), x, y] ∧ s = st1.set r (.dct kv)) (xs := ks.map fun k => .tup [natD k, natD (g k)])
    (fun j env s h => by
      obtain ⟨x, y, kv, Rk, rfl, rfl⟩ := h
      have : (st1.set r (.dct kv))[b]? = some (.lok (prs g ks)) := by
        rw [List.getElem?_set_ne hne]
        exact List.getElem?_set_self (by simpa using hbl)
      exact decide_eq_true this)
    (fun j env s x h hx => by
      obtain ⟨x1, y1, kv, Rk, rfl, rfl⟩ := h
      rw [List.getElem?_map] at hx
      cases hk : ks[j]? with
      | none => rw [hk] at hx; cases hx
      | some k =>
        rw [hk] at hx
        cases hx
        have hrk : (st1.set r (.dct kv))[r]? = some (.dct kv) := List.getElem?_set_self (by rw [st1l]; exact hrl)
        have hgk : 0 < g k := (hks k).mp (List.mem_of_getElem? hk)
        have hkn : k < n := Nat.lt_of_not_le fun h => by
          have := hg k h
          omega
        have hkj : k ∉ ks.take j := fun hm => by
          obtain ⟨q, hq⟩ := List.mem_iff_getElem?.mp hm
          rw [List.getElem?_take] at hq
          split at hq
          · have hj := (List.getElem?_eq_some_iff.mp hk).1
            have hq1 := (List.getElem?_eq_some_iff.mp hq).1
            have := (List.getElem?_inj hq1 nd).mp (hq.trans hk.symm)
            omega
          · cases hq
        have hj := (List.getElem?_eq_some_iff.mp hk).1
        have tk : ks.take (j + 1) = ks.take j ++ [k] := by
          rw [List.take_succ, hk]
          rfl
        have hkl : kv.length ≤ n := Rk.len fun q hq => by
          simp only [fj, f1]
          have h1 := hf q hq
          have h2 := hg q hq
          have h3 : ¬ q = i := by omega
          simp [h1, h2, h3]
        have Rk2 : Row (putD kv (.inl (k : Int)) (natD (fj j k + g k))) (fj (j + 1)) := Rk.put (by omega) (by simp [fj, tk, hkj]) (fun q hq => by simp [fj, tk, hq])
        refine ⟨[some (.ref r), some (natD i), some (.ref b), some (natD k), some (natD (g k))], [some (.ref r), some (natD i), some (.ref b), some (natD k), some (natD (g k))], (st1.set r (.dct kv)).set r (.dct (putD kv (.inl (k : Int)) (natD (fj j k + g k)))), rfl, .inl ?_, _, _, _, Rk2, rfl, by rw [List.set_set]⟩
        simp [sl_cons, sl_nil, q_ex, q_set, q_p2, q_p3, q_si, q_au, q_ax, q_if, q_for, q_ret, q_retN, q_pass, q_raise, e_v, e_k, e_tup, e_lst, e_dct, e_op, e_cmp, e_isN, e_notN, e_and, e_or, e_not, e_ifx, e_call, e_bi, e_m0, e_m1, e_g1, e_g2, e_ix, e_sl, l_nil, l_cons, o_no, o_so, t_t, c_no, c_so, kTup, kLst, kOp2, kOp1, kCmp2, kCmp1, kIsN, kNotN, kAnd, kOr, kTru, kNot, kM0, kM1b, kM1, kG1b, kG1, kG2c, kG2b, kG2, kIx2, kIx1, kSl3, kSl2, kSl1, kL2, kL1, kEx, kSet, kP2b, kP2, kP3c, kP3b, kP3, kSi3, kSi2, kSi1, kAu3, kAu2, kAx5, kAx4, kAx3, kAx2, kAx1, kRet, evOp, evCmp, evAug, dc_at hrk, get_row hrk Rk, add_nat, set_row hrk (show kv.length < SZ from Nat.lt_of_le_of_lt hkl (by simp [SZ]; omega))])
    ⟨none, none, putD kvs (.inl (i : Int)) (natD (f i + 1)), by
      have : fj 0 = f1 := by funext k; simp [fj]
      rw [this]
      exact R1, rfl, by
      simp only [st1]
      rw [List.set_comm _ _ hne.symm, List.set_set]⟩
  refine ⟨kv', ?_, ?_⟩
  · have hst : ((st1.set r (.dct kv')).set b (.dct (prs g ks))) = st.set r (.dct kv') := by
      apply List.ext_getElem?
      intro q
      simp only [st1]
      by_cases h1 : b = q
      · subst h1
        rw [List.getElem?_set_self (by simpa using hbl), List.getElem?_set_ne hne, hb]
      · rw [List.getElem?_set_ne h1]
        by_cases h2 : r = q
        · subst h2
          rw [List.getElem?_set_self (by simpa using hrl), List.getElem?_set_self hrl]
        · rw [List.getElem?_set_ne h2, List.getElem?_set_ne h1, List.getElem?_set_ne h2, List.getElem?_set_ne h2]
    have hlk : (st1.set r (.dct kv'))[b]? = some (.lok (prs g ks)) := by
      rw [List.getElem?_set_ne hne]
      exact List.getElem?_set_self (by simpa using hbl)
    have hun : unlockS b (.nx [some (.ref r), some (natD i), some (.ref b), x2, y2] (st1.set r (.dct kv'))) = .nx [some (.ref r), some (natD i), some (.ref b), x2, y2] (st.set r (.dct kv')) := by
      simp only [unlockS, unlockD, hlk, hst]
    unfold f_add_ways c_add_ways
    rw [evF_fin]
    simp [sl_cons, sl_nil, q_ex, q_set, q_p2, q_p3, q_si, q_au, q_ax, q_if, q_for, q_ret, q_retN, q_pass, q_raise, e_v, e_k, e_tup, e_lst, e_dct, e_op, e_cmp, e_isN, e_notN, e_and, e_or, e_not, e_ifx, e_call, e_bi, e_m0, e_m1, e_g1, e_g2, e_ix, e_sl, l_nil, l_cons, o_no, o_so, t_t, c_no, c_so, kTup, kLst, kOp2, kOp1, kCmp2, kCmp1, kIsN, kNotN, kAnd, kOr, kTru, kNot, kM0, kM1b, kM1, kG1b, kG1, kG2c, kG2b, kG2, kIx2, kIx1, kSl3, kSl2, kSl1, kL2, kL1, kEx, kSet, kP2b, kP2, kP3c, kP3b, kP3, kSi3, kSi2, kSi1, kAu3, kAu2, kAx5, kAx4, kAx3, kAx2, kAx1, kRet, evOp, evCmp, evAug, dc_at hr, get_row hr Rf, add_one, set_row hr (show kvs.length < SZ from Nat.lt_of_le_of_lt hl (by simp [SZ]; omega))]
    rw [q_fd rfl hb1, pairs_prs]
    have e1' : forF T_add_ways (.t (.cons (.n 3) (.cons (.n 4) .nil))) (.cons (.setIx (.v 0) (.v 3) (.op .add (.get2 (.v 0) (.v 3) (.k (.int 0))) (.v 4))) .nil) (.at_ b (.lok (prs g ks))) (ks.map fun k => .tup [natD k, natD (g k)]) [some (.ref r), some (natD i), some (.ref b), none, none] ((st.set r (.dct (putD kvs (.inl (i : Int)) (natD (f i + 1))))).set b (.lok (prs g ks))) = .nx [some (.ref r), some (natD i), some (.ref b), x2, y2] (st1.set r (.dct kv')) := e1
    rw [e1', hun]
    simp only [seq_nx, sl_nil, fin_nx]
    exact gc_set w (Rj.closed _) rfl
  · have : (fun k => f k + ((if k = i then 1 else 0) + g k)) = fj (ks.map fun k => D.tup [natD k, natD (g k)]).length := by
      funext k
      simp only [fj, f1, List.length_map, List.take_length]
      by_cases h : k ∈ ks
      · rw [if_pos h]
        omega
      · have : g k = 0 := by
          have := (not_congr (hks k)).mp h
          omega
        rw [if_neg h, this]
        omega
    rw [this]
    exact Rj

/-! ### what stood before stands -/
structure Pre (st s : Sto) : Prop where
  le : st.length ≤ s.length
  at_ : ∀ i, i < st.length → s[i]? = st[i]?
theorem Pre.refl : Pre st st := ⟨Nat.le_refl _, fun _ _ => rfl⟩
theorem Pre.get {s : Sto} (p : Pre st s) {i : Nat} {o : MO} (h : st[i]? = some o) : s[i]? = some o := (p.at_ i (lt_of_at h)).trans h
theorem Pre.app {s r : Sto} (p : Pre st s) : Pre st (s ++ r) := ⟨by have := p.le; simp; omega, fun i h => by rw [List.getElem?_append_left (Nat.lt_of_lt_of_le h p.le)]; exact p.at_ i h⟩
theorem Pre.set {s : Sto} {r : Nat} {o : MO} (p : Pre st s) (h : st.length ≤ r) : Pre st (s.set r o) := ⟨by rw [List.length_set]; exact p.le, fun i hi => by rw [List.getElem?_set_ne (by omega)]; exact p.at_ i hi⟩
theorem Pre.trans {s t : Sto} (p : Pre st s) (q : Pre s t) : Pre st t := ⟨Nat.le_trans p.le q.le, fun i h => (q.at_ i (Nat.lt_of_lt_of_le h p.le)).trans (p.at_ i h)⟩
theorem Pre.take {s : Sto} (p : Pre st s) : s.take st.length = st := by
  apply List.ext_getElem?
  intro i
  by_cases h : i < st.length
  · rw [List.getElem?_take_of_lt h]
    exact p.at_ i h
  · rw [List.getElem?_eq_none (by simp; omega), List.getElem?_eq_none (by omega)]
theorem Pre.gcO {s : Sto} {d : D} (p : Pre st s) (w : Wf st) (h : Ev.closed st.length d = true) : gc st.length d s = .ok d st := by
  unfold Ev.gc
  rw [p.take, if_pos (show st.all (closedO st.length) = true from w), if_pos h]
theorem Pre.gcN {s : Sto} {k : Nat} {o : MO} (p : Pre st s) (w : Wf st) (hk : s[k]? = some o) (hl : st.length ≤ k) (h : closedO st.length o = true) : gc st.length (.ref k) s = .ok (.ref st.length) (st ++ [o]) := by
  unfold Ev.gc
  have : ¬ Ev.closed st.length (.ref k) = true := by simp [Ev.closed]; omega
  rw [p.take, if_pos (show st.all (closedO st.length) = true from w), if_neg this]
  dsimp only
  rw [hk]
  dsimp only
  rw [if_pos ⟨h, hl⟩]
def Net.U (N : Net) : List (List Nat) := N.sp.map (·.2)
theorem U_at (N : Net) (i : Nat) (s : Str × List Nat) (h : N.sp[i]? = some s) : N.U.getD i [] = s.2 := by
  unfold Net.U
  rw [List.getD_eq_getElem?_getD, List.getElem?_map, h]
  rfl
theorem U_len (N : Net) : N.U.length = N.sp.length := by simp [Net.U]
/-- the rows lie in the store -/
structure Rows (s : Sto) (n0 V : Nat) (f : Nat → Nat → Nat) : Prop where
  at_ : ∀ v, v < V → ∃ kvs, s[n0 + 1 + v]? = some (.dct kvs) ∧ Row kvs (f v)
def refsD (n0 V : Nat) : List D := (List.range V).map fun v => D.ref (n0 + 1 + v)
theorem refs_at {n0 V v : Nat} (h : v < V) : (refsD n0 V)[v]? = some (.ref (n0 + 1 + v)) := by simp [refsD, h]
theorem Rows.app {s r : Sto} {n0 V : Nat} {f : Nat → Nat → Nat} (R : Rows s n0 V f) : Rows (s ++ r) n0 V f := ⟨fun v h => by
  obtain ⟨kvs, h1, h2⟩ := R.at_ v h
  exact ⟨kvs, app_low h1, h2⟩⟩
theorem Rows.set {s : Sto} {n0 V v : Nat} {f g : Nat → Nat → Nat} {kvs : List (Key × D)} (R : Rows s n0 V f) (hv : v < V) (Rv : Row kvs (g v)) (hg : ∀ u, u ≠ v → g u = f u) : Rows (s.set (n0 + 1 + v) (.dct kvs)) n0 V g := ⟨fun u hu => by
  by_cases e : u = v
  · subst e
    obtain ⟨k0, h1, _⟩ := R.at_ u hu
    exact ⟨kvs, List.getElem?_set_self (lt_of_at h1), Rv⟩
  · obtain ⟨k0, h1, h2⟩ := R.at_ u hu
    exact ⟨k0, by rw [List.getElem?_set_ne (by omega)]; exact h1, by rw [hg u e]; exact h2⟩⟩
theorem nat_down {L j : Nat} (h : j < L) : (L : Int) - 1 + (j : Int) * (-1) = ((L - 1 - j : Nat) : Int) := by omega
theorem spot_at {s : Sto} {n0 : Nat} {N : Net} (h : s[n0]? = some (.lst (N.sp.map spotD))) {i : Nat} {q : Str × List Nat} (hq : N.sp[i]? = some q) : evIx (.ref n0) (natD i) s = .ok (spotD q) s := by
  simp [evIx, itemsD, h, natD, hq]
theorem spot1 {s : Sto} (q : Str × List Nat) : evIx (spotD q) (.int 1) s = .ok (natsD q.2) s := by simp [evIx, itemsD, spotD]
/-- one number of the text's rows -/
theorem inner_ok {s : Sto} {n0 V L i b : Nat} {U : List (List Nat)} {nr : Nat → Bool} {us : List Nat} {f : Nat → Nat → Nat} {g : Nat → Nat} {kb : List (Key × D)} {a0 a1 a2 x6 : Option D} (w : Wf s) (hlst : s[n0 + 1 + V]? = some (.lst (refsD n0 V))) (R : Rows s n0 V f)
    (hb : s[b]? = some (.dct kb)) (Rb : Row kb g) (hus : ∀ v ∈ us, v < V ∧ n0 + 1 + v ≠ b) (hi : i < L) (hf : ∀ v k, L ≤ k → f v k = 0) (hg : ∀ k, L ≤ k → g k = 0) (h63 : L < 64) :
    ∃ s' x6', forF T_ways_of (.n 6) (.cons (.ex (.call 16 (.cons (.ix (.v 3) (.v 6)) (.cons (.v 4) (.cons (.v 5) (.nil)))))) (.nil)) .free (us.map natD) [a0, a1, a2, some (.ref (n0 + 1 + V)), some (natD i), some (.ref b), x6, none, none] s = .nx [a0, a1, a2, some (.ref (n0 + 1 + V)), some (natD i), some (.ref b), x6', none, none] s' ∧
      Wf s' ∧ s'.length = s.length ∧ (∀ q, q < n0 + 1 ∨ n0 + 1 + V ≤ q → s'[q]? = s[q]?) ∧ Rows s' n0 V (fun v k => f v k + us.count v * ((if k = i then 1 else 0) + g k)) := by
  let ft : Nat → Nat → Nat → Nat := fun t v k => f v k + (us.take t).count v * ((if k = i then 1 else 0) + g k)
  obtain ⟨env', s', e1, x6', rfl, w', l', k', R'⟩ := forL_inv (bind := bindG (.n 6)) (body := fun env st => evSL T_ways_of (.cons (.ex (.call 16 (.cons (.ix (.v 3) (.v 6)) (.cons (.v 4) (.cons (.v 5) (.nil)))))) (.nil)) env st) (chk := Chk.free.ok)
    (fun t env s1 => ∃ x, env = [a0, a1, a2, some (.ref (n0 + 1 + V)), some (natD i), some (.ref b), x, none, none] ∧ Wf s1 ∧ s1.length = s.length ∧ (∀ q, (∀ v, v ∈ us → q ≠ n0 + 1 + v) → s1[q]? = s[q]?) ∧ Rows s1 n0 V (ft t)) (xs := us.map natD)
    (fun t env s1 h => rfl)
    (fun t env s1 x h hx => by
      obtain ⟨x0, rfl, w1, l1, k1, R1⟩ := h
      rw [List.getElem?_map] at hx
      cases hv : us[t]? with
      | none => rw [hv] at hx; cases hx
      | some v =>
        rw [hv] at hx
        cases hx
        obtain ⟨hvV, hvb⟩ := hus v (List.mem_of_getElem? hv)
        obtain ⟨kvs, r1, r2⟩ := R1.at_ v hvV
        have hb1 : s1[b]? = some (.dct kb) := (k1 b fun u hu => by have := (hus u hu).2; omega).trans hb
        have hl1 : s1[n0 + 1 + V]? = some (.lst (refsD n0 V)) := (k1 _ fun u hu => by have := (hus u hu).1; omega).trans hlst
        obtain ⟨kvs', c1, c2⟩ := add_ways_ok (n := L) w1 r1 hb1 hvb r2 Rb hi (fun k hk => by
          simp only [ft]
          have h1 := hf v k hk
          have h2 := hg k hk
          have h3 : ¬ k = i := by omega
          simp [h1, h2, h3]) hg h63
        have tk : us.take (t + 1) = us.take t ++ [v] := by
          rw [List.take_succ, hv]
          rfl
        refine ⟨[a0, a1, a2, some (.ref (n0 + 1 + V)), some (natD i), some (.ref b), some (natD v), none, none], [a0, a1, a2, some (.ref (n0 + 1 + V)), some (natD i), some (.ref b), some (natD v), none, none], s1.set (n0 + 1 + v) (.dct kvs'), rfl, .inl ?_, _, rfl, w1.set (c2.closed _), by rw [List.length_set]; exact l1, fun q hq => ?_, R1.set hvV ?_ fun u hu => ?_⟩
        · have hix : evIx (.ref (n0 + 1 + V)) (natD v) s1 = .ok (.ref (n0 + 1 + v)) s1 := by simp [evIx, itemsD, hl1, natD, refs_at hvV]
          simp [sl_cons, sl_nil, q_ex, q_set, q_p2, q_p3, q_si, q_au, q_ax, q_if, q_for, q_ret, q_retN, q_pass, q_raise, e_v, e_k, e_tup, e_lst, e_dct, e_op, e_cmp, e_isN, e_notN, e_and, e_or, e_not, e_ifx, e_call, e_bi, e_m0, e_m1, e_g1, e_g2, e_ix, e_sl, l_nil, l_cons, o_no, o_so, t_t, c_no, c_so, kTup, kLst, kOp2, kOp1, kCmp2, kCmp1, kIsN, kNotN, kAnd, kOr, kTru, kNot, kM0, kM1b, kM1, kG1b, kG1, kG2c, kG2b, kG2, kIx2, kIx1, kSl3, kSl2, kSl1, kL2, kL1, kEx, kSet, kP2b, kP2, kP3c, kP3b, kP3, kSi3, kSi2, kSi1, kAu3, kAu2, kAx5, kAx4, kAx3, kAx2, kAx1, kRet, evOp, evCmp, evAug, hix, kCall, Tab, c1]
        · rw [List.getElem?_set_ne (by have := hq v (List.mem_of_getElem? hv); omega)]
          exact k1 q hq
        · have : (fun k => ft t v k + ((if k = i then 1 else 0) + g k)) = ft (t + 1) v := by
            funext k
            simp only [ft, tk, List.count_append, List.count_singleton_self, Nat.add_mul, Nat.one_mul]
            omega
          rw [← this]
          exact c2
        · funext k
          have : ¬ v = u := fun e => hu e.symm
          simp [ft, tk, List.count_append, List.count_singleton, this])
    ⟨x6, rfl, w, rfl, fun _ _ => rfl, by
      have : ft 0 = f := by funext v k; simp [ft]
      rw [this]
      exact R⟩
  refine ⟨s', x6', e1, w', l', fun q hq => k' q fun v hv => by have := (hus v hv).1; omega, ?_⟩
  have : (fun v k => f v k + us.count v * ((if k = i then 1 else 0) + g k)) = ft (us.map natD).length := by
    funext v k
    simp [ft]
  rw [this]
  exact R'

theorem rangeL_down {L j : Nat} {d : D} (h : (rangeL ((L : Int) - 1) (-1) L)[j]? = some d) : j < L ∧ d = natD (L - 1 - j) := by
  obtain ⟨h1, rfl⟩ := rangeL_get h
  exact ⟨h1, by rw [nat_down h1]; rfl⟩
theorem rangeL_length {lo c : Int} {n : Nat} : (rangeL lo c n).length = n := by simp [rangeL]

theorem wf_rows {N : Net} {refs : Sto} (w : Wf st) (hr : refs.length = N.nodes.length) (hre : ∀ o ∈ refs, o = .dct []) : Wf (st ++ .lst (N.sp.map spotD) :: (refs ++ [.lst (refsD st.length N.nodes.length)])) := by
  refine w.app ?_
  have hx : ∀ (l : List Nat) (m : Nat), (∀ v ∈ l, st.length + 1 + v < m) → closeds m (l.map fun v => D.ref (st.length + 1 + v)) = true := fun l m => by
    induction l with
    | nil => exact fun _ => rfl
    | cons v l ih =>
      intro h
      simp only [List.map_cons, closeds, Ev.closed, Bool.and_eq_true, decide_eq_true_eq]
      exact ⟨h v List.mem_cons_self, ih fun u hu => h u (List.mem_cons_of_mem _ hu)⟩
  have hy : closeds (st.length + (N.nodes.length + 2)) (refsD st.length N.nodes.length) = true := hx _ _ fun v hv => by
    have := List.mem_range.mp hv
    omega
  have hz : ∀ n : Nat, refs.all (closedO n) = true := fun n => List.all_eq_true.mpr fun o ho => by rw [hre o ho]; rfl
  have e : (MO.lst (N.sp.map spotD) :: (refs ++ [MO.lst (refsD st.length N.nodes.length)])).length = N.nodes.length + 2 := by simp [hr]
  rw [e]
  simp [hz, closedO, closed_spots, hy]
/-- what a row is when all is done -/
theorem ways_loop {N : Net} {a n x : Bool} {g : Nat} (w : Wf st) (hg : st[g]? = some (grO a n x)) (hN : N.nodes.length ≤ 20) (hT : N.told.length ≤ 20) (G : Good N.U (N.near a n x) N.nodes.length) (hlow : ∀ i v, v ∈ N.U.getD i [] → v < N.nodes.length) (refs : Sto)
    (hr : refs.length = N.nodes.length) (hre : ∀ o ∈ refs, o = .dct []) :
    ∃ env' s', forF T_ways_of (.n 4) (.cons (.set (.n 5) (.ifx (.call 12 (.cons (.v 0) (.cons (.v 4) (.cons (.v 1) (.nil))))) (.ix (.v 3) (.v 4)) (.dct [] .nil))) (.cons (.forI (.n 6) (.of (.ix (.ix (.v 2) (.v 4)) (.k (.int 1)))) (.cons (.ex (.call 16 (.cons (.ix (.v 3) (.v 6)) (.cons (.v 4) (.cons (.v 5) (.nil)))))) (.nil))) (.nil)))
        .free (rangeL ((N.sp.length : Int) - 1) (-1) N.sp.length) [some N.d, some (.ref g), some (.ref st.length), some (.ref (st.length + 1 + N.nodes.length)), none, none, none, none, none] (st ++ .lst (N.sp.map spotD) :: (refs ++ [.lst (refsD st.length N.nodes.length)])) = .nx env' s' ∧
      (∃ x4 x5 x6, env' = [some N.d, some (.ref g), some (.ref st.length), some (.ref (st.length + 1 + N.nodes.length)), x4, x5, x6, none, none]) ∧ Wf s' ∧ Pre st s' ∧ s'[st.length + 1 + N.nodes.length]? = some (.lst (refsD st.length N.nodes.length)) ∧ Rows s' st.length N.nodes.length (RR N.U (N.near a n x)) := by
  have hUl := U_len N
  have hsp : N.sp.length = N.nodes.length + N.told.length + 1 := by
    simp [Net.sp]
    omega
  obtain ⟨env', s', e1, x4, x5, x6, rfl, w', p', q0, q1, R'⟩ := forL_inv (bind := bindG (.n 4)) (body := fun env st => evSL T_ways_of (.cons (.set (.n 5) (.ifx (.call 12 (.cons (.v 0) (.cons (.v 4) (.cons (.v 1) (.nil))))) (.ix (.v 3) (.v 4)) (.dct [] .nil))) (.cons (.forI (.n 6) (.of (.ix (.ix (.v 2) (.v 4)) (.k (.int 1)))) (.cons (.ex (.call 16 (.cons (.ix (.v 3) (.v 6)) (.cons (.v 4) (.cons (.v 5) (.nil)))))) (.nil))) (.nil))) env st) (chk := Chk.free.ok)
    (fun j env s1 => ∃ x4 x5 x6, env = [some N.d, some (.ref g), some (.ref st.length), some (.ref (st.length + 1 + N.nodes.length)), x4, x5, x6, none, none] ∧ Wf s1 ∧ Pre st s1 ∧ s1[st.length]? = some (.lst (N.sp.map spotD)) ∧ s1[st.length + 1 + N.nodes.length]? = some (.lst (refsD st.length N.nodes.length)) ∧ Rows s1 st.length N.nodes.length (DP N.U (N.near a n x) j))
    (xs := rangeL ((N.sp.length : Int) - 1) (-1) N.sp.length)
    (fun t env s1 h => rfl)
    (fun j env s1 y h hy => by
      obtain ⟨x4, x5, x6, rfl, w1, p1, h0, h1, R1⟩ := h
      obtain ⟨hj, rfl⟩ := rangeL_down hy
      have hiL : N.sp.length - 1 - j < N.sp.length := by omega
      obtain ⟨q, hq⟩ : ∃ q, N.sp[N.sp.length - 1 - j]? = some q := ⟨_, List.getElem?_eq_getElem hiL⟩
      have hU := U_at N _ q hq
      have hgs := p1.get hg
      have hnear := near_ok N a n x g (N.sp.length - 1 - j) w1 hgs
      have hdp : DP N.U (N.near a n x) (j + 1) = stepR q.2 (N.near a n x (N.sp.length - 1 - j)) (N.sp.length - 1 - j) (DP N.U (N.near a n x) j) := by
        show stepR (N.U.getD (N.U.length - 1 - j) []) _ _ _ = _
        rw [hUl, hU]
      have hus : ∀ v ∈ q.2, v < N.nodes.length := fun v hv => hlow (N.sp.length - 1 - j) v (by rw [hU]; exact hv)
      have hDout : ∀ v k, N.sp.length ≤ k → DP N.U (N.near a n x) j v k = 0 := fun v k h => DP_out j v k (by rw [hUl]; exact h)
      -- what stands behind the number
      have beh : ∃ (s2 : Sto) (b : Nat) (kb : List (Key × D)) (gb : Nat → Nat), Out.bind ((evE T_ways_of (.call 12 (.cons (.v 0) (.cons (.v 4) (.cons (.v 1) (.nil))))) [some N.d, some (.ref g), some (.ref st.length), some (.ref (st.length + 1 + N.nodes.length)), some (natD (N.sp.length - 1 - j)), x5, x6, none, none] s1).bind kTru) (kIf T_ways_of (.ix (.v 3) (.v 4)) (.dct [] .nil) [some N.d, some (.ref g), some (.ref st.length), some (.ref (st.length + 1 + N.nodes.length)), some (natD (N.sp.length - 1 - j)), x5, x6, none, none]) = .ok (.ref b) s2 ∧
          Wf s2 ∧ Pre st s2 ∧ (∀ q, s1.length > q → s2[q]? = s1[q]?) ∧ s2[b]? = some (.dct kb) ∧ Row kb gb ∧ (∀ v ∈ q.2, st.length + 1 + v ≠ b) ∧ gb = (fun k => if N.near a n x (N.sp.length - 1 - j) then DP N.U (N.near a n x) j (N.sp.length - 1 - j) k else 0) := by
        cases e : N.near a n x (N.sp.length - 1 - j) with
        | true =>
          have hiV := G.nrV _ e
          obtain ⟨kvs, r1, r2⟩ := R1.at_ _ hiV
          have hix : evIx (.ref (st.length + 1 + N.nodes.length)) (natD (N.sp.length - 1 - j)) s1 = .ok (.ref (st.length + 1 + (N.sp.length - 1 - j))) s1 := by simp [evIx, itemsD, h1, natD, refs_at hiV]
          rw [e] at hnear
          refine ⟨s1, _, kvs, _, ?_, w1, p1, fun _ _ => rfl, r1, r2, fun v hv => ?_, by funext k; simp⟩
          · simp [sl_cons, sl_nil, q_ex, q_set, q_p2, q_p3, q_si, q_au, q_ax, q_if, q_for, q_ret, q_retN, q_pass, q_raise, e_v, e_k, e_tup, e_lst, e_dct, e_op, e_cmp, e_isN, e_notN, e_and, e_or, e_not, e_ifx, e_call, e_bi, e_m0, e_m1, e_g1, e_g2, e_ix, e_sl, l_nil, l_cons, o_no, o_so, t_t, c_no, c_so, kTup, kLst, kOp2, kOp1, kCmp2, kCmp1, kIsN, kNotN, kAnd, kOr, kTru, kNot, kM0, kM1b, kM1, kG1b, kG1, kG2c, kG2b, kG2, kIx2, kIx1, kSl3, kSl2, kSl1, kL2, kL1, kEx, kSet, kP2b, kP2, kP3c, kP3b, kP3, kSi3, kSi2, kSi1, kAu3, kAu2, kAx5, kAx4, kAx3, kAx2, kAx1, kRet, evOp, evCmp, evAug, kCall, Tab, hnear, truD, hix]
          · have := G.low _ v hiV (by rw [hU]; exact hv)
            omega
        | false =>
          rw [e] at hnear
          refine ⟨s1 ++ [.dct []], s1.length, [], _, ?_, w1.app rfl, p1.app, fun q hq => List.getElem?_append_left hq, app_at _ _ _, Row.nil, fun v hv => ?_, by funext k; simp⟩
          · simp [sl_cons, sl_nil, q_ex, q_set, q_p2, q_p3, q_si, q_au, q_ax, q_if, q_for, q_ret, q_retN, q_pass, q_raise, e_v, e_k, e_tup, e_lst, e_dct, e_op, e_cmp, e_isN, e_notN, e_and, e_or, e_not, e_ifx, e_call, e_bi, e_m0, e_m1, e_g1, e_g2, e_ix, e_sl, l_nil, l_cons, o_no, o_so, t_t, c_no, c_so, kTup, kLst, kOp2, kOp1, kCmp2, kCmp1, kIsN, kNotN, kAnd, kOr, kTru, kNot, kM0, kM1b, kM1, kG1b, kG1, kG2c, kG2b, kG2, kIx2, kIx1, kSl3, kSl2, kSl1, kL2, kL1, kEx, kSet, kP2b, kP2, kP3c, kP3b, kP3, kSi3, kSi2, kSi1, kAu3, kAu2, kAx5, kAx4, kAx3, kAx2, kAx1, kRet, evOp, evCmp, evAug, kCall, Tab, hnear, truD, kDct]
          · have h2 := lt_of_at h1
            have := hus v hv
            omega
      obtain ⟨s2, b, kb, gb, b1, w2, p2, k2, b2, b3, b4, b5⟩ := beh
      have l1 := lt_of_at h1
      have R2 : Rows s2 st.length N.nodes.length (DP N.U (N.near a n x) j) := ⟨fun v hv => by
        obtain ⟨kvs, r1, r2⟩ := R1.at_ v hv
        exact ⟨kvs, (k2 _ (by omega)).trans r1, r2⟩⟩
      have h02 : s2[st.length]? = some (.lst (N.sp.map spotD)) := (k2 _ (by omega)).trans h0
      have h12 : s2[st.length + 1 + N.nodes.length]? = some (.lst (refsD st.length N.nodes.length)) := (k2 _ l1).trans h1
      obtain ⟨s3, x6', c1, w3, l3, k3, R3⟩ := inner_ok (U := N.U) (nr := N.near a n x) (us := q.2) (a0 := some N.d) (a1 := some (.ref g)) (a2 := some (.ref st.length)) (x6 := x6) w2 h12 R2 b2 b3 (fun v hv => ⟨hus v hv, b4 v hv⟩) hiL hDout (fun k hk => by rw [b5]; simp [hDout _ k hk]) (by omega)
      refine ⟨[some N.d, some (.ref g), some (.ref st.length), some (.ref (st.length + 1 + N.nodes.length)), some (natD (N.sp.length - 1 - j)), x5, x6, none, none], _, s3, rfl, .inl ?_, some (natD (N.sp.length - 1 - j)), some (.ref b), x6', rfl, w3, ?_, ?_, ?_, ?_⟩
      · rw [sl_cons, q_set, e_ifx, b1]
        simp [sl_cons, sl_nil, q_ex, q_set, q_p2, q_p3, q_si, q_au, q_ax, q_if, q_for, q_ret, q_retN, q_pass, q_raise, e_v, e_k, e_tup, e_lst, e_dct, e_op, e_cmp, e_isN, e_notN, e_and, e_or, e_not, e_ifx, e_call, e_bi, e_m0, e_m1, e_g1, e_g2, e_ix, e_sl, l_nil, l_cons, o_no, o_so, t_t, c_no, c_so, kTup, kLst, kOp2, kOp1, kCmp2, kCmp1, kIsN, kNotN, kAnd, kOr, kTru, kNot, kM0, kM1b, kM1, kG1b, kG1, kG2c, kG2b, kG2, kIx2, kIx1, kSl3, kSl2, kSl1, kL2, kL1, kEx, kSet, kP2b, kP2, kP3c, kP3b, kP3, kSi3, kSi2, kSi1, kAu3, kAu2, kAx5, kAx4, kAx3, kAx2, kAx1, kRet, evOp, evCmp, evAug, bindG, i_of, kFor, spot_at h02 hq, spot1, kWalk, walkD, natsD, c1]
      · exact ⟨by rw [l3]; exact p2.le, fun i hi => (k3 i (.inl (by omega))).trans (p2.at_ i hi)⟩
      · exact (k3 _ (.inl (by omega))).trans h02
      · exact (k3 _ (.inr (by omega))).trans h12
      · rw [hdp]
        have : stepR q.2 (N.near a n x (N.sp.length - 1 - j)) (N.sp.length - 1 - j) (DP N.U (N.near a n x) j) = fun v k => DP N.U (N.near a n x) j v k + q.2.count v * ((if k = N.sp.length - 1 - j then 1 else 0) + gb k) := by
          rw [b5]
          rfl
        rw [this]
        exact R3)
    ⟨none, none, none, rfl, wf_rows w hr hre, Pre.refl.app, app_at _ _ _, by
      rw [List.getElem?_append_right (by omega), show st.length + 1 + N.nodes.length - st.length = N.nodes.length + 1 from by omega, List.getElem?_cons_succ, List.getElem?_append_right (by omega), hr, Nat.sub_self]
      rfl, ⟨fun v hv => ⟨[], by
        rw [List.getElem?_append_right (by omega), show st.length + 1 + v - st.length = v + 1 from by omega, List.getElem?_cons_succ, List.getElem?_append_left (by omega)]
        obtain ⟨o, ho⟩ : ∃ o, refs[v]? = some o := ⟨_, List.getElem?_eq_getElem (by omega)⟩
        rw [ho, hre o (List.mem_of_getElem? ho)], Row.nil⟩⟩⟩
  refine ⟨_, s', e1, ⟨x4, x5, x6, rfl⟩, w', p', q1, ?_⟩
  rw [rangeL_length] at R'
  show Rows s' st.length N.nodes.length (DP N.U (N.near a n x) N.U.length)
  rw [hUl]
  exact R'

theorem sp_len (N : Net) : N.sp.length = N.nodes.length + N.told.length + 1 := by
  simp [Net.sp]
  omega
def waysD (N : Net) (nr : Nat → Bool) : D := .tup ((List.range N.nodes.length).map fun v => .tup (rowD (RR N.U nr v) N.sp.length))
theorem closed_row (k : Nat) (f : Nat → Nat) (n : Nat) : closeds k (rowD f n) = true := by
  unfold rowD
  induction ups f n with
  | nil => rfl
  | cons a l ih =>
    show (closeds k [natD a, natD (f a)] && closeds k _) = true
    rw [ih]
    rfl
theorem closed_ways (k : Nat) (N : Net) (nr : Nat → Bool) : Ev.closed k (waysD N nr) = true := by
  unfold waysD
  simp only [Ev.closed]
  induction List.range N.nodes.length with
  | nil => rfl
  | cons a l ih => simp [closeds, Ev.closed, closed_row, ih]
theorem rowD_len (f : Nat → Nat) (n : Nat) : (rowD f n).length ≤ n := by
  unfold rowD ups
  rw [List.length_map]
  have := List.length_filter_le (fun k => decide (0 < f k)) (List.range n)
  rwa [List.length_range] at this
/-- tuple(sorted(row.items())) -/
theorem sorted_row {F : Fns} {s : Sto} {i r n : Nat} {env : En} {kvs : List (Key × D)} {f : Nat → Nat} (w : Wf s) (he : env[i]? = some (some (.ref r))) (hs : s[r]? = some (.dct kvs)) (R : Row kvs f) (hn : ∀ k, n ≤ k → f k = 0) (h63 : n < 64) : evE F (.bi .tuple (.bi .sortI (.v i))) env s = .ok (.tup (rowD f n)) s := by
  have h1 := R.sortI hs hn h63
  have h2 : gc s.length (.ref s.length) (s ++ [.lst (rowD f n)]) = .ok (.ref s.length) (s ++ [.lst (rowD f n)]) := gc_new (k := 0) w rfl (closed_row _ _ _)
  have h3 : gc s.length (.tup (rowD f n)) (s ++ [.lst (rowD f n)]) = .ok (.tup (rowD f n)) s := gc_old w (closed_row _ _ _)
  have hl := rowD_len f n
  have h4 : (rowD f n).length ≤ 16777216 := by omega
  simp [e_bi, e_v, he, kBi, evBi, evBi0, h1, h2, biTuple, itemsD, SZ, h4, h3]
theorem ways_ok {N : Net} {a n x : Bool} {g : Nat} (w : Wf st) (hg : st[g]? = some (grO a n x)) (hN : N.nodes.length ≤ 20) (hT : N.told.length ≤ 20) (G : Good N.U (N.near a n x) N.nodes.length) (hlow : ∀ i v, v ∈ N.U.getD i [] → v < N.nodes.length) :
    f_ways_of [N.d, .ref g] st = .ok (waysD N (N.near a n x)) st := by
  have hsp := sp_len N
  unfold f_ways_of c_ways_of
  rw [evF_fin]
  have hs := spots_ok N w (by omega) (by omega)
  have w1 : Wf (st ++ [.lst (N.sp.map spotD)]) := w.app (by simp [closedO, closed_spots])
  -- the empty rows
  obtain ⟨ys, s1, c1, refs, rfl, c2, c3, rfl⟩ := lcL_inv (bind := bindG (.n 7)) (t := fun env st => evC T_ways_of .no env st) (f := fun env st => evE T_ways_of (.dct [] .nil) env st) (chk := Chk.free.ok) (env := wipeE [some N.d, some (.ref g), none, none, none, none, none, none, none] [7])
    (fun j ys s => ∃ refs : Sto, s = st ++ .lst (N.sp.map spotD) :: refs ∧ refs.length = j ∧ (∀ o ∈ refs, o = .dct []) ∧ ys = refsD st.length j) (xs := N.nodes.map Nd.d) (fun _ _ _ _ => rfl)
    (fun j ys s y h hy => by
      obtain ⟨refs, rfl, h1, h2, rfl⟩ := h
      rw [List.getElem?_map] at hy
      cases e : N.nodes[j]? with
      | none => rw [e] at hy; cases hy
      | some nd =>
        rw [e] at hy
        cases hy
        refine ⟨_, _, _, _, rfl, c_no _ _, by simp [sl_cons, sl_nil, q_ex, q_set, q_p2, q_p3, q_si, q_au, q_ax, q_if, q_for, q_ret, q_retN, q_pass, q_raise, e_v, e_k, e_tup, e_lst, e_dct, e_op, e_cmp, e_isN, e_notN, e_and, e_or, e_not, e_ifx, e_call, e_bi, e_m0, e_m1, e_g1, e_g2, e_ix, e_sl, l_nil, l_cons, o_no, o_so, t_t, c_no, c_so, kTup, kLst, kOp2, kOp1, kCmp2, kCmp1, kIsN, kNotN, kAnd, kOr, kTru, kNot, kM0, kM1b, kM1, kG1b, kG1, kG2c, kG2b, kG2, kIx2, kIx1, kSl3, kSl2, kSl1, kL2, kL1, kEx, kSet, kP2b, kP2, kP3c, kP3b, kP3, kSi3, kSi2, kSi1, kAu3, kAu2, kAx5, kAx4, kAx3, kAx2, kAx1, kRet, evOp, evCmp, evAug, kDct]; exact ⟨rfl, rfl⟩, refs ++ [.dct []], by simp, by simp [h1], fun o ho => ?_, ?_⟩
        · rcases List.mem_append.mp ho with z | z
          · exact h2 o z
          · simpa using z
        · unfold refsD
          rw [List.range_succ, List.map_append]
          simp [h1]
          omega) (st := st ++ [.lst (N.sp.map spotD)]) ⟨[], rfl, rfl, fun _ h => by simp at h, rfl⟩
  have c1' : lcX T_ways_of (.dct [] .nil) (.n 7) .no [7] [some N.d, some (.ref g), none, none, none, none, none, none, none] .free (N.nodes.map Nd.d) (st ++ [.lst (N.sp.map spotD)]) = .ok (refsD st.length (N.nodes.map Nd.d).length) (st ++ .lst (N.sp.map spotD) :: refs) := c1
  rw [List.length_map] at c1' c2
  have z1 : N.nodes.length ≤ 16777216 := by omega
  obtain ⟨env', s', d1, ⟨x4, x5, x6, rfl⟩, w', p', r0, R'⟩ := ways_loop w hg hN hT G hlow refs c2 c3
  have hl := sp_len N
  have hlen : biLen (.ref st.length) (st ++ .lst (N.sp.map spotD) :: (refs ++ [.lst (refsD st.length N.nodes.length)])) = .ok (.int N.sp.length) (st ++ .lst (N.sp.map spotD) :: (refs ++ [.lst (refsD st.length N.nodes.length)])) := by
    simp [biLen]
  have hr3 : kR3c (.int ((N.sp.length : Int) - 1)) (.int (-1)) (.int (-1)) (st ++ .lst (N.sp.map spotD) :: (refs ++ [.lst (refsD st.length N.nodes.length)])) = .ok (rangeL ((N.sp.length : Int) - 1) (-1) N.sp.length, .free) (st ++ .lst (N.sp.map spotD) :: (refs ++ [.lst (refsD st.length N.nodes.length)])) := kR3c_n _ _ (by omega)
  simp [sl_cons, sl_nil, q_ex, q_set, q_p2, q_p3, q_si, q_au, q_ax, q_if, q_for, q_ret, q_retN, q_pass, q_raise, e_v, e_k, e_tup, e_lst, e_dct, e_op, e_cmp, e_isN, e_notN, e_and, e_or, e_not, e_ifx, e_call, e_bi, e_m0, e_m1, e_g1, e_g2, e_ix, e_sl, l_nil, l_cons, o_no, o_so, t_t, c_no, c_so, kTup, kLst, kOp2, kOp1, kCmp2, kCmp1, kIsN, kNotN, kAnd, kOr, kTru, kNot, kM0, kM1b, kM1, kG1b, kG1, kG2c, kG2b, kG2, kIx2, kIx1, kSl3, kSl2, kSl1, kL2, kL1, kEx, kSet, kP2b, kP2, kP3c, kP3b, kP3, kSi3, kSi2, kSi1, kAu3, kAu2, kAx5, kAx4, kAx3, kAx2, kAx1, kRet, evOp, evCmp, evAug, kCall, Tab, hs, e_lc, i_of, kWalk, walkD, net3, kLc1, SZ, z1, c1', kLc2, c2]
  have e0 : st.length + (N.nodes.length + 1) = st.length + 1 + N.nodes.length := by omega
  rw [e0]
  rw [i_r3]
  have hb : kBi .len (st ++ MO.lst (N.sp.map spotD) :: (refs ++ [MO.lst (refsD st.length N.nodes.length)])).length (.ref st.length) (st ++ .lst (N.sp.map spotD) :: (refs ++ [.lst (refsD st.length N.nodes.length)])) = .ok (.int N.sp.length) (st ++ .lst (N.sp.map spotD) :: (refs ++ [.lst (refsD st.length N.nodes.length)])) :=
    bi_len 0 _ _ (wf_rows w c2 c3) hlen
  have hsub : evSub (.int N.sp.length) (.int 1) (st ++ .lst (N.sp.map spotD) :: (refs ++ [.lst (refsD st.length N.nodes.length)])) = .ok (.int ((N.sp.length : Int) - 1)) (st ++ .lst (N.sp.map spotD) :: (refs ++ [.lst (refsD st.length N.nodes.length)])) := rfl
  generalize hS : st ++ MO.lst (N.sp.map spotD) :: (refs ++ [MO.lst (refsD st.length N.nodes.length)]) = S at *
  have hix : biTuple (.ref (st.length + 1 + N.nodes.length)) s' = .ok (.tup (refsD st.length N.nodes.length)) s' := by simp [biTuple, itemsD, r0, refsD, SZ]; omega
  simp [sl_cons, sl_nil, q_ex, q_set, q_p2, q_p3, q_si, q_au, q_ax, q_if, q_for, q_ret, q_retN, q_pass, q_raise, e_v, e_k, e_tup, e_lst, e_dct, e_op, e_cmp, e_isN, e_notN, e_and, e_or, e_not, e_ifx, e_call, e_bi, e_m0, e_m1, e_g1, e_g2, e_ix, e_sl, l_nil, l_cons, o_no, o_so, t_t, c_no, c_so, kTup, kLst, kOp2, kOp1, kCmp2, kCmp1, kIsN, kNotN, kAnd, kOr, kTru, kNot, kM0, kM1b, kM1, kG1b, kG1, kG2c, kG2b, kG2, kIx2, kIx1, kSl3, kSl2, kSl1, kL2, kL1, kEx, kSet, kP2b, kP2, kP3c, kP3b, kP3, kSi3, kSi2, kSi1, kAu3, kAu2, kAx5, kAx4, kAx3, kAx2, kAx1, kRet, evOp, evCmp, evAug, hb, hsub, kR3a, kR3b, hr3, kFor, d1]
  have hRout : ∀ v k, N.sp.length ≤ k → RR N.U (N.near a n x) v k = 0 := fun v k h => RR_out v k (by rw [U_len]; exact h)
  rw [e_lc, i_of]
  have hwk : walkD (.ref (st.length + 1 + N.nodes.length)) s' = some ((List.range N.nodes.length).map (fun v => D.ref (st.length + 1 + v)), .at_ (st.length + 1 + N.nodes.length) (.lst (refsD st.length N.nodes.length))) := by
    simp only [walkD, r0]
    rfl
  simp only [e_v, List.getElem?_cons_succ, List.getElem?_cons_zero, kV_ok, Out.bind_ok, kWalk, hwk, kWalk2_s]
  rw [lc_map (chk := .at_ (st.length + 1 + N.nodes.length) (.lst (refsD st.length N.nodes.length))) (List.range N.nodes.length) _ (fun v => .tup (rowD (RR N.U (N.near a n x) v) N.sp.length)) (by simp; omega) (decide_eq_true r0) (by
    intro v hv
    obtain ⟨kvs, q1, q2⟩ := R'.at_ v (List.mem_range.mp hv)
    exact ⟨_, rfl, c_no _ _, sorted_row w' rfl q1 q2 (hRout v) (by omega)⟩)]
  have hw : ((List.range N.nodes.length).map fun v => D.tup (rowD (RR N.U (N.near a n x) v) N.sp.length)).length ≤ 16777216 := by simp; omega
  have hcl : closeds s'.length ((List.range N.nodes.length).map fun v => D.tup (rowD (RR N.U (N.near a n x) v) N.sp.length)) = true := closed_ways s'.length N (N.near a n x)
  have hg3 : gc s'.length (.tup ((List.range N.nodes.length).map fun v => D.tup (rowD (RR N.U (N.near a n x) v) N.sp.length))) (s' ++ [.lst ((List.range N.nodes.length).map fun v => D.tup (rowD (RR N.U (N.near a n x) v) N.sp.length))]) = .ok (.tup ((List.range N.nodes.length).map fun v => D.tup (rowD (RR N.U (N.near a n x) v) N.sp.length))) s' := gc_old w' hcl
  have hbt : biTuple (.ref s'.length) (s' ++ [.lst ((List.range N.nodes.length).map fun v => D.tup (rowD (RR N.U (N.near a n x) v) N.sp.length))]) = .ok (.tup ((List.range N.nodes.length).map fun v => D.tup (rowD (RR N.U (N.near a n x) v) N.sp.length))) (s' ++ [.lst ((List.range N.nodes.length).map fun v => D.tup (rowD (RR N.U (N.near a n x) v) N.sp.length))]) := by
    simp only [biTuple, itemsD, app_at]
    rw [if_pos hw]
  simp only [Out.bind_ok, kBi, evBi, evBi0, hbt, hg3, noexc_ok, Out.sb_ok, kRet, seq_rt, fin_rt]
  exact p'.gcO w (closed_ways _ _ _)
end
end Lw
end

section
set_option Elab.async false
set_option linter.all false
set_option maxRecDepth 100000
set_option autoImplicit false
set_option maxHeartbeats 1000000
/-! M6: what is asked, what fits, the doubles -/
namespace Lw
open PySem L2 Ev
def vecD (V : Nat) (f : Nat → Nat) : List D := (List.range V).map fun v => natD (f v)
theorem vec_len (V : Nat) (f : Nat → Nat) : (vecD V f).length = V := by simp [vecD]
theorem vec_at {V v : Nat} {f : Nat → Nat} (h : v < V) : (vecD V f)[v]? = some (natD (f v)) := by simp [vecD, h]
theorem vec_set {V v c : Nat} {f g : Nat → Nat} (hv : g v = c) (hg : ∀ u, u ≠ v → g u = f u) : (vecD V f).set v (natD c) = vecD V g := by
  apply List.ext_getElem?
  intro i
  by_cases e : v = i
  · subst e
    by_cases h : v < V
    · rw [List.getElem?_set_self (by rw [vec_len]; exact h), vec_at h, hv]
    · rw [List.getElem?_eq_none (by simp [vec_len]; omega), List.getElem?_eq_none (by simp [vec_len]; omega)]
  · rw [List.getElem?_set_ne e]
    by_cases h : i < V
    · rw [vec_at h, vec_at h, hg i (fun z => e z.symm)]
    · rw [List.getElem?_eq_none (by simp [vec_len]; omega), List.getElem?_eq_none (by simp [vec_len]; omega)]
theorem closed_vec (k V : Nat) (f : Nat → Nat) : closeds k (vecD V f) = true := by
  unfold vecD
  induction List.range V with
  | nil => rfl
  | cons a l ih => simp [closeds, Ev.closed, natD] at ih ⊢; exact ih
section
variable {st : Sto}
theorem set_self {s : Sto} {r : Nat} {o : MO} (h : s[r]? = some o) : s.set r o = s := by
  apply List.ext_getElem?
  intro i
  by_cases e : r = i
  · subst e
    rw [List.getElem?_set_self (lt_of_at h), h]
  · rw [List.getElem?_set_ne e]
theorem kit_ii : kitB "int" "int" = some true := by decide +kernel
theorem kit_ib : kitB "int" "bool" = some false := by decide +kernel
theorem kit_tt : kitB "tuple" "tuple" = some true := by decide +kernel
theorem kit_nt : kitB "NoneType" "tuple" = some false := by decide +kernel
theorem kit_lt : kitB "list" "tuple" = some false := by decide +kernel
theorem is_int_ok (i : Int) (w : Wf st) : f_is_integer [.int i] st = .ok (.bl true) st := by
  unfold f_is_integer c_is_integer
  rw [evF_fin]
  have g : ∀ b : Bool, gc st.length (.bl b) st = .ok (.bl b) st := fun b => gc_old0 w rfl
  simp [sl_cons, sl_nil, q_ex, q_set, q_p2, q_p3, q_si, q_au, q_ax, q_if, q_for, q_ret, q_retN, q_pass, q_raise, e_v, e_k, e_tup, e_lst, e_dct, e_op, e_cmp, e_isN, e_notN, e_and, e_or, e_not, e_ifx, e_call, e_bi, e_m0, e_m1, e_g1, e_g2, e_ix, e_sl, l_nil, l_cons, o_no, o_so, t_t, c_no, c_so, kTup, kLst, kOp2, kOp1, kCmp2, kCmp1, kIsN, kNotN, kAnd, kOr, kTru, kNot, kM0, kM1b, kM1, kG1b, kG1, kG2c, kG2b, kG2, kIx2, kIx1, kSl3, kSl2, kSl1, kL2, kL1, kEx, kSet, kP2b, kP2, kP3c, kP3b, kP3, kSi3, kSi2, kSi1, kAu3, kAu2, kAx5, kAx4, kAx3, kAx2, kAx1, kRet, evOp, evCmp, evAug, kBi, evBi, evBi0, biIs, tyN, kit_ii, kit_ib, truD, g]
theorem count_ok (i : Int) (w : Wf st) : f_is_count [.int i] st = .ok (.bl (decide (0 ≤ i))) st := by
  unfold f_is_count c_is_count
  rw [evF_fin]
  have g : ∀ b : Bool, gc st.length (.bl b) st = .ok (.bl b) st := fun b => gc_old0 w rfl
  simp [sl_cons, sl_nil, q_ex, q_set, q_p2, q_p3, q_si, q_au, q_ax, q_if, q_for, q_ret, q_retN, q_pass, q_raise, e_v, e_k, e_tup, e_lst, e_dct, e_op, e_cmp, e_isN, e_notN, e_and, e_or, e_not, e_ifx, e_call, e_bi, e_m0, e_m1, e_g1, e_g2, e_ix, e_sl, l_nil, l_cons, o_no, o_so, t_t, c_no, c_so, kTup, kLst, kOp2, kOp1, kCmp2, kCmp1, kIsN, kNotN, kAnd, kOr, kTru, kNot, kM0, kM1b, kM1, kG1b, kG1, kG2c, kG2b, kG2, kIx2, kIx1, kSl3, kSl2, kSl1, kL2, kL1, kEx, kSet, kP2b, kP2, kP3c, kP3b, kP3, kSi3, kSi2, kSi1, kAu3, kAu2, kAx5, kAx4, kAx3, kAx2, kAx1, kRet, evOp, evCmp, evAug, kCall, Tab, is_int_ok i w, truD, evGe, g]
/-- all([is_count(one) for one in needles]) -/
theorem counts_ok (is : List Int) (w : Wf st) (hl : is.length ≤ 1000) (env : En) (he : env[2]? = some (some (.tup (is.map D.int)))) (hw : wipeE env [9] = env.set 9 none) (h9 : 9 < env.length) :
    evE T_asked_of (.bi .all (.lc (.call 14 (.cons (.v 9) (.nil))) (.n 9) (.of (.v 2)) (.no) [9])) env st = .ok (.bl (is.all fun i => decide (0 ≤ i))) st := by
  have a1 := lc_map (F := T_asked_of) (elt := .call 14 (.cons (.v 9) (.nil))) (G := .n 9) (c := .no) (own := [9]) (env := env) (chk := .free) (st := st) is D.int (fun i => .bl (decide (0 ≤ i))) hl rfl (by
    intro i hi
    refine ⟨_, rfl, c_no _ _, ?_⟩
    rw [hw]
    simp [sl_cons, sl_nil, q_ex, q_set, q_p2, q_p3, q_si, q_au, q_ax, q_if, q_for, q_ret, q_retN, q_pass, q_raise, e_v, e_k, e_tup, e_lst, e_dct, e_op, e_cmp, e_isN, e_notN, e_and, e_or, e_not, e_ifx, e_call, e_bi, e_m0, e_m1, e_g1, e_g2, e_ix, e_sl, l_nil, l_cons, o_no, o_so, t_t, c_no, c_so, kTup, kLst, kOp2, kOp1, kCmp2, kCmp1, kIsN, kNotN, kAnd, kOr, kTru, kNot, kM0, kM1b, kM1, kG1b, kG1, kG2c, kG2b, kG2, kIx2, kIx1, kSl3, kSl2, kSl1, kL2, kL1, kEx, kSet, kP2b, kP2, kP3c, kP3b, kP3, kSi3, kSi2, kSi1, kAu3, kAu2, kAx5, kAx4, kAx3, kAx2, kAx1, kRet, evOp, evCmp, evAug, h9, kCall, Tab, count_ok i w])
  have b1 : ∀ is : List Int, blsD (is.map fun i => D.bl (decide (0 ≤ i))) = some (is.map fun i => decide (0 ≤ i)) := fun is => by
    induction is with
    | nil => rfl
    | cons a l ih => simp [blsD, ih]
  have g : gc st.length (.bl (is.all fun i => decide (0 ≤ i))) (st ++ [.lst (is.map fun i => D.bl (decide (0 ≤ i)))]) = .ok (.bl (is.all fun i => decide (0 ≤ i))) st := gc_old w rfl
  simp [sl_cons, sl_nil, q_ex, q_set, q_p2, q_p3, q_si, q_au, q_ax, q_if, q_for, q_ret, q_retN, q_pass, q_raise, e_v, e_k, e_tup, e_lst, e_dct, e_op, e_cmp, e_isN, e_notN, e_and, e_or, e_not, e_ifx, e_call, e_bi, e_m0, e_m1, e_g1, e_g2, e_ix, e_sl, l_nil, l_cons, o_no, o_so, t_t, c_no, c_so, kTup, kLst, kOp2, kOp1, kCmp2, kCmp1, kIsN, kNotN, kAnd, kOr, kTru, kNot, kM0, kM1b, kM1, kG1b, kG1, kG2c, kG2b, kG2, kIx2, kIx1, kSl3, kSl2, kSl1, kL2, kL1, kEx, kSet, kP2b, kP2, kP3c, kP3b, kP3, kSi3, kSi2, kSi1, kAu3, kAu2, kAx5, kAx4, kAx3, kAx2, kAx1, kRet, evOp, evCmp, evAug, he, i_of, e_lc, kWalk, walkD, a1, kBi, evBi, evBi0, biAll, b1, List.all_map, Function.comp_def, g]

theorem int_nat (n : Nat → Nat) (L i : Nat) (h : i < L) : evIx (.tup ((List.range L).map fun k => D.int (n k : Nat))) (natD i) st = .ok (natD (n i)) st := by simp [evIx, itemsD, natD, h]
/-- one number of what is asked -/
theorem asked_inner {s : Sto} {r V mine : Nat} {us : List Nat} {A : Nat → Nat} {a0 a1 a2 a3 a5 x7 : Option D} (hr : s[r]? = some (.lst (vecD V A))) (hus : ∀ v ∈ us, v < V) :
    ∃ x7', forF T_asked_of (.n 7) (.cons (.augIx (.v 4) (.v 7) .add (.v 6)) .nil) .free (us.map natD) [a0, a1, a2, a3, some (.ref r), a5, some (natD mine), x7, none, none] s = .nx [a0, a1, a2, a3, some (.ref r), a5, some (natD mine), x7', none, none] (s.set r (.lst (vecD V fun v => A v + us.count v * mine))) := by
  let ft : Nat → Nat → Nat := fun t v => A v + (us.take t).count v * mine
  have hrl := lt_of_at hr
  obtain ⟨env', s', e1, x7', rfl, rfl⟩ := forL_inv (bind := bindG (.n 7)) (body := fun env st => evSL T_asked_of (.cons (.augIx (.v 4) (.v 7) .add (.v 6)) .nil) env st) (chk := Chk.free.ok)
    (fun t env s1 => ∃ x, env = [a0, a1, a2, a3, some (.ref r), a5, some (natD mine), x, none, none] ∧ s1 = s.set r (.lst (vecD V (ft t)))) (xs := us.map natD) (fun _ _ _ _ => rfl)
    (fun t env s1 y h hy => by
      obtain ⟨x, rfl, rfl⟩ := h
      rw [List.getElem?_map] at hy
      cases hv : us[t]? with
      | none => rw [hv] at hy; cases hy
      | some v =>
        rw [hv] at hy
        cases hy
        have hvV := hus v (List.mem_of_getElem? hv)
        have tk : us.take (t + 1) = us.take t ++ [v] := by
          rw [List.take_succ, hv]
          rfl
        have h1 : (s.set r (.lst (vecD V (ft t))))[r]? = some (.lst (vecD V (ft t))) := List.getElem?_set_self hrl
        have hix : evIx (.ref r) (natD v) (s.set r (.lst (vecD V (ft t)))) = .ok (natD (ft t v)) (s.set r (.lst (vecD V (ft t)))) := by simp [evIx, itemsD, h1, natD, vec_at hvV]
        have hxn : ixN (vecD V (ft t)).length (v : Int) = some v := by
          unfold ixN
          rw [vec_len, if_pos (by omega), if_pos (by omega)]
          rfl
        have hset : evSetIx (.ref r) (natD v) (natD (ft t v + mine)) (s.set r (.lst (vecD V (ft t)))) = some (s.set r (.lst (vecD V (ft (t + 1))))) := by
          simp only [evSetIx, h1, natD, hxn]
          rw [List.set_set]
          congr 3
          refine vec_set (f := ft t) ?_ fun u hu => ?_
          · simp only [ft, tk, List.count_append, List.count_singleton_self, Nat.add_mul]
            try omega
          · have : ¬ v = u := fun e => hu e.symm
            simp [ft, tk, List.count_append, List.count_singleton, this]
        have hau : evAug .add (natD (ft t v)) (natD mine) (s.set r (.lst (vecD V (ft t)))) = .ok (natD (ft t v + mine)) (s.set r (.lst (vecD V (ft t)))) := by simp [evAug, natD]
        refine ⟨[a0, a1, a2, a3, some (.ref r), a5, some (natD mine), some (natD v), none, none], _, _, rfl, .inl ?_, some (natD v), rfl, rfl⟩
        simp only [sl_cons, q_ax, e_v, List.getElem?_cons_succ, List.getElem?_cons_zero, kV_ok, Out.sb_ok, kAx1, kAx2, kAx3, kAx4, kAx5, hix, noexc_ok, hau, hset, kSx_s, seq_nx, sl_nil])
    ⟨x7, rfl, by
      have : ft 0 = A := by funext v; simp [ft]
      rw [this]⟩
  refine ⟨x7', ?_⟩
  have : (fun v => A v + us.count v * mine) = ft (us.map natD).length := by
    funext v
    simp [ft]
  rw [this]
  rw [show s.set r (.lst (vecD V A)) = s from set_self hr] at e1
  exact e1

/-- what is asked, reckoned -/
theorem asked_loop {N : Net} {a n x : Bool} {g : Nat} {nd : Nat → Nat} {needles : D} (w : Wf st) (hg : st[g]? = some (grO a n x)) (hN : N.nodes.length ≤ 20) (hT : N.told.length ≤ 20) (G : Good N.U (N.near a n x) N.nodes.length) (hlow : ∀ i v, v ∈ N.U.getD i [] → v < N.nodes.length)
    (hn : needles = .tup ((List.range N.sp.length).map fun k => D.int (nd k : Nat))) :
    ∃ x5 x6 x7, forF T_asked_of (.n 5) (.cons (.set (.n 6) (.op .add (.ix (.v 2) (.v 5)) (.ifx (.call 12 (.cons (.v 0) (.cons (.v 5) (.cons (.v 1) (.nil))))) (.ix (.v 4) (.v 5)) (.k (.int 0))))) (.cons (.forI (.n 7) (.of (.ix (.ix (.v 3) (.v 5)) (.k (.int 1)))) (.cons (.augIx (.v 4) (.v 7) .add (.v 6)) (.nil))) (.nil)))
        .free (rangeL ((N.sp.length : Int) - 1) (-1) N.sp.length) [some N.d, some (.ref g), some needles, some (.ref st.length), some (.ref (st.length + 1)), none, none, none, none, none] (st ++ [.lst (N.sp.map spotD), .lst (vecD N.nodes.length fun _ => 0)]) =
      .nx [some N.d, some (.ref g), some needles, some (.ref st.length), some (.ref (st.length + 1)), x5, x6, x7, none, none] (st ++ [.lst (N.sp.map spotD), .lst (vecD N.nodes.length fun v => wsum N.U nd (RR N.U (N.near a n x) v))]) := by
  have hUl := U_len N
  have hsp := sp_len N
  let A : Nat → Nat → Nat := fun j v => wsum N.U nd (DP N.U (N.near a n x) j v)
  have z : A 0 = fun _ => 0 := by
    funext v
    exact sumTo_zero _ fun k _ => Nat.zero_mul _
  obtain ⟨env', s', e1, x5, x6, x7, rfl, rfl⟩ := forL_inv (bind := bindG (.n 5)) (body := fun env st => evSL T_asked_of (.cons (.set (.n 6) (.op .add (.ix (.v 2) (.v 5)) (.ifx (.call 12 (.cons (.v 0) (.cons (.v 5) (.cons (.v 1) (.nil))))) (.ix (.v 4) (.v 5)) (.k (.int 0))))) (.cons (.forI (.n 7) (.of (.ix (.ix (.v 3) (.v 5)) (.k (.int 1)))) (.cons (.augIx (.v 4) (.v 7) .add (.v 6)) (.nil))) (.nil))) env st) (chk := Chk.free.ok)
    (fun j env s1 => ∃ x5 x6 x7, env = [some N.d, some (.ref g), some needles, some (.ref st.length), some (.ref (st.length + 1)), x5, x6, x7, none, none] ∧ s1 = st ++ [.lst (N.sp.map spotD), .lst (vecD N.nodes.length (A j))])
    (xs := rangeL ((N.sp.length : Int) - 1) (-1) N.sp.length) (fun _ _ _ _ => rfl)
    (fun j env s1 y h hy => by
      obtain ⟨x5, x6, x7, rfl, rfl⟩ := h
      obtain ⟨hj, rfl⟩ := rangeL_down hy
      have hiL : N.sp.length - 1 - j < N.sp.length := by omega
      obtain ⟨q, hq⟩ : ∃ q, N.sp[N.sp.length - 1 - j]? = some q := ⟨_, List.getElem?_eq_getElem hiL⟩
      have hU := U_at N _ q hq
      have w1 : Wf (st ++ [.lst (N.sp.map spotD), .lst (vecD N.nodes.length (A j))]) := w.app (by simp [closedO, closed_spots, closed_vec])
      have hgs : (st ++ [.lst (N.sp.map spotD), .lst (vecD N.nodes.length (A j))])[g]? = some (grO a n x) := app_low hg
      have hnear := near_ok N a n x g (N.sp.length - 1 - j) w1 hgs
      have hus : ∀ v ∈ q.2, v < N.nodes.length := fun v hv => hlow (N.sp.length - 1 - j) v (by rw [hU]; exact hv)
      have h1 : (st ++ [.lst (N.sp.map spotD), .lst (vecD N.nodes.length (A j))])[st.length + 1]? = some (.lst (vecD N.nodes.length (A j))) := app_at1 _ _ _ _
      have hnd := int_nat (st := st ++ [.lst (N.sp.map spotD), .lst (vecD N.nodes.length (A j))]) nd N.sp.length _ hiL
      have hsp0 := spot_at (s := st ++ [.lst (N.sp.map spotD), .lst (vecD N.nodes.length (A j))]) (n0 := st.length) (N := N) (app_at _ _ _) hq
      obtain ⟨x7', c1⟩ := asked_inner (mine := nd (N.sp.length - 1 - j) + (if N.near a n x (N.sp.length - 1 - j) then A j (N.sp.length - 1 - j) else 0)) (a0 := some N.d) (a1 := some (.ref g)) (a2 := some needles) (a3 := some (.ref st.length)) (a5 := some (natD (N.sp.length - 1 - j))) (x7 := x7) h1 hus
      refine ⟨[some N.d, some (.ref g), some needles, some (.ref st.length), some (.ref (st.length + 1)), some (natD (N.sp.length - 1 - j)), x6, x7, none, none], _, _, rfl, .inl ?_, some (natD (N.sp.length - 1 - j)), some (natD (nd (N.sp.length - 1 - j) + (if N.near a n x (N.sp.length - 1 - j) then A j (N.sp.length - 1 - j) else 0))), x7', rfl, rfl⟩
      have hfin : (st ++ [MO.lst (N.sp.map spotD), .lst (vecD N.nodes.length (A j))]).set (st.length + 1) (.lst (vecD N.nodes.length fun v => A j v + q.2.count v * (nd (N.sp.length - 1 - j) + (if N.near a n x (N.sp.length - 1 - j) then A j (N.sp.length - 1 - j) else 0)))) = st ++ [.lst (N.sp.map spotD), .lst (vecD N.nodes.length (A (j + 1)))] := by
        rw [app_set1]
        have : (fun v => A j v + q.2.count v * (nd (N.sp.length - 1 - j) + (if N.near a n x (N.sp.length - 1 - j) then A j (N.sp.length - 1 - j) else 0))) = A (j + 1) := by
          funext v
          simp only [A]
          show _ = wsum N.U nd (stepR (N.U.getD (N.U.length - 1 - j) []) _ _ (DP N.U (N.near a n x) j) v)
          rw [wsum_step _ _ _ _ _ _ (by omega), hUl, hU]
        rw [this]
      rw [hfin] at c1
      cases e : N.near a n x (N.sp.length - 1 - j) with
      | true =>
        have hiV := G.nrV _ e
        rw [e] at hnear c1
        have hix : evIx (.ref (st.length + 1)) (natD (N.sp.length - 1 - j)) (st ++ [.lst (N.sp.map spotD), .lst (vecD N.nodes.length (A j))]) = .ok (natD (A j (N.sp.length - 1 - j))) (st ++ [.lst (N.sp.map spotD), .lst (vecD N.nodes.length (A j))]) := by
          simp [evIx, itemsD, natD, vec_at hiV]
        simp only [if_true] at c1
        simp [sl_cons, sl_nil, q_ex, q_set, q_p2, q_p3, q_si, q_au, q_ax, q_if, q_for, q_ret, q_retN, q_pass, q_raise, e_v, e_k, e_tup, e_lst, e_dct, e_op, e_cmp, e_isN, e_notN, e_and, e_or, e_not, e_ifx, e_call, e_bi, e_m0, e_m1, e_g1, e_g2, e_ix, e_sl, l_nil, l_cons, o_no, o_so, t_t, c_no, c_so, kTup, kLst, kOp2, kOp1, kCmp2, kCmp1, kIsN, kNotN, kAnd, kOr, kTru, kNot, kM0, kM1b, kM1, kG1b, kG1, kG2c, kG2b, kG2, kIx2, kIx1, kSl3, kSl2, kSl1, kL2, kL1, kEx, kSet, kP2b, kP2, kP3c, kP3b, kP3, kSi3, kSi2, kSi1, kAu3, kAu2, kAx5, kAx4, kAx3, kAx2, kAx1, kRet, evOp, evCmp, evAug, bindG, hn, hnd, kCall, Tab, hnear, truD, hix, add_nat, i_of, kFor, hsp0, spot1, kWalk, walkD, natsD]
        rw [hn] at c1
        rw [c1]
        simp [sl_nil]
      | false =>
        rw [e] at hnear c1
        simp only [if_false, Bool.false_eq_true, Nat.add_zero] at c1
        have hz : evAdd (natD (nd (N.sp.length - 1 - j))) (.int 0) (st ++ [.lst (N.sp.map spotD), .lst (vecD N.nodes.length (A j))]) = .ok (natD (nd (N.sp.length - 1 - j))) (st ++ [.lst (N.sp.map spotD), .lst (vecD N.nodes.length (A j))]) := by simp [evAdd, natD]
        simp [sl_cons, sl_nil, q_ex, q_set, q_p2, q_p3, q_si, q_au, q_ax, q_if, q_for, q_ret, q_retN, q_pass, q_raise, e_v, e_k, e_tup, e_lst, e_dct, e_op, e_cmp, e_isN, e_notN, e_and, e_or, e_not, e_ifx, e_call, e_bi, e_m0, e_m1, e_g1, e_g2, e_ix, e_sl, l_nil, l_cons, o_no, o_so, t_t, c_no, c_so, kTup, kLst, kOp2, kOp1, kCmp2, kCmp1, kIsN, kNotN, kAnd, kOr, kTru, kNot, kM0, kM1b, kM1, kG1b, kG1, kG2c, kG2b, kG2, kIx2, kIx1, kSl3, kSl2, kSl1, kL2, kL1, kEx, kSet, kP2b, kP2, kP3c, kP3b, kP3, kSi3, kSi2, kSi1, kAu3, kAu2, kAx5, kAx4, kAx3, kAx2, kAx1, kRet, evOp, evCmp, evAug, bindG, hn, hnd, kCall, Tab, hnear, truD, hz, i_of, kFor, hsp0, spot1, kWalk, walkD, natsD]
        rw [hn] at c1
        rw [c1]
        simp [sl_nil])
    (st := st ++ [.lst (N.sp.map spotD), .lst (vecD N.nodes.length fun _ => 0)]) ⟨none, none, none, rfl, by rw [z]⟩
  refine ⟨x5, x6, x7, ?_⟩
  rw [rangeL_length] at e1
  have : (fun v => wsum N.U nd (RR N.U (N.near a n x) v)) = A N.sp.length := by
    funext v
    simp only [A, RR]
    rw [hUl]
  rw [this]
  exact e1
end
end Lw
end

section
set_option Elab.async false
set_option linter.all false
set_option maxRecDepth 100000
set_option autoImplicit false
set_option maxHeartbeats 1000000
/-! M7: asked_of, do_fit, first_double, are_single -/
namespace Lw
open PySem L2 Ev
section
variable {st : Sto}
theorem Pre.finX {s : Sto} {c : Nat} {env : En} (p : Pre st s) (w : Wf st) : fin st.length (.exc c env s) = .exc c st := by
  unfold fin
  dsimp only
  rw [p.take, if_pos (show st.all (closedO st.length) = true from w)]
def askD (N : Net) (nr : Nat → Bool) (nd : Nat → Nat) : D := .tup (vecD N.nodes.length fun v => wsum N.U nd (RR N.U nr v))
theorem closed_ask (k : Nat) (N : Net) (nr : Nat → Bool) (nd : Nat → Nat) : Ev.closed k (askD N nr nd) = true := closed_vec _ _ _
def needD (L : Nat) (nd : Nat → Nat) : D := .tup ((List.range L).map fun k => D.int (nd k : Nat))
theorem asked_ok {N : Net} {a n x : Bool} {g : Nat} {nd : Nat → Nat} (w : Wf st) (hg : st[g]? = some (grO a n x)) (hN : N.nodes.length ≤ 20) (hT : N.told.length ≤ 20) (G : Good N.U (N.near a n x) N.nodes.length) (hlow : ∀ i v, v ∈ N.U.getD i [] → v < N.nodes.length) :
    f_asked_of [N.d, .ref g, needD N.sp.length nd] st = .ok (askD N (N.near a n x) nd) st := by
  have hsp := sp_len N
  have hs := spots_ok N w (by omega) (by omega)
  have w1 : Wf (st ++ [.lst (N.sp.map spotD)]) := w.app (by simp [closedO, closed_spots])
  obtain ⟨x5, x6, x7, c1⟩ := asked_loop (nd := nd) w hg hN hT G hlow rfl
  unfold f_asked_of c_asked_of
  rw [evF_fin]
  have hb : ∀ b : Bool, gc (st ++ [MO.lst (N.sp.map spotD)]).length (.bl b) (st ++ [.lst (N.sp.map spotD)]) = .ok (.bl b) (st ++ [.lst (N.sp.map spotD)]) := fun b => gc_old0 w1 rfl
  have hi : ∀ b : Int, gc (st ++ [MO.lst (N.sp.map spotD)]).length (.int b) (st ++ [.lst (N.sp.map spotD)]) = .ok (.int b) (st ++ [.lst (N.sp.map spotD)]) := fun b => gc_old0 w1 rfl
  have k1 : kBi (.isI "tuple") (st ++ [MO.lst (N.sp.map spotD)]).length (needD N.sp.length nd) (st ++ [.lst (N.sp.map spotD)]) = .ok (.bl true) (st ++ [.lst (N.sp.map spotD)]) := by simp only [kBi, evBi, evBi0, biIs, needD, tyN, kit_tt, Out.bind_ok, hb, noexc_ok]
  have k2 : kBi .len (st ++ [MO.lst (N.sp.map spotD)]).length (needD N.sp.length nd) (st ++ [.lst (N.sp.map spotD)]) = .ok (.int N.sp.length) (st ++ [.lst (N.sp.map spotD)]) := bi_len 0 _ _ w1 (by simp [biLen, needD])
  have k3 : kBi .len (st ++ [MO.lst (N.sp.map spotD)]).length (.ref st.length) (st ++ [.lst (N.sp.map spotD)]) = .ok (.int N.sp.length) (st ++ [.lst (N.sp.map spotD)]) := bi_len 0 _ _ w1 (by simp [biLen])
  have k4 := counts_ok (st := st ++ [.lst (N.sp.map spotD)]) ((List.range N.sp.length).map fun k => (nd k : Int)) w1 (by simp; omega) [some N.d, some (.ref g), some (needD N.sp.length nd), some (.ref st.length), none, none, none, none, none, none] (by simp [needD, Function.comp_def]) rfl (by simp)
  have k5 : (((List.range N.sp.length).map fun k => (nd k : Int)).all fun i => decide (0 ≤ i)) = true := by simp
  rw [k5] at k4
  have k6 : evNe (.int N.sp.length) (.int N.sp.length) (st ++ [.lst (N.sp.map spotD)]) = .ok (.bl false) (st ++ [.lst (N.sp.map spotD)]) := by simp [evNe, eqD]
  simp only [List.length_append, List.length_cons, List.length_nil, Nat.zero_add] at k1 k2 k3
  simp [sl_cons, sl_nil, q_ex, q_set, q_p2, q_p3, q_si, q_au, q_ax, q_if, q_for, q_ret, q_retN, q_pass, q_raise, e_v, e_k, e_tup, e_lst, e_dct, e_op, e_cmp, e_isN, e_notN, e_and, e_or, e_not, e_ifx, e_call, e_bi, e_m0, e_m1, e_g1, e_g2, e_ix, e_sl, l_nil, l_cons, o_no, o_so, t_t, c_no, c_so, kTup, kLst, kOp2, kOp1, kCmp2, kCmp1, kIsN, kNotN, kAnd, kOr, kTru, kNot, kM0, kM1b, kM1, kG1b, kG1, kG2c, kG2b, kG2, kIx2, kIx1, kSl3, kSl2, kSl1, kL2, kL1, kEx, kSet, kP2b, kP2, kP3c, kP3b, kP3, kSi3, kSi2, kSi1, kAu3, kAu2, kAx5, kAx4, kAx3, kAx2, kAx1, kRet, evOp, evCmp, evAug, bindG, bindGs, kCall, Tab, hs, k1, k2, k3, k6, ↓k4, truD]
  simp [sl_cons, sl_nil, q_ex, q_set, q_p2, q_p3, q_si, q_au, q_ax, q_if, q_for, q_ret, q_retN, q_pass, q_raise, e_v, e_k, e_tup, e_lst, e_dct, e_op, e_cmp, e_isN, e_notN, e_and, e_or, e_not, e_ifx, e_call, e_bi, e_m0, e_m1, e_g1, e_g2, e_ix, e_sl, l_nil, l_cons, o_no, o_so, t_t, c_no, c_so, kTup, kLst, kOp2, kOp1, kCmp2, kCmp1, kIsN, kNotN, kAnd, kOr, kTru, kNot, kM0, kM1b, kM1, kG1b, kG1, kG2c, kG2b, kG2, kIx2, kIx1, kSl3, kSl2, kSl1, kL2, kL1, kEx, kSet, kP2b, kP2, kP3c, kP3b, kP3, kSi3, kSi2, kSi1, kAu3, kAu2, kAx5, kAx4, kAx3, kAx2, kAx1, kRet, evOp, evCmp, evAug, bindG, bindGs, e_lc, i_of, net3, kWalk, walkD]
  rw [lc_map (chk := .free) N.nodes Nd.d (fun _ => .int 0) (by omega) rfl (by
    intro m hm
    exact ⟨_, rfl, c_no _ _, e_k _ _ _⟩)]
  have e0 : N.nodes.map (fun _ => D.int 0) = vecD N.nodes.length fun _ => 0 := by
    apply List.ext_getElem?
    intro i
    by_cases h : i < N.nodes.length
    · rw [vec_at h, List.getElem?_map, List.getElem?_eq_getElem h]
      rfl
    · rw [List.getElem?_eq_none (by simp; omega), List.getElem?_eq_none (by simp [vec_len]; omega)]
  rw [e0]
  have w2 : Wf (st ++ [.lst (N.sp.map spotD), .lst (vecD N.nodes.length fun _ => 0)]) := w.app (by simp [closedO, closed_spots, closed_vec])
  have k7 : kBi .len (st.length + 2) (.ref st.length) (st ++ [.lst (N.sp.map spotD), .lst (vecD N.nodes.length fun _ => 0)]) = .ok (.int N.sp.length) (st ++ [.lst (N.sp.map spotD), .lst (vecD N.nodes.length fun _ => 0)]) := by
    have := bi_len 0 (.ref st.length) N.sp.length w2 (by simp [biLen])
    simpa using this
  have hsub : evSub (.int N.sp.length) (.int 1) (st ++ [.lst (N.sp.map spotD), .lst (vecD N.nodes.length fun _ => 0)]) = .ok (.int ((N.sp.length : Int) - 1)) (st ++ [.lst (N.sp.map spotD), .lst (vecD N.nodes.length fun _ => 0)]) := rfl
  have hr3 := kR3c_n N.sp.length (st ++ [.lst (N.sp.map spotD), .lst (vecD N.nodes.length fun _ => 0)]) (by omega)
  simp [sl_cons, sl_nil, q_ex, q_set, q_p2, q_p3, q_si, q_au, q_ax, q_if, q_for, q_ret, q_retN, q_pass, q_raise, e_v, e_k, e_tup, e_lst, e_dct, e_op, e_cmp, e_isN, e_notN, e_and, e_or, e_not, e_ifx, e_call, e_bi, e_m0, e_m1, e_g1, e_g2, e_ix, e_sl, l_nil, l_cons, o_no, o_so, t_t, c_no, c_so, kTup, kLst, kOp2, kOp1, kCmp2, kCmp1, kIsN, kNotN, kAnd, kOr, kTru, kNot, kM0, kM1b, kM1, kG1b, kG1, kG2c, kG2b, kG2, kIx2, kIx1, kSl3, kSl2, kSl1, kL2, kL1, kEx, kSet, kP2b, kP2, kP3c, kP3b, kP3, kSi3, kSi2, kSi1, kAu3, kAu2, kAx5, kAx4, kAx3, kAx2, kAx1, kRet, evOp, evCmp, evAug, bindG, bindGs, i_r3, k7, hsub, kR3a, kR3b, hr3, kFor]
  rw [show needD N.sp.length nd = .tup ((List.range N.sp.length).map fun k => D.int (nd k : Nat)) from rfl, c1]
  have w3 : Wf (st ++ [.lst (N.sp.map spotD), .lst (vecD N.nodes.length fun v => wsum N.U nd (RR N.U (N.near a n x) v))]) := w.app (by simp [closedO, closed_spots, closed_vec])
  have hbt : kBi .tuple (st.length + 2) (.ref (st.length + 1)) (st ++ [.lst (N.sp.map spotD), .lst (vecD N.nodes.length fun v => wsum N.U nd (RR N.U (N.near a n x) v))]) = .ok (askD N (N.near a n x) nd) (st ++ [.lst (N.sp.map spotD), .lst (vecD N.nodes.length fun v => wsum N.U nd (RR N.U (N.near a n x) v))]) := by
    have hl : (vecD N.nodes.length fun v => wsum N.U nd (RR N.U (N.near a n x) v)).length ≤ SZ := by rw [vec_len]; simp [SZ]; omega
    have := gc_old0 w3 (closed_ask (st ++ [MO.lst (N.sp.map spotD), .lst (vecD N.nodes.length fun v => wsum N.U nd (RR N.U (N.near a n x) v))]).length N (N.near a n x) nd)
    simp at this
    simp only [kBi, evBi, evBi0, biTuple, itemsD, app_at1]
    rw [if_pos hl]
    simp only [Out.bind_ok]
    rw [show D.tup (vecD N.nodes.length fun v => wsum N.U nd (RR N.U (N.near a n x) v)) = askD N (N.near a n x) nd from rfl, this]
    rfl
  simp [sl_cons, sl_nil, q_ex, q_set, q_p2, q_p3, q_si, q_au, q_ax, q_if, q_for, q_ret, q_retN, q_pass, q_raise, e_v, e_k, e_tup, e_lst, e_dct, e_op, e_cmp, e_isN, e_notN, e_and, e_or, e_not, e_ifx, e_call, e_bi, e_m0, e_m1, e_g1, e_g2, e_ix, e_sl, l_nil, l_cons, o_no, o_so, t_t, c_no, c_so, kTup, kLst, kOp2, kOp1, kCmp2, kCmp1, kIsN, kNotN, kAnd, kOr, kTru, kNot, kM0, kM1b, kM1, kG1b, kG1, kG2c, kG2b, kG2, kIx2, kIx1, kSl3, kSl2, kSl1, kL2, kL1, kEx, kSet, kP2b, kP2, kP3c, kP3b, kP3, kSi3, kSi2, kSi1, kAu3, kAu2, kAx5, kAx4, kAx3, kAx2, kAx1, kRet, evOp, evCmp, evAug, bindG, bindGs, hbt]
  exact gc_old w (closed_ask _ _ _ _)
end
end Lw
end

section
set_option Elab.async false
set_option linter.all false
set_option maxRecDepth 100000
set_option autoImplicit false
set_option maxHeartbeats 1000000
/-! M8: asked_of refuses; do_fit, first_double, are_single -/
namespace Lw
open PySem L2 Ev
section
variable {st : Sto}
theorem bad_is {N : Net} {g : Nat} {b : D} {t : String} (w : Wf st) (hN : N.nodes.length ≤ 20) (hT : N.told.length ≤ 20) (ht : tyN (st ++ [.lst (N.sp.map spotD)]) b = some t) (hk : kitB t "tuple" = some false) : f_asked_of [N.d, .ref g, b] st = .exc 0 st := by
  have hs := spots_ok N w (by omega) (by omega)
  have w1 : Wf (st ++ [.lst (N.sp.map spotD)]) := w.app (by simp [closedO, closed_spots])
  unfold f_asked_of c_asked_of
  rw [evF_fin]
  have hb : ∀ b : Bool, gc (st ++ [MO.lst (N.sp.map spotD)]).length (.bl b) (st ++ [.lst (N.sp.map spotD)]) = .ok (.bl b) (st ++ [.lst (N.sp.map spotD)]) := fun b => gc_old0 w1 rfl
  have k1 : kBi (.isI "tuple") (st ++ [MO.lst (N.sp.map spotD)]).length b (st ++ [.lst (N.sp.map spotD)]) = .ok (.bl false) (st ++ [.lst (N.sp.map spotD)]) := by simp only [kBi, evBi, evBi0, biIs, ht, hk, Out.bind_ok, hb, noexc_ok]
  simp only [List.length_append, List.length_cons, List.length_nil, Nat.zero_add] at k1
  simp [sl_cons, sl_nil, q_ex, q_set, q_p2, q_p3, q_si, q_au, q_ax, q_if, q_for, q_ret, q_retN, q_pass, q_raise, e_v, e_k, e_tup, e_lst, e_dct, e_op, e_cmp, e_isN, e_notN, e_and, e_or, e_not, e_ifx, e_call, e_bi, e_m0, e_m1, e_g1, e_g2, e_ix, e_sl, l_nil, l_cons, o_no, o_so, t_t, c_no, c_so, kTup, kLst, kOp2, kOp1, kCmp2, kCmp1, kIsN, kNotN, kAnd, kOr, kTru, kNot, kM0, kM1b, kM1, kG1b, kG1, kG2c, kG2b, kG2, kIx2, kIx1, kSl3, kSl2, kSl1, kL2, kL1, kEx, kSet, kP2b, kP2, kP3c, kP3b, kP3, kSi3, kSi2, kSi1, kAu3, kAu2, kAx5, kAx4, kAx3, kAx2, kAx1, kRet, evOp, evCmp, evAug, bindG, bindGs, kCall, Tab, hs, k1, truD]
  exact Pre.refl.app.finX w
theorem bad_non {N : Net} {g : Nat} (w : Wf st) (hN : N.nodes.length ≤ 20) (hT : N.told.length ≤ 20) : f_asked_of [N.d, .ref g, .non] st = .exc 0 st := bad_is w hN hT rfl kit_nt
theorem bad_lst {N : Net} {g r : Nat} {xs : List D} (w : Wf st) (hN : N.nodes.length ≤ 20) (hT : N.told.length ≤ 20) (hr : st[r]? = some (.lst xs)) : f_asked_of [N.d, .ref g, .ref r] st = .exc 0 st := bad_is w hN hT (by simp only [tyN, app_low hr]) kit_lt
theorem bad_tup {N : Net} {g : Nat} {is : List Int} (w : Wf st) (hN : N.nodes.length ≤ 20) (hT : N.told.length ≤ 20) (hl : is.length ≤ 1000) (hb : is.length ≠ N.sp.length ∨ (is.all fun i => decide (0 ≤ i)) = false) : f_asked_of [N.d, .ref g, .tup (is.map D.int)] st = .exc 0 st := by
  have hs := spots_ok N w (by omega) (by omega)
  have w1 : Wf (st ++ [.lst (N.sp.map spotD)]) := w.app (by simp [closedO, closed_spots])
  unfold f_asked_of c_asked_of
  rw [evF_fin]
  have hbl : ∀ b : Bool, gc (st ++ [MO.lst (N.sp.map spotD)]).length (.bl b) (st ++ [.lst (N.sp.map spotD)]) = .ok (.bl b) (st ++ [.lst (N.sp.map spotD)]) := fun b => gc_old0 w1 rfl
  have k1 : kBi (.isI "tuple") (st ++ [MO.lst (N.sp.map spotD)]).length (.tup (is.map D.int)) (st ++ [.lst (N.sp.map spotD)]) = .ok (.bl true) (st ++ [.lst (N.sp.map spotD)]) := by simp only [kBi, evBi, evBi0, biIs, tyN, kit_tt, Out.bind_ok, hbl, noexc_ok]
  have k2 : kBi .len (st ++ [MO.lst (N.sp.map spotD)]).length (.tup (is.map D.int)) (st ++ [.lst (N.sp.map spotD)]) = .ok (.int is.length) (st ++ [.lst (N.sp.map spotD)]) := bi_len 0 _ _ w1 (by simp [biLen])
  have k3 : kBi .len (st ++ [MO.lst (N.sp.map spotD)]).length (.ref st.length) (st ++ [.lst (N.sp.map spotD)]) = .ok (.int N.sp.length) (st ++ [.lst (N.sp.map spotD)]) := bi_len 0 _ _ w1 (by simp [biLen])
  have k4 := counts_ok (st := st ++ [.lst (N.sp.map spotD)]) is w1 hl [some N.d, some (.ref g), some (.tup (is.map D.int)), some (.ref st.length), none, none, none, none, none, none] rfl rfl (by simp)
  simp only [List.length_append, List.length_cons, List.length_nil, Nat.zero_add] at k1 k2 k3
  by_cases e : is.length = N.sp.length
  · have k6 : evNe (.int is.length) (.int N.sp.length) (st ++ [.lst (N.sp.map spotD)]) = .ok (.bl false) (st ++ [.lst (N.sp.map spotD)]) := by simp [evNe, eqD, e]
    rw [hb.resolve_left (fun h => h e)] at k4
    simp [sl_cons, sl_nil, q_ex, q_set, q_p2, q_p3, q_si, q_au, q_ax, q_if, q_for, q_ret, q_retN, q_pass, q_raise, e_v, e_k, e_tup, e_lst, e_dct, e_op, e_cmp, e_isN, e_notN, e_and, e_or, e_not, e_ifx, e_call, e_bi, e_m0, e_m1, e_g1, e_g2, e_ix, e_sl, l_nil, l_cons, o_no, o_so, t_t, c_no, c_so, kTup, kLst, kOp2, kOp1, kCmp2, kCmp1, kIsN, kNotN, kAnd, kOr, kTru, kNot, kM0, kM1b, kM1, kG1b, kG1, kG2c, kG2b, kG2, kIx2, kIx1, kSl3, kSl2, kSl1, kL2, kL1, kEx, kSet, kP2b, kP2, kP3c, kP3b, kP3, kSi3, kSi2, kSi1, kAu3, kAu2, kAx5, kAx4, kAx3, kAx2, kAx1, kRet, evOp, evCmp, evAug, bindG, bindGs, kCall, Tab, hs, k1, k2, k3, k6, ↓k4, truD]
    exact Pre.refl.app.finX w
  · have k6 : evNe (.int is.length) (.int N.sp.length) (st ++ [.lst (N.sp.map spotD)]) = .ok (.bl true) (st ++ [.lst (N.sp.map spotD)]) := by
      have : ¬ ((is.length : Int) = (N.sp.length : Int)) := by omega
      simp [evNe, eqD, this]
    simp [sl_cons, sl_nil, q_ex, q_set, q_p2, q_p3, q_si, q_au, q_ax, q_if, q_for, q_ret, q_retN, q_pass, q_raise, e_v, e_k, e_tup, e_lst, e_dct, e_op, e_cmp, e_isN, e_notN, e_and, e_or, e_not, e_ifx, e_call, e_bi, e_m0, e_m1, e_g1, e_g2, e_ix, e_sl, l_nil, l_cons, o_no, o_so, t_t, c_no, c_so, kTup, kLst, kOp2, kOp1, kCmp2, kCmp1, kIsN, kNotN, kAnd, kOr, kTru, kNot, kM0, kM1b, kM1, kG1b, kG1, kG2c, kG2b, kG2, kIx2, kIx1, kSl3, kSl2, kSl1, kL2, kL1, kEx, kSet, kP2b, kP2, kP3c, kP3b, kP3, kSi3, kSi2, kSi1, kAu3, kAu2, kAx5, kAx4, kAx3, kAx2, kAx1, kRet, evOp, evCmp, evAug, bindG, bindGs, kCall, Tab, hs, k1, k2, k3, k6, truD]
    exact Pre.refl.app.finX w
/-- is the node a drawn bit -/
def Net.isBit (N : Net) (v : Nat) : Bool := match N.nodes[v]? with
  | some (.bit _) => true
  | _ => false
theorem word_bit (m : Nd) : decide (m.word = ("bit" : Str)) = (match m with | .bit _ => true | _ => false) := by
  cases m with
  | bin b y z => cases b <;> simp [Nd.word]
  | _ => simp [Nd.word]
theorem bit_ne {N : Net} {v : Nat} {m : Nd} (h : N.nodes[v]? = some m) : evNe (.str m.word) (.str "bit") st = .ok (.bl (!N.isBit v)) st := by
  have := word_bit m
  simp only [evNe, eqD, this, Net.isBit, h]
  cases m <;> rfl
/-- does it fit -/
def fitB (N : Net) (nr : Nat → Bool) (nd : Nat → Nat) (o : Nat) : Bool := (List.range N.nodes.length).all fun v => N.isBit v || decide (wsum N.U nd (RR N.U nr v) + nd v ≤ o)
theorem fit_ok {N : Net} {a n x : Bool} {g o : Nat} {nd : Nat → Nat} (w : Wf st) (hg : st[g]? = some (grO a n x)) (hN : N.nodes.length ≤ 20) (hT : N.told.length ≤ 20) (G : Good N.U (N.near a n x) N.nodes.length) (hlow : ∀ i v, v ∈ N.U.getD i [] → v < N.nodes.length) :
    f_do_fit [N.d, .ref g, natD o, needD N.sp.length nd] st = .ok (.bl (fitB N (N.near a n x) nd o)) st := by
  have hsp := sp_len N
  have ha := asked_ok (nd := nd) w hg hN hT G hlow
  have gb : ∀ b : Bool, gc st.length (.bl b) st = .ok (.bl b) st := fun b => gc_old0 w rfl
  have loop := forL_ret (bind := bindG (.t (.cons (.n 4) (.cons (.n 5) (.nil))))) (body := fun env st => evSL T_do_fit (.cons (.ife (.and (.cmp .ne (.ix (.ix (.ix (.v 0) (.k (.int 3))) (.v 4)) (.k (.int 0))) (.k (.str "bit"))) (.cmp .gt (.op .add (.v 5) (.ix (.v 3) (.v 4))) (.v 2))) (.cons (.ret (.k (.bl false))) (.nil)) (.nil)) (.nil)) env st) (chk := Chk.free.ok)
    (fun j env s => s = st ∧ (∃ x4 x5, env = [some N.d, some (.ref g), some (natD o), some (needD N.sp.length nd), x4, x5]) ∧ ∀ v, v < j → (N.isBit v || decide (wsum N.U nd (RR N.U (N.near a n x) v) + nd v ≤ o)) = true)
    (fun j d s => s = st ∧ d = .bl false ∧ j < N.nodes.length ∧ (N.isBit j || decide (wsum N.U nd (RR N.U (N.near a n x) j) + nd j ≤ o)) = false)
    (xs := enumL (vecD N.nodes.length fun v => wsum N.U nd (RR N.U (N.near a n x) v))) (fun _ _ _ _ => rfl)
    (fun j env s y h hy => by
      obtain ⟨rfl, ⟨x4, x5, rfl⟩, hall⟩ := h
      obtain ⟨z, hz, rfl⟩ := enumL_get hy
      have hj : j < N.nodes.length := by
        have := (List.getElem?_eq_some_iff.mp hz).1
        rwa [vec_len] at this
      rw [vec_at hj] at hz
      cases hz
      obtain ⟨m, hm⟩ : ∃ m, N.nodes[j]? = some m := ⟨_, List.getElem?_eq_getElem hj⟩
      refine ⟨[some N.d, some (.ref g), some (natD o), some (needD N.sp.length nd), some (natD j), some (natD (wsum N.U nd (RR N.U (N.near a n x) j)))], rfl, ?_⟩
      have e1 := nodes_at (st := s) N j m hm
      have e2 := bit_ne (st := s) hm
      have e3 := int_nat (st := s) nd N.sp.length j (by omega)
      cases hb : N.isBit j with
      | true =>
        rw [hb] at e2
        refine .inl ⟨[some N.d, some (.ref g), some (natD o), some (needD N.sp.length nd), some (natD j), some (natD (wsum N.U nd (RR N.U (N.near a n x) j)))], s, ?_, rfl, ⟨_, _, rfl⟩, fun v hv => ?_⟩
        · simp [sl_cons, sl_nil, q_ex, q_set, q_p2, q_p3, q_si, q_au, q_ax, q_if, q_for, q_ret, q_retN, q_pass, q_raise, e_v, e_k, e_tup, e_lst, e_dct, e_op, e_cmp, e_isN, e_notN, e_and, e_or, e_not, e_ifx, e_call, e_bi, e_m0, e_m1, e_g1, e_g2, e_ix, e_sl, l_nil, l_cons, o_no, o_so, t_t, c_no, c_so, kTup, kLst, kOp2, kOp1, kCmp2, kCmp1, kIsN, kNotN, kAnd, kOr, kTru, kNot, kM0, kM1b, kM1, kG1b, kG1, kG2c, kG2b, kG2, kIx2, kIx1, kSl3, kSl2, kSl1, kL2, kL1, kEx, kSet, kP2b, kP2, kP3c, kP3b, kP3, kSi3, kSi2, kSi1, kAu3, kAu2, kAx5, kAx4, kAx3, kAx2, kAx1, kRet, evOp, evCmp, evAug, bindG, bindGs, net3, e1, nd0, e2, truD]
        · by_cases e : v = j
          · subst e; rw [hb]; rfl
          · exact hall v (by omega)
      | false =>
        rw [hb] at e2
        by_cases hf : wsum N.U nd (RR N.U (N.near a n x) j) + nd j ≤ o
        · have e4 : evGt (natD (wsum N.U nd (RR N.U (N.near a n x) j) + nd j)) (natD o) s = .ok (.bl false) s := by
            have : ¬ ((o : Int) < ((wsum N.U nd (RR N.U (N.near a n x) j) + nd j : Nat) : Int)) := by omega
            simp only [evGt, natD, decide_eq_false this]
          refine .inl ⟨[some N.d, some (.ref g), some (natD o), some (needD N.sp.length nd), some (natD j), some (natD (wsum N.U nd (RR N.U (N.near a n x) j)))], s, ?_, rfl, ⟨_, _, rfl⟩, fun v hv => ?_⟩
          · simp [sl_cons, sl_nil, q_ex, q_set, q_p2, q_p3, q_si, q_au, q_ax, q_if, q_for, q_ret, q_retN, q_pass, q_raise, e_v, e_k, e_tup, e_lst, e_dct, e_op, e_cmp, e_isN, e_notN, e_and, e_or, e_not, e_ifx, e_call, e_bi, e_m0, e_m1, e_g1, e_g2, e_ix, e_sl, l_nil, l_cons, o_no, o_so, t_t, c_no, c_so, kTup, kLst, kOp2, kOp1, kCmp2, kCmp1, kIsN, kNotN, kAnd, kOr, kTru, kNot, kM0, kM1b, kM1, kG1b, kG1, kG2c, kG2b, kG2, kIx2, kIx1, kSl3, kSl2, kSl1, kL2, kL1, kEx, kSet, kP2b, kP2, kP3c, kP3b, kP3, kSi3, kSi2, kSi1, kAu3, kAu2, kAx5, kAx4, kAx3, kAx2, kAx1, kRet, evOp, evCmp, evAug, bindG, bindGs, net3, e1, nd0, e2, truD, needD, e3, add_nat, e4]
          · by_cases e : v = j
            · subst e; rw [hb, decide_eq_true hf]; rfl
            · exact hall v (by omega)
        · have e4 : evGt (natD (wsum N.U nd (RR N.U (N.near a n x) j) + nd j)) (natD o) s = .ok (.bl true) s := by
            have : ((o : Int) < ((wsum N.U nd (RR N.U (N.near a n x) j) + nd j : Nat) : Int)) := by omega
            simp only [evGt, natD, decide_eq_true this]
          refine .inr ⟨.bl false, s, ?_, rfl, rfl, hj, by rw [decide_eq_false hf]; rfl⟩
          simp [sl_cons, sl_nil, q_ex, q_set, q_p2, q_p3, q_si, q_au, q_ax, q_if, q_for, q_ret, q_retN, q_pass, q_raise, e_v, e_k, e_tup, e_lst, e_dct, e_op, e_cmp, e_isN, e_notN, e_and, e_or, e_not, e_ifx, e_call, e_bi, e_m0, e_m1, e_g1, e_g2, e_ix, e_sl, l_nil, l_cons, o_no, o_so, t_t, c_no, c_so, kTup, kLst, kOp2, kOp1, kCmp2, kCmp1, kIsN, kNotN, kAnd, kOr, kTru, kNot, kM0, kM1b, kM1, kG1b, kG1, kG2c, kG2b, kG2, kIx2, kIx1, kSl3, kSl2, kSl1, kL2, kL1, kEx, kSet, kP2b, kP2, kP3c, kP3b, kP3, kSi3, kSi2, kSi1, kAu3, kAu2, kAx5, kAx4, kAx3, kAx2, kAx1, kRet, evOp, evCmp, evAug, bindG, bindGs, net3, e1, nd0, e2, truD, needD, e3, add_nat, e4])
    (env := [some N.d, some (.ref g), some (natD o), some (needD N.sp.length nd), none, none]) (st := st) ⟨rfl, ⟨none, none, rfl⟩, fun v hv => absurd hv (Nat.not_lt_zero v)⟩
  unfold f_do_fit c_do_fit
  rw [evF_fin]
  simp [sl_cons, sl_nil, q_ex, q_set, q_p2, q_p3, q_si, q_au, q_ax, q_if, q_for, q_ret, q_retN, q_pass, q_raise, e_v, e_k, e_tup, e_lst, e_dct, e_op, e_cmp, e_isN, e_notN, e_and, e_or, e_not, e_ifx, e_call, e_bi, e_m0, e_m1, e_g1, e_g2, e_ix, e_sl, l_nil, l_cons, o_no, o_so, t_t, c_no, c_so, kTup, kLst, kOp2, kOp1, kCmp2, kCmp1, kIsN, kNotN, kAnd, kOr, kTru, kNot, kM0, kM1b, kM1, kG1b, kG1, kG2c, kG2b, kG2, kIx2, kIx1, kSl3, kSl2, kSl1, kL2, kL1, kEx, kSet, kP2b, kP2, kP3c, kP3b, kP3, kSi3, kSi2, kSi1, kAu3, kAu2, kAx5, kAx4, kAx3, kAx2, kAx1, kRet, evOp, evCmp, evAug, bindG, bindGs, i_en, kCall, Tab, ha, kEn, askD, walkD, kFor]
  rcases loop with ⟨env', s', e1, rfl, ⟨x4, x5, rfl⟩, hall⟩ | ⟨i, d, s', hi, e1, rfl, rfl, hj, hno⟩
  · have e1' := e1
    rw [enumL_len, vec_len] at hall
    have : fitB N (N.near a n x) nd o = true := List.all_eq_true.mpr fun v hv => hall v (List.mem_range.mp hv)
    rw [this]
    have q : forF T_do_fit (.t (.cons (.n 4) (.cons (.n 5) (.nil)))) (.cons (.ife (.and (.cmp .ne (.ix (.ix (.ix (.v 0) (.k (.int 3))) (.v 4)) (.k (.int 0))) (.k (.str "bit"))) (.cmp .gt (.op .add (.v 5) (.ix (.v 3) (.v 4))) (.v 2))) (.cons (.ret (.k (.bl false))) (.nil)) (.nil)) (.nil)) .free (enumL (vecD N.nodes.length fun v => wsum N.U nd (RR N.U (N.near a n x) v))) [some N.d, some (.ref g), some (natD o), some (needD N.sp.length nd), none, none] s' = _ := e1
    rw [q]
    simp [sl_cons, sl_nil, q_ex, q_set, q_p2, q_p3, q_si, q_au, q_ax, q_if, q_for, q_ret, q_retN, q_pass, q_raise, e_v, e_k, e_tup, e_lst, e_dct, e_op, e_cmp, e_isN, e_notN, e_and, e_or, e_not, e_ifx, e_call, e_bi, e_m0, e_m1, e_g1, e_g2, e_ix, e_sl, l_nil, l_cons, o_no, o_so, t_t, c_no, c_so, kTup, kLst, kOp2, kOp1, kCmp2, kCmp1, kIsN, kNotN, kAnd, kOr, kTru, kNot, kM0, kM1b, kM1, kG1b, kG1, kG2c, kG2b, kG2, kIx2, kIx1, kSl3, kSl2, kSl1, kL2, kL1, kEx, kSet, kP2b, kP2, kP3c, kP3b, kP3, kSi3, kSi2, kSi1, kAu3, kAu2, kAx5, kAx4, kAx3, kAx2, kAx1, kRet, evOp, evCmp, evAug, bindG, bindGs, gb]
  · have : fitB N (N.near a n x) nd o = false := by
      cases q : fitB N (N.near a n x) nd o with
      | false => rfl
      | true =>
        have := List.all_eq_true.mp q i (List.mem_range.mpr hj)
        rw [hno] at this
        cases this
    rw [this]
    have q : forF T_do_fit (.t (.cons (.n 4) (.cons (.n 5) (.nil)))) (.cons (.ife (.and (.cmp .ne (.ix (.ix (.ix (.v 0) (.k (.int 3))) (.v 4)) (.k (.int 0))) (.k (.str "bit"))) (.cmp .gt (.op .add (.v 5) (.ix (.v 3) (.v 4))) (.v 2))) (.cons (.ret (.k (.bl false))) (.nil)) (.nil)) (.nil)) .free (enumL (vecD N.nodes.length fun v => wsum N.U nd (RR N.U (N.near a n x) v))) [some N.d, some (.ref g), some (natD o), some (needD N.sp.length nd), none, none] s' = _ := e1
    rw [q]
    simp [gb]
end
end Lw
end

section
set_option Elab.async false
set_option linter.all false
set_option maxRecDepth 100000
set_option autoImplicit false
set_option maxHeartbeats 1000000
/-! M9: first_double, are_single -/
namespace Lw
open PySem L2 Ev
theorem fs_first {α β : Type} {f : α → Option β} {b : β} : ∀ (l : List α) (j : Nat) (x : α), l[j]? = some x → f x = some b → (∀ (i : Nat) (y : α), i < j → l[i]? = some y → f y = none) → l.findSome? f = some b
  | [], _, _, h, _, _ => by simp at h
  | a :: l, 0, x, h, hx, _ => by
    simp at h
    subst h
    simp [List.findSome?_cons, hx]
  | a :: l, j + 1, x, h, hx, hn => by
    have h0 := hn 0 a (by omega) rfl
    rw [List.findSome?_cons, h0]
    exact fs_first l j x (by simpa using h) hx fun i y hi hy => hn (i + 1) y (by omega) (by simpa using hy)
theorem fs_none {α β : Type} {f : α → Option β} : ∀ (l : List α), (∀ y ∈ l, f y = none) → l.findSome? f = none
  | [], _ => rfl
  | a :: l, h => by
    rw [List.findSome?_cons, h a List.mem_cons_self]
    exact fs_none l fun y hy => h y (List.mem_cons_of_mem _ hy)
def isD (N : Net) (nr : Nat → Bool) (v k : Nat) : Bool := decide (1 < RR N.U nr v k) && !N.isBit v
def frow (N : Net) (nr : Nat → Bool) (v : Nat) : List Nat := (ups (RR N.U nr v) N.sp.length).filter (isD N nr v)
/-- the doubles, in their order -/
def dbl (N : Net) (nr : Nat → Bool) : List (Nat × Nat) := (List.range N.nodes.length).flatMap fun v => (frow N nr v).map fun k => (v, k)
def pairD (p : Nat × Nat) : D := .tup [natD p.1, natD p.2]
def firstD (N : Net) (nr : Nat → Bool) : D := match (dbl N nr).head? with
  | some p => pairD p
  | none => .non
theorem dbl_head (N : Net) (nr : Nat → Bool) : (dbl N nr).head? = (List.range N.nodes.length).findSome? fun v => ((ups (RR N.U nr v) N.sp.length).find? (isD N nr v)).map fun k => (v, k) := by
  unfold dbl frow
  rw [List.head?_flatMap]
  congr 1
  funext v
  rw [List.head?_map, List.head?_filter]
theorem find_fs {α : Type} (p : α → Bool) (l : List α) : l.find? p = l.findSome? fun x => if p x then some x else none := by
  induction l with
  | nil => rfl
  | cons a l ih =>
    rw [List.find?_cons, List.findSome?_cons]
    cases h : p a <;> simp [ih]
section
variable {st : Sto}
theorem first_ok {N : Net} {a n x : Bool} {g : Nat} (w : Wf st) (hg : st[g]? = some (grO a n x)) (hN : N.nodes.length ≤ 20) (hT : N.told.length ≤ 20) (G : Good N.U (N.near a n x) N.nodes.length) (hlow : ∀ i v, v ∈ N.U.getD i [] → v < N.nodes.length) :
    f_first_double [N.d, .ref g] st = .ok (firstD N (N.near a n x)) st := by
  have hsp := sp_len N
  have hw := ways_ok w hg hN hT G hlow
  let nr := N.near a n x
  -- one row
  have inner : ∀ (v : Nat) (m : Nd) (x4 x5 : Option D), N.nodes[v]? = some m →
      (∃ y4 y5, forF T_first_double (.t (.cons (.n 4) (.cons (.n 5) (.nil)))) (.cons (.ife (.and (.cmp .gt (.v 5) (.k (.int 1))) (.cmp .ne (.ix (.ix (.ix (.v 0) (.k (.int 3))) (.v 2)) (.k (.int 0))) (.k (.str "bit")))) (.cons (.ret (.tup (.cons (.v 2) (.cons (.v 4) (.nil))))) (.nil)) (.nil)) (.nil)) .free (rowD (RR N.U nr v) N.sp.length) [some N.d, some (.ref g), some (natD v), some (.tup (rowD (RR N.U nr v) N.sp.length)), x4, x5] st = .nx [some N.d, some (.ref g), some (natD v), some (.tup (rowD (RR N.U nr v) N.sp.length)), y4, y5] st ∧ (ups (RR N.U nr v) N.sp.length).find? (isD N nr v) = none) ∨
      (∃ k, forF T_first_double (.t (.cons (.n 4) (.cons (.n 5) (.nil)))) (.cons (.ife (.and (.cmp .gt (.v 5) (.k (.int 1))) (.cmp .ne (.ix (.ix (.ix (.v 0) (.k (.int 3))) (.v 2)) (.k (.int 0))) (.k (.str "bit")))) (.cons (.ret (.tup (.cons (.v 2) (.cons (.v 4) (.nil))))) (.nil)) (.nil)) (.nil)) .free (rowD (RR N.U nr v) N.sp.length) [some N.d, some (.ref g), some (natD v), some (.tup (rowD (RR N.U nr v) N.sp.length)), x4, x5] st = .rt (pairD (v, k)) st ∧ (ups (RR N.U nr v) N.sp.length).find? (isD N nr v) = some k) := by
    intro v m x4 x5 hm
    have e1 := nodes_at (st := st) N v m hm
    have e2 := bit_ne (st := st) hm
    have loop := forL_ret (bind := bindG (.t (.cons (.n 4) (.cons (.n 5) (.nil))))) (body := fun env st => evSL T_first_double (.cons (.ife (.and (.cmp .gt (.v 5) (.k (.int 1))) (.cmp .ne (.ix (.ix (.ix (.v 0) (.k (.int 3))) (.v 2)) (.k (.int 0))) (.k (.str "bit")))) (.cons (.ret (.tup (.cons (.v 2) (.cons (.v 4) (.nil))))) (.nil)) (.nil)) (.nil)) env st) (chk := Chk.free.ok)
      (fun j env s => s = st ∧ (∃ x4 x5, env = [some N.d, some (.ref g), some (natD v), some (.tup (rowD (RR N.U nr v) N.sp.length)), x4, x5]) ∧ ∀ (q k : Nat), q < j → (ups (RR N.U nr v) N.sp.length)[q]? = some k → isD N nr v k = false)
      (fun j d s => s = st ∧ ∃ k, (ups (RR N.U nr v) N.sp.length)[j]? = some k ∧ d = pairD (v, k) ∧ isD N nr v k = true ∧ ∀ (q k : Nat), q < j → (ups (RR N.U nr v) N.sp.length)[q]? = some k → isD N nr v k = false)
      (xs := rowD (RR N.U nr v) N.sp.length) (fun _ _ _ _ => rfl)
      (fun j env s y h hy => by
        obtain ⟨rfl, ⟨x4, x5, rfl⟩, hall⟩ := h
        unfold rowD at hy
        rw [List.getElem?_map] at hy
        cases hk : (ups (RR N.U nr v) N.sp.length)[j]? with
        | none => rw [hk] at hy; cases hy
        | some k =>
          rw [hk] at hy
          cases hy
          refine ⟨[some N.d, some (.ref g), some (natD v), some (.tup (rowD (RR N.U nr v) N.sp.length)), some (natD k), some (natD (RR N.U nr v k))], rfl, ?_⟩
          have next : isD N nr v k = false → ∀ (q k : Nat), q < j + 1 → (ups (RR N.U nr v) N.sp.length)[q]? = some k → isD N nr v k = false := fun hf q k' hq hk' => by
            by_cases e : q = j
            · subst e
              rw [hk] at hk'
              cases hk'
              exact hf
            · exact hall q k' (by omega) hk'
          by_cases h1 : 1 < RR N.U nr v k
          · have e4 : evGt (natD (RR N.U nr v k)) (.int 1) s = .ok (.bl true) s := by
              have : ((1 : Int) < ((RR N.U nr v k : Nat) : Int)) := by omega
              simp only [evGt, natD, decide_eq_true this]
            cases hb : N.isBit v with
            | true =>
              rw [hb] at e2
              refine .inl ⟨[some N.d, some (.ref g), some (natD v), some (.tup (rowD (RR N.U nr v) N.sp.length)), some (natD k), some (natD (RR N.U nr v k))], s, ?_, rfl, ⟨_, _, rfl⟩, next (by simp [isD, hb])⟩
              simp [sl_cons, sl_nil, q_ex, q_set, q_p2, q_p3, q_si, q_au, q_ax, q_if, q_for, q_ret, q_retN, q_pass, q_raise, e_v, e_k, e_tup, e_lst, e_dct, e_op, e_cmp, e_isN, e_notN, e_and, e_or, e_not, e_ifx, e_call, e_bi, e_m0, e_m1, e_g1, e_g2, e_ix, e_sl, l_nil, l_cons, o_no, o_so, t_t, c_no, c_so, kTup, kLst, kOp2, kOp1, kCmp2, kCmp1, kIsN, kNotN, kAnd, kOr, kTru, kNot, kM0, kM1b, kM1, kG1b, kG1, kG2c, kG2b, kG2, kIx2, kIx1, kSl3, kSl2, kSl1, kL2, kL1, kEx, kSet, kP2b, kP2, kP3c, kP3b, kP3, kSi3, kSi2, kSi1, kAu3, kAu2, kAx5, kAx4, kAx3, kAx2, kAx1, kRet, evOp, evCmp, evAug, bindG, bindGs, e4, net3, e1, nd0, e2, truD]
            | false =>
              rw [hb] at e2
              refine .inr ⟨pairD (v, k), s, ?_, rfl, k, rfl, rfl, by simp [isD, hb, h1], hall⟩
              simp [sl_cons, sl_nil, q_ex, q_set, q_p2, q_p3, q_si, q_au, q_ax, q_if, q_for, q_ret, q_retN, q_pass, q_raise, e_v, e_k, e_tup, e_lst, e_dct, e_op, e_cmp, e_isN, e_notN, e_and, e_or, e_not, e_ifx, e_call, e_bi, e_m0, e_m1, e_g1, e_g2, e_ix, e_sl, l_nil, l_cons, o_no, o_so, t_t, c_no, c_so, kTup, kLst, kOp2, kOp1, kCmp2, kCmp1, kIsN, kNotN, kAnd, kOr, kTru, kNot, kM0, kM1b, kM1, kG1b, kG1, kG2c, kG2b, kG2, kIx2, kIx1, kSl3, kSl2, kSl1, kL2, kL1, kEx, kSet, kP2b, kP2, kP3c, kP3b, kP3, kSi3, kSi2, kSi1, kAu3, kAu2, kAx5, kAx4, kAx3, kAx2, kAx1, kRet, evOp, evCmp, evAug, bindG, bindGs, e4, net3, e1, nd0, e2, truD, SZ, pairD]
          · have e4 : evGt (natD (RR N.U nr v k)) (.int 1) s = .ok (.bl false) s := by
              have : ¬ ((1 : Int) < ((RR N.U nr v k : Nat) : Int)) := by omega
              simp only [evGt, natD, decide_eq_false this]
            refine .inl ⟨[some N.d, some (.ref g), some (natD v), some (.tup (rowD (RR N.U nr v) N.sp.length)), some (natD k), some (natD (RR N.U nr v k))], s, ?_, rfl, ⟨_, _, rfl⟩, next (by simp [isD, h1])⟩
            simp [sl_cons, sl_nil, q_ex, q_set, q_p2, q_p3, q_si, q_au, q_ax, q_if, q_for, q_ret, q_retN, q_pass, q_raise, e_v, e_k, e_tup, e_lst, e_dct, e_op, e_cmp, e_isN, e_notN, e_and, e_or, e_not, e_ifx, e_call, e_bi, e_m0, e_m1, e_g1, e_g2, e_ix, e_sl, l_nil, l_cons, o_no, o_so, t_t, c_no, c_so, kTup, kLst, kOp2, kOp1, kCmp2, kCmp1, kIsN, kNotN, kAnd, kOr, kTru, kNot, kM0, kM1b, kM1, kG1b, kG1, kG2c, kG2b, kG2, kIx2, kIx1, kSl3, kSl2, kSl1, kL2, kL1, kEx, kSet, kP2b, kP2, kP3c, kP3b, kP3, kSi3, kSi2, kSi1, kAu3, kAu2, kAx5, kAx4, kAx3, kAx2, kAx1, kRet, evOp, evCmp, evAug, bindG, bindGs, e4, truD])
      (env := [some N.d, some (.ref g), some (natD v), some (.tup (rowD (RR N.U nr v) N.sp.length)), x4, x5]) (st := st) ⟨rfl, ⟨x4, x5, rfl⟩, fun q k hq => absurd hq (Nat.not_lt_zero q)⟩
    rcases loop with ⟨env', s', c1, rfl, ⟨y4, y5, rfl⟩, hall⟩ | ⟨i, d, s', hi, c1, rfl, k, hk, rfl, ht, hall⟩
    · refine .inl ⟨y4, y5, c1, ?_⟩
      rw [find_fs]
      refine fs_none _ fun k hk => ?_
      obtain ⟨q, hq⟩ := List.mem_iff_getElem?.mp hk
      have hql := (List.getElem?_eq_some_iff.mp hq).1
      rw [hall q k (by unfold rowD; rw [List.length_map]; exact hql) hq]
      rfl
    · refine .inr ⟨k, c1, ?_⟩
      rw [find_fs]
      refine fs_first _ i k hk (by rw [ht]; rfl) fun q y hq hy => by rw [hall q y hq hy]; rfl
  have gd : gc st.length (firstD N nr) st = .ok (firstD N nr) st := gc_old0 w (by unfold firstD; split <;> rfl)
  have loop := forL_ret (bind := bindG (.t (.cons (.n 2) (.cons (.n 3) (.nil))))) (body := fun env st => evSL T_first_double (.cons (.forI (.t (.cons (.n 4) (.cons (.n 5) (.nil)))) (.of (.v 3)) (.cons (.ife (.and (.cmp .gt (.v 5) (.k (.int 1))) (.cmp .ne (.ix (.ix (.ix (.v 0) (.k (.int 3))) (.v 2)) (.k (.int 0))) (.k (.str "bit")))) (.cons (.ret (.tup (.cons (.v 2) (.cons (.v 4) (.nil))))) (.nil)) (.nil)) (.nil))) (.nil)) env st) (chk := Chk.free.ok)
    (fun j env s => s = st ∧ (∃ x2 x3 x4 x5, env = [some N.d, some (.ref g), x2, x3, x4, x5]) ∧ ∀ v, v < j → (ups (RR N.U nr v) N.sp.length).find? (isD N nr v) = none)
    (fun j d s => s = st ∧ j < N.nodes.length ∧ (∃ k, d = pairD (j, k) ∧ (ups (RR N.U nr j) N.sp.length).find? (isD N nr j) = some k) ∧ ∀ v, v < j → (ups (RR N.U nr v) N.sp.length).find? (isD N nr v) = none)
    (xs := enumL ((List.range N.nodes.length).map fun v => .tup (rowD (RR N.U nr v) N.sp.length))) (fun _ _ _ _ => rfl)
    (fun j env s y h hy => by
      obtain ⟨rfl, ⟨x2, x3, x4, x5, rfl⟩, hall⟩ := h
      obtain ⟨z, hz, rfl⟩ := enumL_get hy
      have hj : j < N.nodes.length := by
        have := (List.getElem?_eq_some_iff.mp hz).1
        simpa using this
      simp [hj] at hz
      subst hz
      obtain ⟨m, hm⟩ : ∃ m, N.nodes[j]? = some m := ⟨_, List.getElem?_eq_getElem hj⟩
      refine ⟨[some N.d, some (.ref g), some (natD j), some (.tup (rowD (RR N.U nr j) N.sp.length)), x4, x5], rfl, ?_⟩
      rcases inner j m x4 x5 hm with ⟨y4, y5, c1, c2⟩ | ⟨k, c1, c2⟩
      · refine .inl ⟨[some N.d, some (.ref g), some (natD j), some (.tup (rowD (RR N.U nr j) N.sp.length)), y4, y5], s, ?_, rfl, ⟨_, _, _, _, rfl⟩, fun v hv => ?_⟩
        · simp [sl_cons, sl_nil, q_ex, q_set, q_p2, q_p3, q_si, q_au, q_ax, q_if, q_for, q_ret, q_retN, q_pass, q_raise, e_v, e_k, e_tup, e_lst, e_dct, e_op, e_cmp, e_isN, e_notN, e_and, e_or, e_not, e_ifx, e_call, e_bi, e_m0, e_m1, e_g1, e_g2, e_ix, e_sl, l_nil, l_cons, o_no, o_so, t_t, c_no, c_so, kTup, kLst, kOp2, kOp1, kCmp2, kCmp1, kIsN, kNotN, kAnd, kOr, kTru, kNot, kM0, kM1b, kM1, kG1b, kG1, kG2c, kG2b, kG2, kIx2, kIx1, kSl3, kSl2, kSl1, kL2, kL1, kEx, kSet, kP2b, kP2, kP3c, kP3b, kP3, kSi3, kSi2, kSi1, kAu3, kAu2, kAx5, kAx4, kAx3, kAx2, kAx1, kRet, evOp, evCmp, evAug, bindG, bindGs, i_of, kWalk, walkD, kFor, c1]
        · by_cases e : v = j
          · subst e; exact c2
          · exact hall v (by omega)
      · refine .inr ⟨pairD (j, k), s, ?_, rfl, hj, ⟨k, rfl, c2⟩, hall⟩
        simp [sl_cons, sl_nil, q_ex, q_set, q_p2, q_p3, q_si, q_au, q_ax, q_if, q_for, q_ret, q_retN, q_pass, q_raise, e_v, e_k, e_tup, e_lst, e_dct, e_op, e_cmp, e_isN, e_notN, e_and, e_or, e_not, e_ifx, e_call, e_bi, e_m0, e_m1, e_g1, e_g2, e_ix, e_sl, l_nil, l_cons, o_no, o_so, t_t, c_no, c_so, kTup, kLst, kOp2, kOp1, kCmp2, kCmp1, kIsN, kNotN, kAnd, kOr, kTru, kNot, kM0, kM1b, kM1, kG1b, kG1, kG2c, kG2b, kG2, kIx2, kIx1, kSl3, kSl2, kSl1, kL2, kL1, kEx, kSet, kP2b, kP2, kP3c, kP3b, kP3, kSi3, kSi2, kSi1, kAu3, kAu2, kAx5, kAx4, kAx3, kAx2, kAx1, kRet, evOp, evCmp, evAug, bindG, bindGs, i_of, kWalk, walkD, kFor, c1])
    (env := [some N.d, some (.ref g), none, none, none, none]) (st := st) ⟨rfl, ⟨none, none, none, none, rfl⟩, fun v hv => absurd hv (Nat.not_lt_zero v)⟩
  unfold f_first_double c_first_double
  rw [evF_fin]
  simp [sl_cons, sl_nil, q_ex, q_set, q_p2, q_p3, q_si, q_au, q_ax, q_if, q_for, q_ret, q_retN, q_pass, q_raise, e_v, e_k, e_tup, e_lst, e_dct, e_op, e_cmp, e_isN, e_notN, e_and, e_or, e_not, e_ifx, e_call, e_bi, e_m0, e_m1, e_g1, e_g2, e_ix, e_sl, l_nil, l_cons, o_no, o_so, t_t, c_no, c_so, kTup, kLst, kOp2, kOp1, kCmp2, kCmp1, kIsN, kNotN, kAnd, kOr, kTru, kNot, kM0, kM1b, kM1, kG1b, kG1, kG2c, kG2b, kG2, kIx2, kIx1, kSl3, kSl2, kSl1, kL2, kL1, kEx, kSet, kP2b, kP2, kP3c, kP3b, kP3, kSi3, kSi2, kSi1, kAu3, kAu2, kAx5, kAx4, kAx3, kAx2, kAx1, kRet, evOp, evCmp, evAug, bindG, bindGs, i_en, kCall, Tab, hw, kEn, waysD, walkD, kFor]
  rcases loop with ⟨env', s', c1, rfl, ⟨x2, x3, x4, x5, rfl⟩, hall⟩ | ⟨i, d, s', hi, c1, rfl, hj, ⟨k, rfl, hk⟩, hall⟩
  · rw [enumL_len, List.length_map, List.length_range] at hall
    have hd : firstD N nr = .non := by
      unfold firstD
      rw [dbl_head, fs_none _ fun v hv => by rw [hall v (List.mem_range.mp hv)]; rfl]
    have q : forF T_first_double (.t (.cons (.n 2) (.cons (.n 3) (.nil)))) (.cons (.forI (.t (.cons (.n 4) (.cons (.n 5) (.nil)))) (.of (.v 3)) (.cons (.ife (.and (.cmp .gt (.v 5) (.k (.int 1))) (.cmp .ne (.ix (.ix (.ix (.v 0) (.k (.int 3))) (.v 2)) (.k (.int 0))) (.k (.str "bit")))) (.cons (.ret (.tup (.cons (.v 2) (.cons (.v 4) (.nil))))) (.nil)) (.nil)) (.nil))) (.nil)) .free (enumL ((List.range N.nodes.length).map fun v => .tup (rowD (RR N.U nr v) N.sp.length))) [some N.d, some (.ref g), none, none, none, none] s' = _ := c1
    rw [q]
    simp [sl_cons, sl_nil, q_ex, q_set, q_p2, q_p3, q_si, q_au, q_ax, q_if, q_for, q_ret, q_retN, q_pass, q_raise, e_v, e_k, e_tup, e_lst, e_dct, e_op, e_cmp, e_isN, e_notN, e_and, e_or, e_not, e_ifx, e_call, e_bi, e_m0, e_m1, e_g1, e_g2, e_ix, e_sl, l_nil, l_cons, o_no, o_so, t_t, c_no, c_so, kTup, kLst, kOp2, kOp1, kCmp2, kCmp1, kIsN, kNotN, kAnd, kOr, kTru, kNot, kM0, kM1b, kM1, kG1b, kG1, kG2c, kG2b, kG2, kIx2, kIx1, kSl3, kSl2, kSl1, kL2, kL1, kEx, kSet, kP2b, kP2, kP3c, kP3b, kP3, kSi3, kSi2, kSi1, kAu3, kAu2, kAx5, kAx4, kAx3, kAx2, kAx1, kRet, evOp, evCmp, evAug, bindG, bindGs]
    show gc _ _ _ = .ok (firstD N nr) s'
    rw [hd] at gd ⊢
    exact gd
  · have hd : firstD N nr = pairD (i, k) := by
      unfold firstD
      rw [dbl_head, fs_first (b := (i, k)) _ i i (by simp [hj]) (by rw [hk]; rfl) fun q y hq hy => by
        have : y = q := by
          have h2 := (List.getElem?_eq_some_iff.mp hy).1
          simp at h2
          simp [h2] at hy
          exact hy.symm
        subst this
        rw [hall y hq]
        rfl]
    have q : forF T_first_double (.t (.cons (.n 2) (.cons (.n 3) (.nil)))) (.cons (.forI (.t (.cons (.n 4) (.cons (.n 5) (.nil)))) (.of (.v 3)) (.cons (.ife (.and (.cmp .gt (.v 5) (.k (.int 1))) (.cmp .ne (.ix (.ix (.ix (.v 0) (.k (.int 3))) (.v 2)) (.k (.int 0))) (.k (.str "bit")))) (.cons (.ret (.tup (.cons (.v 2) (.cons (.v 4) (.nil))))) (.nil)) (.nil)) (.nil))) (.nil)) .free (enumL ((List.range N.nodes.length).map fun v => .tup (rowD (RR N.U nr v) N.sp.length))) [some N.d, some (.ref g), none, none, none, none] s' = _ := c1
    rw [q]
    simp
    show gc _ _ _ = .ok (firstD N nr) s'
    rw [hd] at gd ⊢
    exact gd
theorem single_ok {N : Net} {a n x : Bool} {g : Nat} (w : Wf st) (hg : st[g]? = some (grO a n x)) (hN : N.nodes.length ≤ 20) (hT : N.told.length ≤ 20) (G : Good N.U (N.near a n x) N.nodes.length) (hlow : ∀ i v, v ∈ N.U.getD i [] → v < N.nodes.length) :
    f_are_single [N.d, .ref g] st = .ok (.bl (dbl N (N.near a n x)).isEmpty) st := by
  have hf := first_ok w hg hN hT G hlow
  unfold f_are_single c_are_single
  rw [evF_fin]
  have gb : ∀ b : Bool, gc st.length (.bl b) st = .ok (.bl b) st := fun b => gc_old0 w rfl
  have e : decide (firstD N (N.near a n x) = .non) = (dbl N (N.near a n x)).isEmpty := by
    unfold firstD
    cases dbl N (N.near a n x) with
    | nil => rfl
    | cons p l => simp [pairD]
  simp only [sl_cons, sl_nil, q_ex, q_set, q_p2, q_p3, q_si, q_au, q_ax, q_if, q_for, q_ret, q_retN, q_pass, q_raise, e_v, e_k, e_tup, e_lst, e_dct, e_op, e_cmp, e_isN, e_notN, e_and, e_or, e_not, e_ifx, e_call, e_bi, e_m0, e_m1, e_g1, e_g2, e_ix, e_sl, l_nil, l_cons, o_no, o_so, t_t, c_no, c_so, kTup, kLst, kOp2, kOp1, kCmp2, kCmp1, kIsN, kNotN, kAnd, kOr, kTru, kNot, kM0, kM1b, kM1, kG1b, kG1, kG2c, kG2b, kG2, kIx2, kIx1, kSl3, kSl2, kSl1, kL2, kL1, kEx, kSet, kP2b, kP2, kP3c, kP3b, kP3, kSi3, kSi2, kSi1, kAu3, kAu2, kAx5, kAx4, kAx3, kAx2, kAx1, kRet, evOp, evCmp, evAug, bindG, bindGs, List.map_cons, List.map_nil, List.length_cons, List.length_nil, List.replicate, List.append_nil, Nat.sub_self, List.getElem?_cons_zero, List.getElem?_cons_succ, kV_ok, Out.bind_ok, kCall, Tab, Option.getD_some, hf, e, Out.sb_ok, seq_rt, fin_rt, gb, Nat.zero_add, Nat.reduceAdd, Nat.reduceSub, List.cons_append, List.nil_append]
end
end Lw
end

section
set_option Elab.async false
set_option linter.all false
set_option maxRecDepth 100000
set_option autoImplicit false
set_option maxHeartbeats 1000000
/-! M10: the roads, one after another -/
namespace Lw
open PySem L2 Ev
abbrev TT (N : Net) (nr : Nat → Bool) (y : Nat) : Nat := wsum N.U (fun _ => 1) (RR N.U nr y)
def phi (N : Net) (nr : Nat → Bool) (line : List Nat) (k : Nat) : Nat := (line.map fun y => RR N.U nr y k).sum
def mu (N : Net) (nr : Nat → Bool) (line : List Nat) : Nat := (line.map fun y => 1 + TT N nr y).sum
theorem mu_len (N : Net) (nr : Nat → Bool) (line : List Nat) : line.length ≤ mu N nr line := by
  induction line with
  | nil => simp [mu]
  | cons a l ih => simp only [mu, List.map_cons, List.sum_cons, List.length_cons] at ih ⊢; omega
theorem phi_app (N : Net) (nr : Nat → Bool) (l m : List Nat) (k : Nat) : phi N nr (l ++ m) k = phi N nr l k + phi N nr m k := by simp [phi]
theorem mu_app (N : Net) (nr : Nat → Bool) (l m : List Nat) : mu N nr (l ++ m) = mu N nr l + mu N nr m := by simp [mu]
structure RSt (st s : Sto) (N : Net) (f : Nat → Nat) (line : List Nat) : Prop where
  wf : Wf s
  pre : Pre st s
  sp : s[st.length]? = some (.lst (N.sp.map spotD))
  fd : ∃ kvs, s[st.length + 1]? = some (.dct kvs) ∧ Row kvs f
  ln : s[st.length + 2]? = some (.lst (line.map natD))
  out : ∀ k, N.sp.length ≤ k → f k = 0
  low : ∀ y ∈ line, y < N.nodes.length
section
variable {st : Sto}
theorem ix_grade (a n x : Bool) (g : Nat) (m : Nd) (hu : m.ins ≠ []) (h : st[g]? = some (grO a n x)) : ∃ d, evIx (.ref g) (.str m.word) st = .ok d st ∧ evEq d (.str "near") st = .ok (.bl (m.near a n x)) st := by
  have s1 : PyData.strOk ("near" : Str) = true := by decide +kernel
  cases m with
  | bin b y z => cases b <;> cases a <;> cases x <;> exact ⟨_, by simp [evIx, dictAt, h, grO, lookK, Nd.word, List.find?]; rfl, by simp [gs, evEq, eqD, Nd.near]⟩
  | neg y => cases n <;> exact ⟨_, by simp [evIx, dictAt, h, grO, lookK, Nd.word, List.find?]; rfl, by simp [gs, evEq, eqD, Nd.near]⟩
  | par y => exact absurd rfl hu
  | kept => exact absurd rfl hu
  | bit y => exact absurd rfl hu
/-- a use met -/
theorem road_use {s : Sto} {N : Net} {a n x : Bool} {g i v : Nat} {q : Str × List Nat} {f : Nat → Nat} {line : List Nat} {x8 : Option D} (R : RSt st s N f line) (hg : st[g]? = some (grO a n x)) (hi : i < N.sp.length) (h63 : N.sp.length < 64) (hq : N.sp[i]? = some q) (hv : v ∈ q.2) (hln : line.length < 1000000) :
    ∃ s' line', evSL T__law_roads (.cons (.ife (.cmp .eq (.v 9) (.v 2)) (.cons (.setIx (.v 4) (.v 6) (.op .add (.get2 (.v 4) (.v 6) (.k (.int 0))) (.k (.int 1)))) (.cons (.ife (.and (.cmp .lt (.v 6) (.bi .len (.ix (.v 0) (.k (.int 3))))) (.cmp .eq (.ix (.v 1) (.v 7)) (.k (.str "near")))) (.cons (.ex (.mth1 .append (.v 5) (.v 6))) (.nil)) (.nil)) (.nil))) (.nil)) (.nil)) [some N.d, some (.ref g), some (natD v), some (.ref st.length), some (.ref (st.length + 1)), some (.ref (st.length + 2)), some (natD i), some (.str q.1), x8, some (natD v)] s = .nx [some N.d, some (.ref g), some (natD v), some (.ref st.length), some (.ref (st.length + 1)), some (.ref (st.length + 2)), some (natD i), some (.str q.1), x8, some (natD v)] s' ∧
      RSt st s' N (fun k => f k + if k = i then 1 else 0) line' ∧ line' = line ++ (if N.near a n x i then [i] else []) := by
  obtain ⟨kvs, h1, Rf⟩ := R.fd
  have hl := Rf.len R.out
  have Rf' : Row (putD kvs (.inl (i : Int)) (natD (f i + 1))) (fun k => f k + if k = i then 1 else 0) := Rf.put (by omega) (by simp) (fun j hj => by simp [hj])
  have e0 : evEq (natD v) (natD v) s = .ok (.bl true) s := by simp [evEq, eqD, natD]
  have hls : kvs.length < SZ := Nat.lt_of_le_of_lt hl (by simp [SZ]; omega)
  let s1 := s.set (st.length + 1) (.dct (putD kvs (.inl (i : Int)) (natD (f i + 1))))
  have l1 := lt_of_at h1
  have l2 := lt_of_at R.ln
  have R1 : RSt st s1 N (fun k => f k + if k = i then 1 else 0) line := ⟨R.wf.set (Rf'.closed _), R.pre.set (by omega), by rw [List.getElem?_set_ne (by omega)]; exact R.sp, ⟨_, List.getElem?_set_self l1, Rf'⟩, by rw [List.getElem?_set_ne (by omega)]; exact R.ln, fun k hk => by
    have := R.out k hk
    have h2 : ¬ k = i := by omega
    simp [this, h2], R.low⟩
  have hlen : kBi .len s1.length (.tup (N.nodes.map Nd.d)) s1 = .ok (.int N.nodes.length) s1 := bi_len 0 _ _ R1.wf (by simp [biLen])
  have hlen : kBi .len s.length (.tup (N.nodes.map Nd.d)) s1 = .ok (.int N.nodes.length) s1 := by
    rw [show s1.length = s.length from List.length_set ..] at hlen
    exact hlen
  have hset := set_row (i := i) (c := f i + 1) h1 hls
  by_cases hV : i < N.nodes.length
  · obtain ⟨m, hm⟩ : ∃ m, N.nodes[i]? = some m := ⟨_, List.getElem?_eq_getElem hV⟩
    have hqm : q = (m.word, m.ins) := by
      have : N.sp[i]? = some (m.word, m.ins) := by
        unfold Net.sp
        rw [List.append_assoc, List.getElem?_append_left (by simpa using hV), List.getElem?_map, hm]
        rfl
      rw [hq] at this
      exact Option.some.inj this
    subst hqm
    have hins : m.ins ≠ [] := fun e => by rw [e] at hv; cases hv
    obtain ⟨d, d1, d2⟩ := ix_grade (st := s1) a n x g m hins (R1.pre.get hg)
    have e1 : evLt (natD i) (.int N.nodes.length) s1 = .ok (.bl true) s1 := by
      have : ((i : Int) < (N.nodes.length : Int)) := by omega
      simp only [evLt, natD, decide_eq_true this]
    have en : N.near a n x i = m.near a n x := by simp [Net.near, hm]
    have hIsL : isL s1 (.ref (st.length + 2)) = true := by simp [isL, R1.ln]
    cases hb : m.near a n x with
    | true =>
      rw [hb] at d2
      have happ : evMth1 .append (.ref (st.length + 2)) (natD i) s1 = .ok .non (s1.set (st.length + 2) (.lst (line.map natD ++ [natD i]))) := by
        simp only [evMth1, R1.ln, List.length_map]
        rw [if_pos (by simp [SZ]; omega)]
      refine ⟨s1.set (st.length + 2) (.lst (line.map natD ++ [natD i])), line ++ [i], ?_, ⟨R1.wf.set (by
        have := closed_nats (List.length s1) (line ++ [i])
        simpa [closedO] using this), R1.pre.set (by omega), by rw [List.getElem?_set_ne (by omega)]; exact R1.sp, by
        obtain ⟨k2, b1, b2⟩ := R1.fd
        exact ⟨k2, by rw [List.getElem?_set_ne (by omega)]; exact b1, b2⟩, by rw [List.getElem?_set_self (lt_of_at R1.ln)]; simp, R1.out, fun y hy => ?_⟩, by rw [en, hb]; rfl⟩
      · simp [sl_cons, sl_nil, q_ex, q_set, q_p2, q_p3, q_si, q_au, q_ax, q_if, q_for, q_ret, q_retN, q_pass, q_raise, e_v, e_k, e_tup, e_lst, e_dct, e_op, e_cmp, e_isN, e_notN, e_and, e_or, e_not, e_ifx, e_call, e_bi, e_m0, e_m1, e_g1, e_g2, e_ix, e_sl, l_nil, l_cons, o_no, o_so, t_t, c_no, c_so, kTup, kLst, kOp2, kOp1, kCmp2, kCmp1, kIsN, kNotN, kAnd, kOr, kTru, kNot, kM0, kM1b, kM1, kG1b, kG1, kG2c, kG2b, kG2, kIx2, kIx1, kSl3, kSl2, kSl1, kL2, kL1, kEx, kSet, kP2b, kP2, kP3c, kP3b, kP3, kSi3, kSi2, kSi1, kAu3, kAu2, kAx5, kAx4, kAx3, kAx2, kAx1, kRet, evOp, evCmp, evAug, bindG, bindGs, e0, truD, dc_at h1, get_row h1 Rf, add_one, hset]
        simp [sl_cons, sl_nil, q_ex, q_set, q_p2, q_p3, q_si, q_au, q_ax, q_if, q_for, q_ret, q_retN, q_pass, q_raise, e_v, e_k, e_tup, e_lst, e_dct, e_op, e_cmp, e_isN, e_notN, e_and, e_or, e_not, e_ifx, e_call, e_bi, e_m0, e_m1, e_g1, e_g2, e_ix, e_sl, l_nil, l_cons, o_no, o_so, t_t, c_no, c_so, kTup, kLst, kOp2, kOp1, kCmp2, kCmp1, kIsN, kNotN, kAnd, kOr, kTru, kNot, kM0, kM1b, kM1, kG1b, kG1, kG2c, kG2b, kG2, kIx2, kIx1, kSl3, kSl2, kSl1, kL2, kL1, kEx, kSet, kP2b, kP2, kP3c, kP3b, kP3, kSi3, kSi2, kSi1, kAu3, kAu2, kAx5, kAx4, kAx3, kAx2, kAx1, kRet, evOp, evCmp, evAug, bindG, bindGs, ↓show s.set (st.length + 1) (.dct (putD kvs (.inl (i : Int)) (natD (f i + 1)))) = s1 from rfl, net3, hlen, e1, d1, d2, truD, hIsL, happ]
      · rcases List.mem_append.mp hy with z | z
        · exact R1.low y z
        · rw [List.mem_singleton.mp z]; exact hV
    | false =>
      rw [hb] at d2
      refine ⟨s1, line, ?_, R1, by rw [en, hb]; simp⟩
      simp [sl_cons, sl_nil, q_ex, q_set, q_p2, q_p3, q_si, q_au, q_ax, q_if, q_for, q_ret, q_retN, q_pass, q_raise, e_v, e_k, e_tup, e_lst, e_dct, e_op, e_cmp, e_isN, e_notN, e_and, e_or, e_not, e_ifx, e_call, e_bi, e_m0, e_m1, e_g1, e_g2, e_ix, e_sl, l_nil, l_cons, o_no, o_so, t_t, c_no, c_so, kTup, kLst, kOp2, kOp1, kCmp2, kCmp1, kIsN, kNotN, kAnd, kOr, kTru, kNot, kM0, kM1b, kM1, kG1b, kG1, kG2c, kG2b, kG2, kIx2, kIx1, kSl3, kSl2, kSl1, kL2, kL1, kEx, kSet, kP2b, kP2, kP3c, kP3b, kP3, kSi3, kSi2, kSi1, kAu3, kAu2, kAx5, kAx4, kAx3, kAx2, kAx1, kRet, evOp, evCmp, evAug, bindG, bindGs, e0, truD, dc_at h1, get_row h1 Rf, add_one, hset]
      simp [sl_cons, sl_nil, q_ex, q_set, q_p2, q_p3, q_si, q_au, q_ax, q_if, q_for, q_ret, q_retN, q_pass, q_raise, e_v, e_k, e_tup, e_lst, e_dct, e_op, e_cmp, e_isN, e_notN, e_and, e_or, e_not, e_ifx, e_call, e_bi, e_m0, e_m1, e_g1, e_g2, e_ix, e_sl, l_nil, l_cons, o_no, o_so, t_t, c_no, c_so, kTup, kLst, kOp2, kOp1, kCmp2, kCmp1, kIsN, kNotN, kAnd, kOr, kTru, kNot, kM0, kM1b, kM1, kG1b, kG1, kG2c, kG2b, kG2, kIx2, kIx1, kSl3, kSl2, kSl1, kL2, kL1, kEx, kSet, kP2b, kP2, kP3c, kP3b, kP3, kSi3, kSi2, kSi1, kAu3, kAu2, kAx5, kAx4, kAx3, kAx2, kAx1, kRet, evOp, evCmp, evAug, bindG, bindGs, ↓show s.set (st.length + 1) (.dct (putD kvs (.inl (i : Int)) (natD (f i + 1)))) = s1 from rfl, net3, hlen, e1, d1, d2, truD]
  · have e1 : evLt (natD i) (.int N.nodes.length) s1 = .ok (.bl false) s1 := by
      have : ¬ ((i : Int) < (N.nodes.length : Int)) := by omega
      simp only [evLt, natD, decide_eq_false this]
    have en : N.near a n x i = false := by simp [Net.near, List.getElem?_eq_none (Nat.le_of_not_lt hV)]
    refine ⟨s1, line, ?_, R1, by rw [en]; simp⟩
    simp [sl_cons, sl_nil, q_ex, q_set, q_p2, q_p3, q_si, q_au, q_ax, q_if, q_for, q_ret, q_retN, q_pass, q_raise, e_v, e_k, e_tup, e_lst, e_dct, e_op, e_cmp, e_isN, e_notN, e_and, e_or, e_not, e_ifx, e_call, e_bi, e_m0, e_m1, e_g1, e_g2, e_ix, e_sl, l_nil, l_cons, o_no, o_so, t_t, c_no, c_so, kTup, kLst, kOp2, kOp1, kCmp2, kCmp1, kIsN, kNotN, kAnd, kOr, kTru, kNot, kM0, kM1b, kM1, kG1b, kG1, kG2c, kG2b, kG2, kIx2, kIx1, kSl3, kSl2, kSl1, kL2, kL1, kEx, kSet, kP2b, kP2, kP3c, kP3b, kP3, kSi3, kSi2, kSi1, kAu3, kAu2, kAx5, kAx4, kAx3, kAx2, kAx1, kRet, evOp, evCmp, evAug, bindG, bindGs, e0, truD, dc_at h1, get_row h1 Rf, add_one, hset]
    simp [sl_cons, sl_nil, q_ex, q_set, q_p2, q_p3, q_si, q_au, q_ax, q_if, q_for, q_ret, q_retN, q_pass, q_raise, e_v, e_k, e_tup, e_lst, e_dct, e_op, e_cmp, e_isN, e_notN, e_and, e_or, e_not, e_ifx, e_call, e_bi, e_m0, e_m1, e_g1, e_g2, e_ix, e_sl, l_nil, l_cons, o_no, o_so, t_t, c_no, c_so, kTup, kLst, kOp2, kOp1, kCmp2, kCmp1, kIsN, kNotN, kAnd, kOr, kTru, kNot, kM0, kM1b, kM1, kG1b, kG1, kG2c, kG2b, kG2, kIx2, kIx1, kSl3, kSl2, kSl1, kL2, kL1, kEx, kSet, kP2b, kP2, kP3c, kP3b, kP3, kSi3, kSi2, kSi1, kAu3, kAu2, kAx5, kAx4, kAx3, kAx2, kAx1, kRet, evOp, evCmp, evAug, bindG, bindGs, ↓show s.set (st.length + 1) (.dct (putD kvs (.inl (i : Int)) (natD (f i + 1)))) = s1 from rfl, net3, hlen, e1, truD]
theorem road_no {s : Sto} {F : Fns} {env : En} {u v : Nat} (h9 : env[9]? = some (some (natD u))) (h2 : env[2]? = some (some (natD v))) (h : u ≠ v) : evSL F (.cons (.ife (.cmp .eq (.v 9) (.v 2)) (.cons (.setIx (.v 4) (.v 6) (.op .add (.get2 (.v 4) (.v 6) (.k (.int 0))) (.k (.int 1)))) (.cons (.ife (.and (.cmp .lt (.v 6) (.bi .len (.ix (.v 0) (.k (.int 3))))) (.cmp .eq (.ix (.v 1) (.v 7)) (.k (.str "near")))) (.cons (.ex (.mth1 .append (.v 5) (.v 6))) (.nil)) (.nil)) (.nil))) (.nil)) (.nil)) env s = .nx env s := by
  have e0 : evEq (natD u) (natD v) s = .ok (.bl false) s := by
    have : ¬ ((u : Int) = (v : Int)) := by omega
    simp [evEq, eqD, natD, this]
  simp [sl_cons, sl_nil, q_ex, q_set, q_p2, q_p3, q_si, q_au, q_ax, q_if, q_for, q_ret, q_retN, q_pass, q_raise, e_v, e_k, e_tup, e_lst, e_dct, e_op, e_cmp, e_isN, e_notN, e_and, e_or, e_not, e_ifx, e_call, e_bi, e_m0, e_m1, e_g1, e_g2, e_ix, e_sl, l_nil, l_cons, o_no, o_so, t_t, c_no, c_so, kTup, kLst, kOp2, kOp1, kCmp2, kCmp1, kIsN, kNotN, kAnd, kOr, kTru, kNot, kM0, kM1b, kM1, kG1b, kG1, kG2c, kG2b, kG2, kIx2, kIx1, kSl3, kSl2, kSl1, kL2, kL1, kEx, kSet, kP2b, kP2, kP3c, kP3b, kP3, kSi3, kSi2, kSi1, kAu3, kAu2, kAx5, kAx4, kAx3, kAx2, kAx1, kRet, evOp, evCmp, evAug, bindG, bindGs, h9, h2, e0, truD]

theorem phi_one (N : Net) (nr : Nat → Bool) (i k : Nat) : phi N nr [i] k = RR N.U nr i k := by simp [phi]
theorem mu_one (N : Net) (nr : Nat → Bool) (i : Nat) : mu N nr [i] = 1 + TT N nr i := by simp [mu]
theorem road_uses {s : Sto} {N : Net} {a n x : Bool} {g i v : Nat} {q : Str × List Nat} {f : Nat → Nat} {line : List Nat} {x9 : Option D} (R : RSt st s N f line) (hg : st[g]? = some (grO a n x)) (hi : i < N.sp.length) (h63 : N.sp.length < 64) (hq : N.sp[i]? = some q)
    (hm : mu N (N.near a n x) line + q.2.count v * (1 + if N.near a n x i then TT N (N.near a n x) i else 0) < 1000000) :
    ∃ s' f' line' x9', forF T__law_roads (.n 9) (.cons (.ife (.cmp .eq (.v 9) (.v 2)) (.cons (.setIx (.v 4) (.v 6) (.op .add (.get2 (.v 4) (.v 6) (.k (.int 0))) (.k (.int 1)))) (.cons (.ife (.and (.cmp .lt (.v 6) (.bi .len (.ix (.v 0) (.k (.int 3))))) (.cmp .eq (.ix (.v 1) (.v 7)) (.k (.str "near")))) (.cons (.ex (.mth1 .append (.v 5) (.v 6))) (.nil)) (.nil)) (.nil))) (.nil)) (.nil)) .free (q.2.map natD) [some N.d, some (.ref g), some (natD v), some (.ref st.length), some (.ref (st.length + 1)), some (.ref (st.length + 2)), some (natD i), some (.str q.1), some (natsD q.2), x9] s =
      .nx [some N.d, some (.ref g), some (natD v), some (.ref st.length), some (.ref (st.length + 1)), some (.ref (st.length + 2)), some (natD i), some (.str q.1), some (natsD q.2), x9'] s' ∧
      RSt st s' N f' line' ∧ (∀ k, f' k + phi N (N.near a n x) line' k = f k + phi N (N.near a n x) line k + q.2.count v * ((if k = i then 1 else 0) + (if N.near a n x i then RR N.U (N.near a n x) i k else 0))) ∧
      mu N (N.near a n x) line' ≤ mu N (N.near a n x) line + q.2.count v * (1 + if N.near a n x i then TT N (N.near a n x) i else 0) := by
  obtain ⟨env', s', e1, f', line', x9', rfl, R', p', m'⟩ := forL_inv (bind := bindG (.n 9)) (body := fun env st => evSL T__law_roads (.cons (.ife (.cmp .eq (.v 9) (.v 2)) (.cons (.setIx (.v 4) (.v 6) (.op .add (.get2 (.v 4) (.v 6) (.k (.int 0))) (.k (.int 1)))) (.cons (.ife (.and (.cmp .lt (.v 6) (.bi .len (.ix (.v 0) (.k (.int 3))))) (.cmp .eq (.ix (.v 1) (.v 7)) (.k (.str "near")))) (.cons (.ex (.mth1 .append (.v 5) (.v 6))) (.nil)) (.nil)) (.nil))) (.nil)) (.nil)) env st) (chk := Chk.free.ok)
    (fun t env s1 => ∃ f1 line1 x9, env = [some N.d, some (.ref g), some (natD v), some (.ref st.length), some (.ref (st.length + 1)), some (.ref (st.length + 2)), some (natD i), some (.str q.1), some (natsD q.2), x9] ∧ RSt st s1 N f1 line1 ∧
      (∀ k, f1 k + phi N (N.near a n x) line1 k = f k + phi N (N.near a n x) line k + (q.2.take t).count v * ((if k = i then 1 else 0) + (if N.near a n x i then RR N.U (N.near a n x) i k else 0))) ∧
      mu N (N.near a n x) line1 ≤ mu N (N.near a n x) line + (q.2.take t).count v * (1 + if N.near a n x i then TT N (N.near a n x) i else 0))
    (xs := q.2.map natD) (fun _ _ _ _ => rfl)
    (fun t env s1 y h hy => by
      obtain ⟨f1, line1, x9, rfl, R1, p1, m1⟩ := h
      rw [List.getElem?_map] at hy
      cases hu : q.2[t]? with
      | none => rw [hu] at hy; cases hy
      | some u =>
        rw [hu] at hy
        cases hy
        have tk : q.2.take (t + 1) = q.2.take t ++ [u] := by
          rw [List.take_succ, hu]
          rfl
        by_cases e : u = v
        · subst e
          have hc : (q.2.take t).count u ≤ q.2.count u := (List.take_sublist t q.2).count_le u
          have hc2 := Nat.mul_le_mul_right (1 + if N.near a n x i then TT N (N.near a n x) i else 0) hc
          have hll := mu_len N (N.near a n x) line1
          obtain ⟨s2, line2, c1, R2, rfl⟩ := road_use (x8 := some (natsD q.2)) R1 hg hi h63 hq (List.mem_of_getElem? hu) (by omega)
          refine ⟨[some N.d, some (.ref g), some (natD u), some (.ref st.length), some (.ref (st.length + 1)), some (.ref (st.length + 2)), some (natD i), some (.str q.1), some (natsD q.2), some (natD u)], _, s2, rfl, .inl c1, _, _, _, rfl, R2, fun k => ?_, ?_⟩
          · have := p1 k
            rw [tk, List.count_append, List.count_singleton_self, Nat.add_mul, Nat.one_mul, phi_app]
            cases hn : N.near a n x i with
            | true =>
              rw [if_pos rfl, if_pos rfl, phi_one]
              rw [hn] at this
              simp only [if_true] at this ⊢
              omega
            | false =>
              rw [hn] at this
              simp only [Bool.false_eq_true, if_false, Nat.add_zero, phi, List.map_nil, List.sum_nil] at this ⊢
              omega
          · rw [tk, List.count_append, List.count_singleton_self, Nat.add_mul, Nat.one_mul, mu_app]
            cases hn : N.near a n x i with
            | true =>
              rw [if_pos rfl, if_pos rfl, mu_one]
              rw [hn] at m1
              simp only [if_true] at m1 ⊢
              omega
            | false =>
              rw [hn] at m1
              simp only [Bool.false_eq_true, if_false, Nat.add_zero, mu, List.map_nil, List.sum_nil] at m1 ⊢
              omega
        · refine ⟨[some N.d, some (.ref g), some (natD v), some (.ref st.length), some (.ref (st.length + 1)), some (.ref (st.length + 2)), some (natD i), some (.str q.1), some (natsD q.2), some (natD u)], _, s1, rfl, .inl (road_no (u := u) (v := v) rfl rfl e), f1, line1, _, rfl, R1, fun k => ?_, ?_⟩
          · rw [tk, List.count_append, List.count_singleton, beq_false_of_ne e]
            exact p1 k
          · rw [tk, List.count_append, List.count_singleton, beq_false_of_ne e]
            exact m1)
    (env := [some N.d, some (.ref g), some (natD v), some (.ref st.length), some (.ref (st.length + 1)), some (.ref (st.length + 2)), some (natD i), some (.str q.1), some (natsD q.2), x9]) (st := s) ⟨f, line, x9, rfl, R, fun k => by simp, by simp⟩
  rw [List.length_map, List.take_length] at p' m'
  exact ⟨s', f', line', x9', e1, R', p', m'⟩
theorem road_nums {s : Sto} {N : Net} {a n x : Bool} {g v : Nat} {f : Nat → Nat} {line : List Nat} {x6 x7 x8 x9 : Option D} (R : RSt st s N f line) (hg : st[g]? = some (grO a n x)) (h63 : N.sp.length < 64) (G : Good N.U (N.near a n x) N.nodes.length)
    (hm : mu N (N.near a n x) line + TT N (N.near a n x) v < 1000000) :
    ∃ s' f' line' x6' x7' x8' x9', forF T__law_roads (.t (.cons (.n 6) (.cons (.t (.cons (.n 7) (.cons (.n 8) (.nil)))) (.nil)))) (.cons (.forI (.n 9) (.of (.v 8)) (.cons (.ife (.cmp .eq (.v 9) (.v 2)) (.cons (.setIx (.v 4) (.v 6) (.op .add (.get2 (.v 4) (.v 6) (.k (.int 0))) (.k (.int 1)))) (.cons (.ife (.and (.cmp .lt (.v 6) (.bi .len (.ix (.v 0) (.k (.int 3))))) (.cmp .eq (.ix (.v 1) (.v 7)) (.k (.str "near")))) (.cons (.ex (.mth1 .append (.v 5) (.v 6))) (.nil)) (.nil)) (.nil))) (.nil)) (.nil))) (.nil)) (.at_ st.length (.lst (N.sp.map spotD))) (enumL (N.sp.map spotD)) [some N.d, some (.ref g), some (natD v), some (.ref st.length), some (.ref (st.length + 1)), some (.ref (st.length + 2)), x6, x7, x8, x9] s =
      .nx [some N.d, some (.ref g), some (natD v), some (.ref st.length), some (.ref (st.length + 1)), some (.ref (st.length + 2)), x6', x7', x8', x9'] s' ∧
      RSt st s' N f' line' ∧ (∀ k, f' k + phi N (N.near a n x) line' k = f k + phi N (N.near a n x) line k + RR N.U (N.near a n x) v k) ∧
      mu N (N.near a n x) line' ≤ mu N (N.near a n x) line + TT N (N.near a n x) v := by
  let c : Nat → Nat → Nat := fun k i => (N.U.getD i []).count v * ((if k = i then 1 else 0) + (if N.near a n x i then RR N.U (N.near a n x) i k else 0))
  let d : Nat → Nat := fun i => (N.U.getD i []).count v * (1 + if N.near a n x i then TT N (N.near a n x) i else 0)
  have hUl := U_len N
  have hT : sumTo d N.sp.length = TT N (N.near a n x) v := by
    have := wsum_RR G (fun _ => 1) v
    rw [hUl] at this
    exact this.symm
  have hd : ∀ j, j ≤ N.sp.length → sumTo d j ≤ sumTo d N.sp.length := fun j hj => by
    have mono : ∀ m, sumTo d j ≤ sumTo d (j + m) := fun m => by
      induction m with
      | zero => exact Nat.le_refl _
      | succ m ih => rw [← Nat.add_assoc, sumTo]; omega
    have := mono (N.sp.length - j)
    rwa [show j + (N.sp.length - j) = N.sp.length from by omega] at this
  obtain ⟨env', s', e1, f', line', x6', x7', x8', x9', rfl, R', p', m'⟩ := forL_inv (bind := bindG (.t (.cons (.n 6) (.cons (.t (.cons (.n 7) (.cons (.n 8) (.nil)))) (.nil))))) (body := fun env st => evSL T__law_roads (.cons (.forI (.n 9) (.of (.v 8)) (.cons (.ife (.cmp .eq (.v 9) (.v 2)) (.cons (.setIx (.v 4) (.v 6) (.op .add (.get2 (.v 4) (.v 6) (.k (.int 0))) (.k (.int 1)))) (.cons (.ife (.and (.cmp .lt (.v 6) (.bi .len (.ix (.v 0) (.k (.int 3))))) (.cmp .eq (.ix (.v 1) (.v 7)) (.k (.str "near")))) (.cons (.ex (.mth1 .append (.v 5) (.v 6))) (.nil)) (.nil)) (.nil))) (.nil)) (.nil))) (.nil)) env st) (chk := (Chk.at_ st.length (.lst (N.sp.map spotD))).ok)
    (fun j env s1 => ∃ f1 line1 x6 x7 x8 x9, env = [some N.d, some (.ref g), some (natD v), some (.ref st.length), some (.ref (st.length + 1)), some (.ref (st.length + 2)), x6, x7, x8, x9] ∧ RSt st s1 N f1 line1 ∧
      (∀ k, f1 k + phi N (N.near a n x) line1 k = f k + phi N (N.near a n x) line k + sumTo (c k) j) ∧
      mu N (N.near a n x) line1 ≤ mu N (N.near a n x) line + sumTo d j)
    (xs := enumL (N.sp.map spotD)) (fun j env s1 h => by
      obtain ⟨f1, line1, x6, x7, x8, x9, rfl, R1, _⟩ := h
      exact decide_eq_true R1.sp)
    (fun j env s1 y h hy => by
      obtain ⟨f1, line1, x6, x7, x8, x9, rfl, R1, p1, m1⟩ := h
      obtain ⟨z, hz, rfl⟩ := enumL_get hy
      rw [List.getElem?_map] at hz
      cases hq : N.sp[j]? with
      | none => rw [hq] at hz; cases hz
      | some q =>
        rw [hq] at hz
        cases hz
        have hj := (List.getElem?_eq_some_iff.mp hq).1
        have hU := U_at N j q hq
        have hcd : d j = q.2.count v * (1 + if N.near a n x j then TT N (N.near a n x) j else 0) := by simp only [d, hU]
        have hcc : ∀ k, c k j = q.2.count v * ((if k = j then 1 else 0) + (if N.near a n x j then RR N.U (N.near a n x) j k else 0)) := fun k => by simp only [c, hU]
        have hb := hd (j + 1) (by omega)
        rw [sumTo, hcd] at hb
        obtain ⟨s2, f2, line2, x9', c1, R2, p2, m2⟩ := road_uses (v := v) (x9 := x9) R1 hg hj h63 hq (by omega)
        refine ⟨[some N.d, some (.ref g), some (natD v), some (.ref st.length), some (.ref (st.length + 1)), some (.ref (st.length + 2)), some (natD j), some (.str q.1), some (natsD q.2), x9], [some N.d, some (.ref g), some (natD v), some (.ref st.length), some (.ref (st.length + 1)), some (.ref (st.length + 2)), some (natD j), some (.str q.1), some (natsD q.2), x9'], s2, rfl, .inl ?_, f2, line2, _, _, _, _, rfl, R2, fun k => ?_, ?_⟩
        · simp [sl_cons, sl_nil, q_for, i_of, e_v, kWalk, walkD, natsD, kFor] at c1 ⊢
          rw [c1]
          simp [sl_nil]
        · rw [p2 k, p1 k, sumTo, hcc]
          omega
        · rw [sumTo, hcd]
          omega)
    (env := [some N.d, some (.ref g), some (natD v), some (.ref st.length), some (.ref (st.length + 1)), some (.ref (st.length + 2)), x6, x7, x8, x9]) (st := s) ⟨f, line, x6, x7, x8, x9, rfl, R, fun k => by simp [sumTo], by simp [sumTo]⟩
  rw [enumL_len, List.length_map] at p' m'
  refine ⟨s', f', line', x6', x7', x8', x9', e1, R', fun k => ?_, by rw [hT] at m'; exact m'⟩
  rw [p' k, RR_sum G v k, hUl]
end
end Lw
end

section
set_option Elab.async false
set_option linter.all false
set_option maxRecDepth 100000
set_option autoImplicit false
set_option maxHeartbeats 1000000
/-! M11: the roads, all of them -/
namespace Lw
open PySem L2 Ev
theorem whL_inv2 {c : En → Sto → Out Bool} {body : En → Sto → SO} (Inv : Nat → En → Sto → Prop) (Fin : En → Sto → Prop)
    (hs : ∀ m env st, Inv m env st → (∃ st1, c env st = .ok false st1 ∧ Fin env st1) ∨ ∃ st1 env2 st2 m', c env st = .ok true st1 ∧ body env st1 = .nx env2 st2 ∧ m' < m ∧ Inv m' env2 st2) :
    ∀ (m n : Nat) (env : En) (st : Sto), m < n → Inv m env st → ∃ env' st', whL c body n env st = .nx env' st' ∧ Fin env' st' := by
  intro m
  induction m using Nat.strongRecOn with
  | ind m ih =>
    intro n env st hn h
    cases n with
    | zero => omega
    | succ n =>
      rcases hs m env st h with ⟨st1, e, hf⟩ | ⟨st1, env2, st2, m', e1, e2, hm, h2⟩
      · exact ⟨env, st1, by simp only [whL, e, Out.sb_ok], hf⟩
      · obtain ⟨e', s', h3, h4⟩ := ih m' hm n env2 st2 (by omega) h2
        exact ⟨e', s', by simp only [whL, e1, Out.sb_ok, e2, h3], h4⟩
theorem toP_nats (s : Sto) (n : Nat) (xs : List Nat) : (xs.map natD).mapM (toP s (n + 1)) = some (xs.map fun k : Nat => PyData.int (k : Int)) := by
  induction xs with
  | nil => rfl
  | cons x xs ih => simp [List.mapM_cons, ih, natD, toP]
section
variable {st : Sto}
theorem ne_nil {s : Sto} {r : Nat} {line : List Nat} (h : s[r]? = some (.lst (line.map natD))) : evNe (.ref r) (.ref s.length) (s ++ [.lst []]) = .ok (.bl (!line.isEmpty)) (s ++ [.lst []]) := by
  have h1 : toP (s ++ [.lst []]) 64 (.ref r) = some (.list (line.map fun k : Nat => PyData.int (k : Int))) := by
    rw [show (64 : Nat) = 63 + 1 from rfl]
    simp only [toP, app_low h]
    rw [show (63 : Nat) = 62 + 1 from rfl, toP_nats]
    rfl
  have h2 : toP (s ++ [.lst []]) 64 (.ref s.length) = some (.list []) := by
    rw [show (64 : Nat) = 63 + 1 from rfl]
    simp only [toP, app_at]
    rfl
  have e : eqD (s ++ [.lst []]) (.ref r) (.ref s.length) = some line.isEmpty := by
    unfold eqD
    simp only [h1, h2]
    cases line <;> rfl
  simp only [evNe, e]
theorem RSt.junk {s : Sto} {N : Net} {f : Nat → Nat} {line : List Nat} (R : RSt st s N f line) : RSt st (s ++ [.lst []]) N f line := ⟨R.wf.app rfl, R.pre.app, app_low R.sp, by
  obtain ⟨k, h1, h2⟩ := R.fd
  exact ⟨k, app_low h1, h2⟩, app_low R.ln, R.out, R.low⟩
theorem roads_ok {N : Net} {a n x : Bool} {g v0 : Nat} (w : Wf st) (hg : st[g]? = some (grO a n x)) (hN : N.nodes.length ≤ 8) (hT : N.told.length ≤ 2) (G : Good N.U (N.near a n x) N.nodes.length) (hv : v0 < N.nodes.length) :
    ∃ kvs, f__law_roads [N.d, .ref g, natD v0] st = .ok (.ref st.length) (st ++ [.dct kvs]) ∧ Row kvs (RR N.U (N.near a n x) v0) := by
  have hsp := sp_len N
  have hUl := U_len N
  have hs := lspots_ok N w (by omega) (by omega)
  have hM : ∀ v, 1 + TT N (N.near a n x) v ≤ 177147 := fun v => by
    have h1 := DP_bound G N.U.length (Nat.le_refl _) v
    have h2 : 3 ^ N.U.length ≤ 3 ^ 11 := Nat.pow_le_pow_right (by decide) (by omega)
    have h3 : (3 : Nat) ^ 11 = 177147 := by decide
    have h4 : TT N (N.near a n x) v = wsum N.U (fun _ => 1) (DP N.U (N.near a n x) N.U.length v) := rfl
    omega
  have w1 : Wf (st ++ [.lst (N.sp.map spotD), .dct [], .lst [natD v0]]) := w.app (by
    have := closed_nats (st.length + 3) [v0]
    simp [closedO, closed_spots, closeds] at this ⊢
    exact this)
  obtain ⟨env', s', e1, f', x2, x6, x7, x8, x9, rfl, R', p'⟩ := whL_inv2 (c := fun env st => evT T__law_roads (.cmp .ne (.v 5) (.lst (.nil))) env st) (body := fun env st => evSL T__law_roads (.cons (.set (.n 2) (.mth0 .pop (.v 5))) (.cons (.forI (.t (.cons (.n 6) (.cons (.t (.cons (.n 7) (.cons (.n 8) (.nil)))) (.nil)))) (.en (.v 3)) (.cons (.forI (.n 9) (.of (.v 8)) (.cons (.ife (.cmp .eq (.v 9) (.v 2)) (.cons (.setIx (.v 4) (.v 6) (.op .add (.get2 (.v 4) (.v 6) (.k (.int 0))) (.k (.int 1)))) (.cons (.ife (.and (.cmp .lt (.v 6) (.bi .len (.ix (.v 0) (.k (.int 3))))) (.cmp .eq (.ix (.v 1) (.v 7)) (.k (.str "near")))) (.cons (.ex (.mth1 .append (.v 5) (.v 6))) (.nil)) (.nil)) (.nil))) (.nil)) (.nil))) (.nil))) (.nil))) env st)
    (fun m env s => ∃ f line x2 x6 x7 x8 x9, env = [some N.d, some (.ref g), x2, some (.ref st.length), some (.ref (st.length + 1)), some (.ref (st.length + 2)), x6, x7, x8, x9] ∧ RSt st s N f line ∧ (∀ k, f k + phi N (N.near a n x) line k = RR N.U (N.near a n x) v0 k) ∧ m = mu N (N.near a n x) line ∧ m ≤ 177147)
    (fun env s => ∃ f x2 x6 x7 x8 x9, env = [some N.d, some (.ref g), x2, some (.ref st.length), some (.ref (st.length + 1)), some (.ref (st.length + 2)), x6, x7, x8, x9] ∧ RSt st s N f [] ∧ (∀ k, f k = RR N.U (N.near a n x) v0 k))
    (fun m env s h => by
      obtain ⟨f, line, x2, x6, x7, x8, x9, rfl, R, p, rfl, hm⟩ := h
      have hne := ne_nil R.ln
      rcases List.eq_nil_or_concat line with rfl | ⟨rest, y, hc⟩
      · refine .inl ⟨s ++ [.lst []], ?_, f, x2, x6, x7, x8, x9, rfl, R.junk, fun k => ?_⟩
        · simp [sl_cons, sl_nil, q_ex, q_set, q_p2, q_p3, q_si, q_au, q_ax, q_if, q_for, q_ret, q_retN, q_pass, q_raise, e_v, e_k, e_tup, e_lst, e_dct, e_op, e_cmp, e_isN, e_notN, e_and, e_or, e_not, e_ifx, e_call, e_bi, e_m0, e_m1, e_g1, e_g2, e_ix, e_sl, l_nil, l_cons, o_no, o_so, t_t, c_no, c_so, kTup, kLst, kOp2, kOp1, kCmp2, kCmp1, kIsN, kNotN, kAnd, kOr, kTru, kNot, kM0, kM1b, kM1, kG1b, kG1, kG2c, kG2b, kG2, kIx2, kIx1, kSl3, kSl2, kSl1, kL2, kL1, kEx, kSet, kP2b, kP2, kP3c, kP3b, kP3, kSi3, kSi2, kSi1, kAu3, kAu2, kAx5, kAx4, kAx3, kAx2, kAx1, kRet, evOp, evCmp, evAug, bindG, bindGs, newL, SZ, hne, truD]
        · have := p k
          simpa [phi] using this
      · rw [List.concat_eq_append] at hc
        subst hc
        have RJ := R.junk
        have hlt := lt_of_at RJ.ln
        have hyV := R.low y (by simp)
        let s2 : Sto := (s ++ [MO.lst []]).set (st.length + 2) (MO.lst (rest.map natD))
        have R2 : RSt st s2 N f rest := ⟨RJ.wf.set (closed_nats _ _), RJ.pre.set (by omega), by rw [List.getElem?_set_ne (by omega)]; exact RJ.sp, by
          obtain ⟨k, h1, h2⟩ := RJ.fd
          exact ⟨k, by rw [List.getElem?_set_ne (by omega)]; exact h1, h2⟩, List.getElem?_set_self hlt, R.out, fun z hz => R.low z (by simp [hz])⟩
        have hmu : mu N (N.near a n x) (rest ++ [y]) = mu N (N.near a n x) rest + (1 + TT N (N.near a n x) y) := by rw [mu_app, mu_one]
        obtain ⟨s3, f3, line3, y6, y7, y8, y9, c1, R3, p3, m3⟩ := road_nums (v := y) (x6 := x6) (x7 := x7) (x8 := x8) (x9 := x9) R2 hg (by omega) G (by omega)
        have hpop : evMth0 .pop (.ref (st.length + 2)) (s ++ [.lst []]) = .ok (natD y) s2 := by
          simp only [evMth0, RJ.ln]
          simp [s2]
        refine .inr ⟨s ++ [.lst []], [some N.d, some (.ref g), some (natD y), some (.ref st.length), some (.ref (st.length + 1)), some (.ref (st.length + 2)), y6, y7, y8, y9], s3, mu N (N.near a n x) line3, ?_, ?_, by omega, f3, line3, _, y6, y7, y8, y9, rfl, R3, fun k => ?_, rfl, by omega⟩
        · simp [sl_cons, sl_nil, q_ex, q_set, q_p2, q_p3, q_si, q_au, q_ax, q_if, q_for, q_ret, q_retN, q_pass, q_raise, e_v, e_k, e_tup, e_lst, e_dct, e_op, e_cmp, e_isN, e_notN, e_and, e_or, e_not, e_ifx, e_call, e_bi, e_m0, e_m1, e_g1, e_g2, e_ix, e_sl, l_nil, l_cons, o_no, o_so, t_t, c_no, c_so, kTup, kLst, kOp2, kOp1, kCmp2, kCmp1, kIsN, kNotN, kAnd, kOr, kTru, kNot, kM0, kM1b, kM1, kG1b, kG1, kG2c, kG2b, kG2, kIx2, kIx1, kSl3, kSl2, kSl1, kL2, kL1, kEx, kSet, kP2b, kP2, kP3c, kP3b, kP3, kSi3, kSi2, kSi1, kAu3, kAu2, kAx5, kAx4, kAx3, kAx2, kAx1, kRet, evOp, evCmp, evAug, bindG, bindGs, newL, SZ, hne, truD]
        · have hwk : walkD (.ref st.length) s2 = some (N.sp.map spotD, .at_ st.length (.lst (N.sp.map spotD))) := by simp only [walkD, R2.sp]
          simp [sl_cons, sl_nil, q_ex, q_set, q_p2, q_p3, q_si, q_au, q_ax, q_if, q_for, q_ret, q_retN, q_pass, q_raise, e_v, e_k, e_tup, e_lst, e_dct, e_op, e_cmp, e_isN, e_notN, e_and, e_or, e_not, e_ifx, e_call, e_bi, e_m0, e_m1, e_g1, e_g2, e_ix, e_sl, l_nil, l_cons, o_no, o_so, t_t, c_no, c_so, kTup, kLst, kOp2, kOp1, kCmp2, kCmp1, kIsN, kNotN, kAnd, kOr, kTru, kNot, kM0, kM1b, kM1, kG1b, kG1, kG2c, kG2b, kG2, kIx2, kIx1, kSl3, kSl2, kSl1, kL2, kL1, kEx, kSet, kP2b, kP2, kP3c, kP3b, kP3, kSi3, kSi2, kSi1, kAu3, kAu2, kAx5, kAx4, kAx3, kAx2, kAx1, kRet, evOp, evCmp, evAug, bindG, bindGs, hpop, i_en, kEn, hwk, kFor]
          rw [c1]
          simp [sl_nil]
        · have h1 := p k
          have h2 := p3 k
          rw [phi_app, phi_one] at h1
          omega)
    (mu N (N.near a n x) [v0]) TURNS [some N.d, some (.ref g), some (natD v0), some (.ref st.length), some (.ref (st.length + 1)), some (.ref (st.length + 2)), none, none, none, none] (st ++ [.lst (N.sp.map spotD), .dct [], .lst [natD v0]])
    (by rw [mu_one]; have := hM v0; unfold TURNS; omega)
    ⟨fun _ => 0, [v0], _, none, none, none, none, rfl, ⟨w1, Pre.refl.app, app_at _ _ _, ⟨[], app_at1 _ _ _ _, Row.nil⟩, app_at2 _ _ _ _ _, fun _ _ => rfl, fun y hy => by rw [List.mem_singleton.mp hy]; exact hv⟩, fun k => by rw [phi_one]; simp, rfl, by rw [mu_one]; exact hM v0⟩
  obtain ⟨kvs, h1, h2⟩ := R'.fd
  refine ⟨kvs, ?_, by
    have : f' = RR N.U (N.near a n x) v0 := funext p'
    rw [← this]; exact h2⟩
  unfold f__law_roads c__law_roads
  rw [evF_fin]
  have q : whF T__law_roads (.cmp .ne (.v 5) (.lst (.nil))) (.cons (.set (.n 2) (.mth0 .pop (.v 5))) (.cons (.forI (.t (.cons (.n 6) (.cons (.t (.cons (.n 7) (.cons (.n 8) (.nil)))) (.nil)))) (.en (.v 3)) (.cons (.forI (.n 9) (.of (.v 8)) (.cons (.ife (.cmp .eq (.v 9) (.v 2)) (.cons (.setIx (.v 4) (.v 6) (.op .add (.get2 (.v 4) (.v 6) (.k (.int 0))) (.k (.int 1)))) (.cons (.ife (.and (.cmp .lt (.v 6) (.bi .len (.ix (.v 0) (.k (.int 3))))) (.cmp .eq (.ix (.v 1) (.v 7)) (.k (.str "near")))) (.cons (.ex (.mth1 .append (.v 5) (.v 6))) (.nil)) (.nil)) (.nil))) (.nil)) (.nil))) (.nil))) (.nil))) TURNS [some N.d, some (.ref g), some (natD v0), some (.ref st.length), some (.ref (st.length + 1)), some (.ref (st.length + 2)), none, none, none, none] (st ++ [.lst (N.sp.map spotD), .dct [], .lst [natD v0]]) = _ := e1
  simp [sl_cons, sl_nil, q_ex, q_set, q_p2, q_p3, q_si, q_au, q_ax, q_if, q_for, q_ret, q_retN, q_pass, q_raise, e_v, e_k, e_tup, e_lst, e_dct, e_op, e_cmp, e_isN, e_notN, e_and, e_or, e_not, e_ifx, e_call, e_bi, e_m0, e_m1, e_g1, e_g2, e_ix, e_sl, l_nil, l_cons, o_no, o_so, t_t, c_no, c_so, kTup, kLst, kOp2, kOp1, kCmp2, kCmp1, kIsN, kNotN, kAnd, kOr, kTru, kNot, kM0, kM1b, kM1, kG1b, kG1, kG2c, kG2b, kG2, kIx2, kIx1, kSl3, kSl2, kSl1, kL2, kL1, kEx, kSet, kP2b, kP2, kP3c, kP3b, kP3, kSi3, kSi2, kSi1, kAu3, kAu2, kAx5, kAx4, kAx3, kAx2, kAx1, kRet, evOp, evCmp, evAug, bindG, bindGs, kCall, Tab, hs, kDct, newL, SZ, q_wh]
  rw [q]
  simp [sl_cons, sl_nil, q_ex, q_set, q_p2, q_p3, q_si, q_au, q_ax, q_if, q_for, q_ret, q_retN, q_pass, q_raise, e_v, e_k, e_tup, e_lst, e_dct, e_op, e_cmp, e_isN, e_notN, e_and, e_or, e_not, e_ifx, e_call, e_bi, e_m0, e_m1, e_g1, e_g2, e_ix, e_sl, l_nil, l_cons, o_no, o_so, t_t, c_no, c_so, kTup, kLst, kOp2, kOp1, kCmp2, kCmp1, kIsN, kNotN, kAnd, kOr, kTru, kNot, kM0, kM1b, kM1, kG1b, kG1, kG2c, kG2b, kG2, kIx2, kIx1, kSl3, kSl2, kSl1, kL2, kL1, kEx, kSet, kP2b, kP2, kP3c, kP3b, kP3, kSi3, kSi2, kSi1, kAu3, kAu2, kAx5, kAx4, kAx3, kAx2, kAx1, kRet, evOp, evCmp, evAug, bindG, bindGs]
  exact R'.pre.gcN w h1 (by omega) (h2.closed _)
end
end Lw
end

section
set_option Elab.async false
set_option linter.all false
set_option maxRecDepth 100000
set_option autoImplicit false
set_option maxHeartbeats 1000000
/-! M12: draws -/
namespace Lw
open PySem L2 Ev
def bagO (b0 b1 b2 m : Nat) : MO := .lst [natD b0, natD b1, natD b2, .ref m]
structure BagAt (st : Sto) (b m c : Nat) : Prop where
  ex : ∃ (b0 b1 b2 : Nat) (cells : List Nat), st[b]? = some (bagO b0 b1 b2 m) ∧ st[m]? = some (.lst (cells.map natD)) ∧ m ≠ b ∧ cells.length ≤ 100 ∧ b1 < 2147483647 ∧ b2 ≤ c
/-- nothing but the bag has changed -/
structure Only (st st' : Sto) (b : Nat) : Prop where
  len : st'.length = st.length
  at_ : ∀ i, i ≠ b → st'[i]? = st[i]?
section
variable {st : Sto}
theorem Only.refl (b : Nat) : Only st st b := ⟨rfl, fun _ _ => rfl⟩
theorem Only.trans {s t : Sto} {b : Nat} (p : Only st s b) (q : Only s t b) : Only st t b := ⟨q.len.trans p.len, fun i h => (q.at_ i h).trans (p.at_ i h)⟩
theorem BagAt.le {b m c d : Nat} (B : BagAt st b m c) (h : c ≤ d) : BagAt st b m d := by
  obtain ⟨b0, b1, b2, cells, h1, h2, h3, h4, h5, h6⟩ := B.ex
  exact ⟨b0, b1, b2, cells, h1, h2, h3, h4, h5, by omega⟩
theorem mod_nat (a k : Nat) (h : 0 < k) : evMod (natD a) (natD k) st = .ok (natD (a % k)) st := by
  have h1 : (k : Int) ≠ 0 := by omega
  simp only [evMod, natD, if_pos h1]
  congr 2
  rw [Int.fmod_eq_emod_of_nonneg _ (by omega)]
  rfl
theorem fdiv_nat (a k : Nat) (h : 0 < k) (h2 : k < 1000000000) : evFdiv (natD a) (natD k) st = .ok (natD (a / k)) st := by
  have h1 : (0 : Int) < (k : Int) ∧ (k : Int).natAbs.log2 < 9000 := ⟨by omega, by
    rw [Int.natAbs_natCast]
    have : k.log2 < 30 := by
      rw [Nat.log2_lt (by omega)]
      omega
    omega⟩
  simp only [evFdiv, natD, if_pos h1]
  rfl
theorem mul_nat (a k : Nat) (h1 : a < 2 ^ 400) (h2 : k < 2 ^ 400) : evMul (natD a) (natD k) st = .ok (natD (a * k)) st := by
  have l : ∀ x : Nat, x < 2 ^ 400 → x.log2 < 1000 := fun x hx => by
    by_cases e : x = 0
    · subst e; decide
    · have := (Nat.log2_lt e).mpr hx
      omega
  have := l a h1
  have := l k h2
  simp only [evMul, natD, Int.natAbs_natCast]
  rw [if_pos (by omega)]
  rfl
theorem addN (a k : Nat) : evAdd (natD a) (natD k) st = .ok (natD (a + k)) st := by simp [evAdd, natD]
theorem int_nat0 (w : Wf st) (a : Nat) : kBi .int st.length (natD a) st = .ok (natD a) st := by
  have := gc_old0 w (show closed st.length (natD a) = true from rfl)
  simp only [kBi, evBi, evBi0, biInt, natD, Out.bind_ok] at this ⊢
  rw [this]
  rfl
theorem lit (k : Nat) : D.int (k : Int) = natD k := rfl

theorem kOS_nat (n : Nat) : kOS (natD n) st = .ok (some (n : Int)) st := rfl
theorem bag_ix {S : Sto} {b b0 b1 b2 m : Nat} (h : S[b]? = some (bagO b0 b1 b2 m)) : evIx (.ref b) (.int 0) S = .ok (natD b0) S ∧ evIx (.ref b) (.int 1) S = .ok (natD b1) S ∧ evIx (.ref b) (.int 2) S = .ok (natD b2) S ∧ evIx (.ref b) (.int 3) S = .ok (.ref m) S := by
  refine ⟨?_, ?_, ?_, ?_⟩ <;> simp [evIx, itemsD, h, bagO]
theorem bag_set {S : Sto} {b b0 b1 b2 m c : Nat} (h : S[b]? = some (bagO b0 b1 b2 m)) : evSetIx (.ref b) (.int 0) (natD c) S = some (S.set b (bagO c b1 b2 m)) ∧ evSetIx (.ref b) (.int 1) (natD c) S = some (S.set b (bagO b0 c b2 m)) ∧ evSetIx (.ref b) (.int 2) (natD c) S = some (S.set b (bagO b0 b1 c m)) := by
  refine ⟨?_, ?_, ?_⟩ <;> simp [evSetIx, h, bagO, ixN]
theorem closed_bag {S : Sto} {b b0 b1 b2 m : Nat} (w : Wf S) (h : S[b]? = some (bagO b0 b1 b2 m)) (c0 c1 c2 : Nat) : closedO S.length (bagO c0 c1 c2 m) = true := by
  have := w.at_ h
  simpa [bagO, closedO, closeds, closed, natD] using this
theorem take_B {S : Sto} {b b0 b1 b2 m many : Nat} {x2 x3 : Option D} (w : Wf S) (h : S[b]? = some (bagO b0 b1 b2 m)) (hb1 : b1 < 2147483647) (hm : 0 < many) (hm2 : many < 1000000000) :
    ∃ v b0', evSL T__law_take (.cons (.ife (.cmp .gt (.ix (.v 0) (.k (.int 0))) (.k (.int 0))) (.cons (.set (.n 4) (.op .mod (.bi .int (.ix (.v 0) (.k (.int 0)))) (.v 1))) (.cons (.setIx (.v 0) (.k (.int 0)) (.op .fdiv (.bi .int (.ix (.v 0) (.k (.int 0)))) (.v 1))) (.cons (.ret (.v 4)) (.nil)))) (.nil)) (.cons (.set (.n 5) (.op .mod (.bi .int (.op .mul (.op .add (.ix (.v 0) (.k (.int 1))) (.k (.int 1))) (.k (.int 39373)))) (.k (.int 1000000007)))) (.cons (.set (.n 6) (.op .mod (.bi .int (.op .mul (.op .mod (.bi .int (.op .mul (.v 5) (.v 5))) (.k (.int 998244353))) (.k (.int 30011)))) (.k (.int 998244353)))) (.cons (.ret (.op .mod (.bi .int (.op .fdiv (.v 6) (.k (.int 7)))) (.v 1))) (.nil))))) [some (.ref b), some (natD many), x2, x3, none, none, none] S = .rt (natD v) (S.set b (bagO b0' b1 b2 m)) ∧ v < many := by
  obtain ⟨i0, i1, i2, i3⟩ := bag_ix h
  by_cases h0 : 0 < b0
  · have e0 : evGt (natD b0) (.int 0) S = .ok (.bl true) S := by
      have : ((0 : Int) < (b0 : Int)) := by omega
      simp only [evGt, natD, decide_eq_true this]
    have hs := (bag_set (c := b0 / many) h).1
    refine ⟨b0 % many, b0 / many, ?_, Nat.mod_lt _ hm⟩
    simp [sl_cons, sl_nil, q_ex, q_set, q_p2, q_p3, q_si, q_au, q_ax, q_if, q_for, q_ret, q_retN, q_pass, q_raise, e_v, e_k, e_tup, e_lst, e_dct, e_op, e_cmp, e_isN, e_notN, e_and, e_or, e_not, e_ifx, e_call, e_bi, e_m0, e_m1, e_g1, e_g2, e_ix, e_sl, l_nil, l_cons, o_no, o_so, t_t, c_no, c_so, kTup, kLst, kOp2, kOp1, kCmp2, kCmp1, kIsN, kNotN, kAnd, kOr, kTru, kNot, kM0, kM1b, kM1, kG1b, kG1, kG2c, kG2b, kG2, kIx2, kIx1, kSl3, kSl2, kSl1, kL2, kL1, kEx, kSet, kP2b, kP2, kP3c, kP3b, kP3, kSi3, kSi2, kSi1, kAu3, kAu2, kAx5, kAx4, kAx3, kAx2, kAx1, kRet, evOp, evCmp, bindG, bindGs, i0, e0, truD, int_nat0 w, mod_nat _ _ hm, fdiv_nat _ _ hm hm2, hs]
  · have e0 : evGt (natD b0) (.int 0) S = .ok (.bl false) S := by
      have : ¬ ((0 : Int) < (b0 : Int)) := by omega
      simp only [evGt, natD, decide_eq_false this]
    have f1 : evAdd (natD b1) (.int 1) S = .ok (natD (b1 + 1)) S := addN b1 1
    have f2 : evMul (natD (b1 + 1)) (.int 39373) S = .ok (natD ((b1 + 1) * 39373)) S := mul_nat (b1 + 1) 39373 (by omega) (by omega)
    have f3 : ∀ x, evMod (natD x) (.int 1000000007) S = .ok (natD (x % 1000000007)) S := fun x => mod_nat x 1000000007 (by omega)
    have f4 : ∀ x, evMod (natD x) (.int 998244353) S = .ok (natD (x % 998244353)) S := fun x => mod_nat x 998244353 (by omega)
    have f5 : ∀ x, x < 1000000007 → evMul (natD x) (natD x) S = .ok (natD (x * x)) S := fun x hx => mul_nat _ _ (by omega) (by omega)
    have f6 : ∀ x, x < 998244353 → evMul (natD x) (.int 30011) S = .ok (natD (x * 30011)) S := fun x hx => mul_nat x 30011 (by omega) (by omega)
    have f7 : ∀ x, evFdiv (natD x) (.int 7) S = .ok (natD (x / 7)) S := fun x => fdiv_nat x 7 (by omega) (by omega)
    have g1 : (b1 + 1) * 39373 % 1000000007 < 1000000007 := Nat.mod_lt _ (by omega)
    have g2 : (b1 + 1) * 39373 % 1000000007 * ((b1 + 1) * 39373 % 1000000007) % 998244353 < 998244353 := Nat.mod_lt _ (by omega)
    refine ⟨(((b1 + 1) * 39373 % 1000000007 * ((b1 + 1) * 39373 % 1000000007) % 998244353 * 30011) % 998244353 / 7) % many, b0, ?_, Nat.mod_lt _ hm⟩
    have hsame : S.set b (bagO b0 b1 b2 m) = S := by
      apply List.ext_getElem?
      intro i
      by_cases e : b = i
      · subst e
        rw [List.getElem?_set_self (List.getElem?_eq_some_iff.mp h).1, h]
      · rw [List.getElem?_set_ne e]
    rw [hsame]
    simp only [sl_cons, sl_nil, q_ex, q_set, q_p2, q_p3, q_si, q_au, q_ax, q_if, q_for, q_ret, q_retN, q_pass, q_raise, e_v, e_k, e_tup, e_lst, e_dct, e_op, e_cmp, e_isN, e_notN, e_and, e_or, e_not, e_ifx, e_call, e_bi, e_m0, e_m1, e_g1, e_g2, e_ix, e_sl, l_nil, l_cons, o_no, o_so, t_t, c_no, c_so, kTup, kLst, kOp2, kOp1, kCmp2, kCmp1, kIsN, kNotN, kAnd, kOr, kTru, kNot, kM0, kM1b, kM1, kG1b, kG1, kG2c, kG2b, kG2, kIx2, kIx1, kSl3, kSl2, kSl1, kL2, kL1, kEx, kSet, kP2b, kP2, kP3c, kP3b, kP3, kSi3, kSi2, kSi1, kAu3, kAu2, kAx5, kAx4, kAx3, kAx2, kAx1, kRet, evOp, evCmp, bindG, bindGs, List.getElem?_cons_zero, List.getElem?_cons_succ, kV_ok, Out.bind_ok, Out.sb_ok, i0, e0, noexc_ok, truD, kTru2_s, kIfS_f, seq_nx, i1, f1, f2, int_nat0 w, f3, List.set_cons_zero, List.set_cons_succ, kSet2_s, f5 _ g1, f4, f6 _ g2, f7, mod_nat _ _ hm, seq_rt]
theorem take_A {b b0 b1 b2 m c many : Nat} {cells : List Nat} (w : Wf st) (h : st[b]? = some (bagO b0 b1 b2 m)) (hc : st[m]? = some (.lst (cells.map natD))) (hmb : m ≠ b) (hl : cells.length ≤ 100) (hb1 : b1 < 2147483647) (hb2 : b2 ≤ c) (hcc : c < 1000000000) :
    ∃ x2 x3 j b0' b1' b2', evS T__law_take (.ife (.cmp .eq (.ix (.v 0) (.k (.int 0))) (.k (.int 0))) (.cons (.set (.n 2) (.ix (.op .add (.sl (.ix (.v 0) (.k (.int 3))) (.so (.ix (.v 0) (.k (.int 2)))) (.no)) (.lst (.cons (.k (.int 0)) (.nil)))) (.k (.int 0)))) (.cons (.augIx (.v 0) (.k (.int 2)) .add (.k (.int 1))) (.cons (.ife (.cmp .ge (.v 2) (.op .pow (.k (.int 10)) (.k (.int 18)))) (.cons (.setIx (.v 0) (.k (.int 0)) (.v 2)) (.nil)) (.nil)) (.cons (.set (.n 3) (.op .add (.op .add (.op .mul (.ix (.v 0) (.k (.int 1))) (.k (.int 48271))) (.op .mod (.bi .int (.v 2)) (.k (.int 2147483647)))) (.op .mul (.k (.int 7919)) (.ix (.v 0) (.k (.int 2)))))) (.cons (.setIx (.v 0) (.k (.int 1)) (.op .mod (.bi .int (.v 3)) (.k (.int 2147483647)))) (.nil)))))) (.nil)) [some (.ref b), some (natD many), none, none, none, none, none] st = .nx [some (.ref b), some (natD many), x2, x3, none, none, none] (st.set b (bagO b0' b1' b2' m) ++ j) ∧ j.all (closedO (st.length + j.length)) = true ∧ b1' < 2147483647 ∧ b2' ≤ c + 1 := by
  obtain ⟨i0, i1, i2, i3⟩ := bag_ix h
  have hbl := (List.getElem?_eq_some_iff.mp h).1
  by_cases h0 : b0 = 0
  · subst h0
    have e0 : evEq (natD 0) (.int 0) st = .ok (.bl true) st := by simp [evEq, eqD, natD]
    -- the lists that are made on the way
    let xs : List Nat := (cells.drop (min b2 cells.length)).take (cells.length - min b2 cells.length)
    let j : Sto := [.lst (xs.map natD), .lst [.int 0], .lst (xs.map natD ++ [.int 0])]
    have hxl : xs.length ≤ 100 := by simp only [xs, List.length_take, List.length_drop]; omega
    have hj : j.all (closedO (st.length + j.length)) = true := by
      have q1 := closed_nats (st.length + 3) xs
      have q2 := closed_nats (st.length + 3) (xs ++ [0])
      have q3 : closeds (st.length + 3) [.int 0] = true := rfl
      simp only [List.map_append, List.map_cons, List.map_nil] at q2
      have q4 : closeds (st.length + 3) (xs.map natD ++ [.int 0]) = true := q2
      simp [j, closedO, q1, q4, q3]
    have hbig : ∀ (c0 c1 c2 : Nat) (k : Sto), (st.set b (bagO c0 c1 c2 m) ++ k)[b]? = some (bagO c0 c1 c2 m) := fun c0 c1 c2 k => by
      rw [List.getElem?_append_left (by rw [List.length_set]; exact hbl), List.getElem?_set_self hbl]
    have hsets : ∀ (o o' : MO) (k : Sto), (st.set b o ++ k).set b o' = st.set b o' ++ k := fun o o' k => by
      rw [List.set_append_left _ _ (by rw [List.length_set]; exact hbl), List.set_set]
    have hsame : st.set b (bagO 0 b1 b2 m) = st := by
      apply List.ext_getElem?
      intro i
      by_cases e : b = i
      · subst e
        rw [List.getElem?_set_self hbl, h]
      · rw [List.getElem?_set_ne e]
    -- the cell
    obtain ⟨cell, hcell⟩ : ∃ cell, (xs.map natD ++ [.int 0])[0]? = some (natD cell) := by
      cases xs with
      | nil => exact ⟨0, rfl⟩
      | cons z zs => exact ⟨z, rfl⟩
    have s1 : evSl (.ref m) (some (b2 : Int)) none st = .ok (.ref st.length) (st ++ [.lst (xs.map natD)]) := by
      have e1 : cutD (cells.map natD) (some (b2 : Int)) none = xs.map natD := by
        simp only [cutD, HT.sIx_nat, HT.sIx_none, List.length_map, xs]
        rw [List.map_take, List.map_drop]
      simp only [evSl, itemsD, hc, List.length_map]
      rw [if_pos (by simp [SZ]; omega), e1]
      unfold newL
      rw [if_pos (by rw [List.length_map]; simp [SZ]; omega)]
    have s2 : evAdd (.ref st.length) (.ref (st.length + 1)) (st ++ [.lst (xs.map natD), .lst [.int 0]]) = .ok (.ref (st.length + 2)) (st ++ j) := by
      simp only [evAdd, app_at, app_at1, newL]
      rw [if_pos (by simp [SZ]; omega)]
      simp [j]
    have s3 : evIx (.ref (st.length + 2)) (.int 0) (st ++ j) = .ok (natD cell) (st ++ j) := by
      simp only [evIx, itemsD, j, app_at2, atI_0, hcell]
    have wj : Wf (st ++ j) := w.app hj
    have wb : ∀ (c0 c1 c2 : Nat), Wf (st.set b (bagO c0 c1 c2 m) ++ j) := fun c0 c1 c2 => by
      refine (w.set (closed_bag w h c0 c1 c2)).app ?_
      rw [List.length_set]
      exact hj
    have B0 := bag_ix (hbig 0 b1 b2 j)
    rw [hsame] at B0
    have A0 : evSetIx (.ref b) (.int 2) (natD (b2 + 1)) (st ++ j) = some (st.set b (bagO 0 b1 (b2 + 1) m) ++ j) := by
      have := (bag_set (c := b2 + 1) (hbig 0 b1 b2 j)).2.2
      rw [hsets, hsame] at this
      exact this
    have g0 : evAug .add (natD b2) (.int 1) (st ++ j) = .ok (natD (b2 + 1)) (st ++ j) := by simp [evAug, natD]
    have pw : ∀ S : Sto, evPow (.int 10) (.int 18) S = .ok (natD 1000000000000000000) S := fun S => by
      simp only [evPow]
      rw [if_pos (by decide)]
      rfl
    have ge : ∀ S : Sto, evGe (natD cell) (natD 1000000000000000000) S = .ok (.bl (decide (1000000000000000000 ≤ cell))) S := fun S => by
      have e : decide (((1000000000000000000 : Nat) : Int) ≤ (cell : Int)) = decide (1000000000000000000 ≤ cell) := decide_eq_decide.mpr (by omega)
      show Out.ok (D.bl (decide (((1000000000000000000 : Nat) : Int) ≤ (cell : Int)))) S = _
      rw [e]
    -- behind the cell
    have last : ∀ c0, evSL T__law_take (.cons (.set (.n 3) (.op .add (.op .add (.op .mul (.ix (.v 0) (.k (.int 1))) (.k (.int 48271))) (.op .mod (.bi .int (.v 2)) (.k (.int 2147483647)))) (.op .mul (.k (.int 7919)) (.ix (.v 0) (.k (.int 2)))))) (.cons (.setIx (.v 0) (.k (.int 1)) (.op .mod (.bi .int (.v 3)) (.k (.int 2147483647)))) (.nil))) [some (.ref b), some (natD many), some (natD cell), none, none, none, none] (st.set b (bagO c0 b1 (b2 + 1) m) ++ j) =
        .nx [some (.ref b), some (natD many), some (natD cell), some (natD (b1 * 48271 + cell % 2147483647 + 7919 * (b2 + 1))), none, none, none] (st.set b (bagO c0 ((b1 * 48271 + cell % 2147483647 + 7919 * (b2 + 1)) % 2147483647) (b2 + 1) m) ++ j) := fun c0 => by
      obtain ⟨k0, k1, k2, k3⟩ := bag_ix (hbig c0 b1 (b2 + 1) j)
      have w1 := wb c0 b1 (b2 + 1)
      have f1 : evMul (natD b1) (.int 48271) (st.set b (bagO c0 b1 (b2 + 1) m) ++ j) = .ok (natD (b1 * 48271)) (st.set b (bagO c0 b1 (b2 + 1) m) ++ j) := mul_nat b1 48271 (by omega) (by omega)
      have f2 : ∀ x, evMod (natD x) (.int 2147483647) (st.set b (bagO c0 b1 (b2 + 1) m) ++ j) = .ok (natD (x % 2147483647)) (st.set b (bagO c0 b1 (b2 + 1) m) ++ j) := fun x => mod_nat x 2147483647 (by omega)
      have f3 : evMul (.int 7919) (natD (b2 + 1)) (st.set b (bagO c0 b1 (b2 + 1) m) ++ j) = .ok (natD (7919 * (b2 + 1))) (st.set b (bagO c0 b1 (b2 + 1) m) ++ j) := mul_nat 7919 (b2 + 1) (by omega) (by omega)
      have q := (bag_set (c := (b1 * 48271 + cell % 2147483647 + 7919 * (b2 + 1)) % 2147483647) (hbig c0 b1 (b2 + 1) j)).2.1
      rw [hsets] at q
      simp only [sl_cons, sl_nil, q_ex, q_set, q_p2, q_p3, q_si, q_au, q_ax, q_if, q_for, q_ret, q_retN, q_pass, q_raise, e_v, e_k, e_tup, e_lst, e_dct, e_op, e_cmp, e_isN, e_notN, e_and, e_or, e_not, e_ifx, e_call, e_bi, e_m0, e_m1, e_g1, e_g2, e_ix, e_sl, l_nil, l_cons, o_no, o_so, t_t, c_no, c_so, kTup, kLst, kOp2, kOp1, kCmp2, kCmp1, kIsN, kNotN, kAnd, kOr, kTru, kNot, kM0, kM1b, kM1, kG1b, kG1, kG2c, kG2b, kG2, kIx2, kIx1, kSl3, kSl2, kSl1, kL2, kL1, kEx, kSet, kP2b, kP2, kP3c, kP3b, kP3, kSi3, kSi2, kSi1, kAu3, kAu2, kAx5, kAx4, kAx3, kAx2, kAx1, kRet, evOp, evCmp, bindG, bindGs, List.getElem?_cons_zero, List.getElem?_cons_succ, kV_ok, Out.bind_ok, Out.sb_ok, k1, k2, f1, f2, f3, noexc_ok, int_nat0 w1, addN, List.set_cons_zero, List.set_cons_succ, kSet2_s, seq_nx, q, kSx_s]
    by_cases hbc : 1000000000000000000 ≤ cell
    · refine ⟨some (natD cell), some (natD (b1 * 48271 + cell % 2147483647 + 7919 * (b2 + 1))), j, cell, (b1 * 48271 + cell % 2147483647 + 7919 * (b2 + 1)) % 2147483647, b2 + 1, ?_, hj, Nat.mod_lt _ (by omega), by omega⟩
      have q := (bag_set (c := cell) (hbig 0 b1 (b2 + 1) j)).1
      rw [hsets] at q
      have gt := ge (st.set b (bagO 0 b1 (b2 + 1) m) ++ j)
      rw [decide_eq_true hbc] at gt
      simp [sl_cons, sl_nil, q_ex, q_set, q_p2, q_p3, q_si, q_au, q_ax, q_if, q_for, q_ret, q_retN, q_pass, q_raise, e_v, e_k, e_tup, e_lst, e_dct, e_op, e_cmp, e_isN, e_notN, e_and, e_or, e_not, e_ifx, e_call, e_bi, e_m0, e_m1, e_g1, e_g2, e_ix, e_sl, l_nil, l_cons, o_no, o_so, t_t, c_no, c_so, kTup, kLst, kOp2, kOp1, kCmp2, kCmp1, kIsN, kNotN, kAnd, kOr, kTru, kNot, kM0, kM1b, kM1, kG1b, kG1, kG2c, kG2b, kG2, kIx2, kIx1, kSl3, kSl2, kSl1, kL2, kL1, kEx, kSet, kP2b, kP2, kP3c, kP3b, kP3, kSi3, kSi2, kSi1, kAu3, kAu2, kAx5, kAx4, kAx3, kAx2, kAx1, kRet, evOp, evCmp, bindG, bindGs, i0, e0, truD, i3, i2, kOS_nat, s1, newL, SZ, s2, s3, B0.2.2.1, g0, A0, pw, gt, q, ↓last cell]
    · refine ⟨some (natD cell), some (natD (b1 * 48271 + cell % 2147483647 + 7919 * (b2 + 1))), j, 0, (b1 * 48271 + cell % 2147483647 + 7919 * (b2 + 1)) % 2147483647, b2 + 1, ?_, hj, Nat.mod_lt _ (by omega), by omega⟩
      have gt := ge (st.set b (bagO 0 b1 (b2 + 1) m) ++ j)
      rw [decide_eq_false hbc] at gt
      simp [sl_cons, sl_nil, q_ex, q_set, q_p2, q_p3, q_si, q_au, q_ax, q_if, q_for, q_ret, q_retN, q_pass, q_raise, e_v, e_k, e_tup, e_lst, e_dct, e_op, e_cmp, e_isN, e_notN, e_and, e_or, e_not, e_ifx, e_call, e_bi, e_m0, e_m1, e_g1, e_g2, e_ix, e_sl, l_nil, l_cons, o_no, o_so, t_t, c_no, c_so, kTup, kLst, kOp2, kOp1, kCmp2, kCmp1, kIsN, kNotN, kAnd, kOr, kTru, kNot, kM0, kM1b, kM1, kG1b, kG1, kG2c, kG2b, kG2, kIx2, kIx1, kSl3, kSl2, kSl1, kL2, kL1, kEx, kSet, kP2b, kP2, kP3c, kP3b, kP3, kSi3, kSi2, kSi1, kAu3, kAu2, kAx5, kAx4, kAx3, kAx2, kAx1, kRet, evOp, evCmp, bindG, bindGs, i0, e0, truD, i3, i2, kOS_nat, s1, newL, SZ, s2, s3, B0.2.2.1, g0, A0, pw, gt, ↓last 0]
  · have e0 : evEq (natD b0) (.int 0) st = .ok (.bl false) st := by
      simp [evEq, eqD, natD, h0]
    refine ⟨none, none, [], b0, b1, b2, ?_, rfl, hb1, by omega⟩
    have hsame : st.set b (bagO b0 b1 b2 m) = st := by
      apply List.ext_getElem?
      intro i
      by_cases e : b = i
      · subst e
        rw [List.getElem?_set_self hbl, h]
      · rw [List.getElem?_set_ne e]
    rw [hsame, List.append_nil]
    simp [sl_cons, sl_nil, q_ex, q_set, q_p2, q_p3, q_si, q_au, q_ax, q_if, q_for, q_ret, q_retN, q_pass, q_raise, e_v, e_k, e_tup, e_lst, e_dct, e_op, e_cmp, e_isN, e_notN, e_and, e_or, e_not, e_ifx, e_call, e_bi, e_m0, e_m1, e_g1, e_g2, e_ix, e_sl, l_nil, l_cons, o_no, o_so, t_t, c_no, c_so, kTup, kLst, kOp2, kOp1, kCmp2, kCmp1, kIsN, kNotN, kAnd, kOr, kTru, kNot, kM0, kM1b, kM1, kG1b, kG1, kG2c, kG2b, kG2, kIx2, kIx1, kSl3, kSl2, kSl1, kL2, kL1, kEx, kSet, kP2b, kP2, kP3c, kP3b, kP3, kSi3, kSi2, kSi1, kAu3, kAu2, kAx5, kAx4, kAx3, kAx2, kAx1, kRet, evOp, evCmp, bindG, bindGs, i0, e0, truD]

theorem take_ok {b m c many : Nat} (w : Wf st) (B : BagAt st b m c) (hcc : c < 1000000000) (hm : 0 < many) (hm2 : many < 1000000000) :
    ∃ v st', f__law_take [.ref b, natD many] st = .ok (natD v) st' ∧ v < many ∧ Only st st' b ∧ BagAt st' b m (c + 1) ∧ Wf st' := by
  obtain ⟨b0, b1, b2, cells, h1, h2, h3, h4, h5, h6⟩ := B.ex
  obtain ⟨x2, x3, j, b0', b1', b2', e1, hj, q1, q2⟩ := take_A (many := many) w h1 h2 h3 h4 h5 h6 hcc
  have hbl := (List.getElem?_eq_some_iff.mp h1).1
  have w1 : Wf (st.set b (bagO b0' b1' b2' m)) := w.set (closed_bag w h1 _ _ _)
  have w2 : Wf (st.set b (bagO b0' b1' b2' m) ++ j) := w1.app (by rw [List.length_set]; exact hj)
  have hb : (st.set b (bagO b0' b1' b2' m) ++ j)[b]? = some (bagO b0' b1' b2' m) := by
    rw [List.getElem?_append_left (by rw [List.length_set]; exact hbl), List.getElem?_set_self hbl]
  obtain ⟨v, b0'', e2, hv⟩ := take_B (x2 := x2) (x3 := x3) w2 hb q1 hm hm2
  have hset : (st.set b (bagO b0' b1' b2' m) ++ j).set b (bagO b0'' b1' b2' m) = st.set b (bagO b0'' b1' b2' m) ++ j := by
    rw [List.set_append_left _ _ (by rw [List.length_set]; exact hbl), List.set_set]
  rw [hset] at e2
  have w3 : Wf (st.set b (bagO b0'' b1' b2' m)) := w.set (closed_bag w h1 _ _ _)
  refine ⟨v, st.set b (bagO b0'' b1' b2' m), ?_, hv, ⟨List.length_set .., fun i hi => List.getElem?_set_ne (fun e => hi e.symm)⟩, ⟨b0'', b1', b2', cells, List.getElem?_set_self hbl, by rw [List.getElem?_set_ne h3.symm]; exact h2, h3, h4, q1, q2⟩, w3⟩
  unfold f__law_take c__law_take
  rw [evF_fin, sl_cons]
  simp only [List.map_cons, List.map_nil, List.length_cons, List.length_nil, Nat.zero_add, Nat.reduceAdd, Nat.reduceSub, List.replicate, List.cons_append, List.nil_append]
  rw [e1]
  simp only [seq_nx]
  rw [e2]
  simp only [fin_rt]
  have := gc_old (js := j) w3 (show closed (st.set b (bagO b0'' b1' b2' m)).length (natD v) = true from rfl)
  rw [List.length_set] at this
  exact this
/-- grown, the bag moved on -/
structure Gr (st s : Sto) (b m c : Nat) : Prop where
  wf : Wf s
  le : st.length ≤ s.length
  at_ : ∀ i, i < st.length → i ≠ b → s[i]? = st[i]?
  bag : BagAt s b m c
  bl : b < st.length
  ml : m < st.length
theorem Gr.refl {b m c : Nat} (w : Wf st) (B : BagAt st b m c) : Gr st st b m c := by
  obtain ⟨b0, b1, b2, cells, h1, h2, _⟩ := B.ex
  exact ⟨w, Nat.le_refl _, fun _ _ _ => rfl, B, (List.getElem?_eq_some_iff.mp h1).1, (List.getElem?_eq_some_iff.mp h2).1⟩
theorem BagAt.app {s j : Sto} {b m c : Nat} (B : BagAt s b m c) : BagAt (s ++ j) b m c := by
  obtain ⟨b0, b1, b2, cells, h1, h2, h3⟩ := B.ex
  exact ⟨b0, b1, b2, cells, app_low h1, app_low h2, h3⟩
theorem Gr.app {s j : Sto} {b m c : Nat} (g : Gr st s b m c) (h : j.all (closedO (s.length + j.length)) = true) : Gr st (s ++ j) b m c :=
  ⟨g.wf.app h, by have := g.le; simp; omega, fun i h1 h2 => by rw [List.getElem?_append_left (Nat.lt_of_lt_of_le h1 g.le)]; exact g.at_ i h1 h2, g.bag.app, g.bl, g.ml⟩
theorem Gr.mono {s : Sto} {b m c d : Nat} (g : Gr st s b m c) (h : c ≤ d) : Gr st s b m d := ⟨g.wf, g.le, g.at_, g.bag.le h, g.bl, g.ml⟩
theorem Gr.step {s s' : Sto} {b m c d : Nat} (g : Gr st s b m c) (o : Only s s' b) (B : BagAt s' b m d) (w : Wf s') : Gr st s' b m d :=
  ⟨w, by rw [o.len]; exact g.le, fun i h1 h2 => (o.at_ i h2).trans (g.at_ i h1 h2), B, g.bl, g.ml⟩
theorem Gr.set {s : Sto} {b m c r : Nat} {o : MO} (g : Gr st s b m c) (hr : st.length ≤ r) (ho : closedO s.length o = true) : Gr st (s.set r o) b m c := by
  obtain ⟨b0, b1, b2, cells, h1, h2, h3⟩ := g.bag.ex
  have hb := g.bl
  have hm := g.ml
  exact ⟨g.wf.set ho, by rw [List.length_set]; exact g.le, fun i h1 h2 => by rw [List.getElem?_set_ne (by omega)]; exact g.at_ i h1 h2, ⟨b0, b1, b2, cells, by rw [List.getElem?_set_ne (by omega)]; exact h1, by rw [List.getElem?_set_ne (by omega)]; exact h2, h3⟩, g.bl, g.ml⟩
theorem Gr.take {s : Sto} {b m c many : Nat} (g : Gr st s b m c) (hcc : c < 1000000000) (hm : 0 < many) (hm2 : many < 1000000000) :
    ∃ v s', f__law_take [.ref b, natD many] s = .ok (natD v) s' ∧ v < many ∧ Only s s' b ∧ Gr st s' b m (c + 1) := by
  obtain ⟨v, s', h1, h2, h3, h4, h5⟩ := take_ok g.wf g.bag hcc hm hm2
  exact ⟨v, s', h1, h2, h3, g.step h3 h4 h5⟩
theorem Gr.cut {s : Sto} {b m c : Nat} (w : Wf st) (g : Gr st s b m c) : Wf (s.take st.length) ∧ Only st (s.take st.length) b ∧ BagAt (s.take st.length) b m c ∧ (s.take st.length).length = st.length := by
  have hl : (s.take st.length).length = st.length := by have := g.le; simp; omega
  have at2 : ∀ i, i < st.length → (s.take st.length)[i]? = s[i]? := fun i h => List.getElem?_take_of_lt h
  obtain ⟨b0, b1, b2, cells, h1, h2, h3⟩ := g.bag.ex
  refine ⟨?_, ⟨hl, fun i h => ?_⟩, ⟨b0, b1, b2, cells, (at2 _ g.bl).trans h1, (at2 _ g.ml).trans h2, h3⟩, hl⟩
  · unfold Wf
    rw [List.all_eq_true, hl]
    intro o ho
    obtain ⟨i, hi⟩ := List.mem_iff_getElem?.mp ho
    have hil : i < st.length := by
      have := (List.getElem?_eq_some_iff.mp hi).1
      omega
    rw [at2 i hil] at hi
    by_cases e : i = b
    · subst e
      rw [h1] at hi
      cases hi
      simp [bagO, closedO, closeds, closed, natD]
      exact g.ml
    · rw [g.at_ i hil e] at hi
      exact w.at_ hi
  · by_cases h2 : i < st.length
    · rw [at2 i h2]
      exact g.at_ i h2 h
    · rw [List.getElem?_eq_none (by omega), List.getElem?_eq_none (by omega)]
theorem Gr.gcO {s : Sto} {b m c : Nat} {d : D} (w : Wf st) (g : Gr st s b m c) (h : closed st.length d = true) : gc st.length d s = .ok d (s.take st.length) := by
  obtain ⟨w', _, _, hl⟩ := g.cut w
  unfold gc
  unfold Wf at w'
  rw [hl] at w'
  rw [if_pos w', if_pos h]
theorem Gr.gcN {s : Sto} {b m c k : Nat} {o : MO} (w : Wf st) (g : Gr st s b m c) (hk : s[k]? = some o) (hl : st.length ≤ k) (h : closedO st.length o = true) : gc st.length (.ref k) s = .ok (.ref st.length) (s.take st.length ++ [o]) := by
  obtain ⟨w', _, _, hl'⟩ := g.cut w
  unfold gc
  unfold Wf at w'
  rw [hl'] at w'
  rw [if_pos w', if_neg (by simp [closed]; omega)]
  dsimp only
  rw [hk]
  dsimp only
  rw [if_pos ⟨h, hl⟩]
theorem Gr.pick {s : Sto} {b m c : Nat} {xs : List D} {r : Nat} (g : Gr st s b m c) (hcc : c < 1000000000) (hr : s[r]? = some (.lst xs)) (hrb : r ≠ b) (h0 : 0 < xs.length) (h1 : xs.length < 1000) (hcl : closeds 0 xs = true) :
    ∃ (i : Nat) (x : D) (s' : Sto), f__law_some [.ref b, .ref r] s = .ok x s' ∧ xs[i]? = some x ∧ Only s s' b ∧ Gr st s' b m (c + 1) := by
  obtain ⟨v, s', e1, hv, ho, g'⟩ := g.take (many := xs.length) hcc h0 (by omega)
  obtain ⟨x, hx⟩ : ∃ x, xs[v]? = some x := ⟨_, List.getElem?_eq_getElem hv⟩
  have hr' : s'[r]? = some (.lst xs) := (ho.at_ r hrb).trans hr
  have k1 : kBi .len s.length (.ref r) s = .ok (natD xs.length) s := by
    have q := gc_old0 g.wf (show closed s.length (natD xs.length) = true from rfl)
    have q' : gc s.length (.int xs.length) s = .ok (natD xs.length) s := q
    simp only [kBi, evBi, evBi0, biLen, hr, Out.bind_ok, q', noexc_ok]
  have k2 : evIx (.ref r) (natD v) s' = .ok x s' := by simp [evIx, itemsD, hr', natD, hx]
  have hxc : closed s.length x = true := by
    have : ∀ (l : List D) (i : Nat), closeds 0 l = true → l[i]? = some x → closed s.length x = true := fun l => by
      induction l with
      | nil => intro i _ h; simp at h
      | cons a l ih =>
        intro i hc hi
        simp only [closeds, Bool.and_eq_true] at hc
        cases i with
        | zero => simp at hi; subst hi; exact closed_le (Nat.zero_le _) _ hc.1
        | succ i => exact ih i hc.2 (by simpa using hi)
    exact this xs v hcl hx
  have g2 := Gr.refl (st := s) g.wf g.bag
  have g3 := g2.step ho g'.bag g'.wf
  have hgc := g3.gcO g.wf hxc
  have htk : s'.take s.length = s' := by rw [← ho.len]; exact List.take_length
  rw [htk] at hgc
  refine ⟨v, x, s', ?_, hx, ho, g'⟩
  unfold f__law_some c__law_some
  rw [evF_fin]
  simp [sl_cons, sl_nil, q_ex, q_set, q_p2, q_p3, q_si, q_au, q_ax, q_if, q_for, q_ret, q_retN, q_pass, q_raise, e_v, e_k, e_tup, e_lst, e_dct, e_op, e_cmp, e_isN, e_notN, e_and, e_or, e_not, e_ifx, e_call, e_bi, e_m0, e_m1, e_g1, e_g2, e_ix, e_sl, l_nil, l_cons, o_no, o_so, t_t, c_no, c_so, kTup, kLst, kOp2, kOp1, kCmp2, kCmp1, kIsN, kNotN, kAnd, kOr, kTru, kNot, kM0, kM1b, kM1, kG1b, kG1, kG2c, kG2b, kG2, kIx2, kIx1, kSl3, kSl2, kSl1, kL2, kL1, kEx, kSet, kP2b, kP2, kP3c, kP3b, kP3, kSi3, kSi2, kSi1, kAu3, kAu2, kAx5, kAx4, kAx3, kAx2, kAx1, kRet, evOp, evCmp, bindG, bindGs, k1, kCall, Tab, e1, k2]
  exact hgc
end
end Lw
end

section
set_option Elab.async false
set_option linter.all false
set_option maxRecDepth 100000
set_option autoImplicit false
set_option maxHeartbeats 1000000
/-! M13: drawn grades, drawn nets -/
namespace Lw
open PySem L2 Ev
section
variable {st : Sto}
theorem lt_of_at' {n : Nat} {o : MO} (h : st[n]? = some o) : n < st.length := (List.getElem?_eq_some_iff.mp h).1
theorem gs_of2 {i : Nat} {x : D} (h : ([.str "near", .str "strong"] : List D)[i]? = some x) : ∃ a, x = gs a := by
  match i, h with
  | 0, h => exact ⟨true, (Option.some.inj h).symm⟩
  | 1, h => exact ⟨false, (Option.some.inj h).symm⟩
  | i + 2, h => simp at h
theorem gs_of3 {i : Nat} {x : D} (h : ([.str "near", .str "near", .str "strong"] : List D)[i]? = some x) : ∃ a, x = gs a := by
  match i, h with
  | 0, h => exact ⟨true, (Option.some.inj h).symm⟩
  | 1, h => exact ⟨true, (Option.some.inj h).symm⟩
  | 2, h => exact ⟨false, (Option.some.inj h).symm⟩
  | i + 3, h => simp at h
theorem Gr.pickN {s : Sto} {b m c : Nat} {xs : List D} (g : Gr st s b m c) (hcc : c < 1000000000) (h0 : 0 < xs.length) (h1 : xs.length < 1000) (hcl : closeds 0 xs = true) :
    ∃ (i : Nat) (x : D) (s' : Sto), f__law_some [.ref b, .ref s.length] (s ++ [.lst xs]) = .ok x s' ∧ xs[i]? = some x ∧ Only (s ++ [.lst xs]) s' b ∧ Gr st s' b m (c + 1) := by
  have hb := g.bl
  have hle := g.le
  have g1 : Gr st (s ++ [.lst xs]) b m c := g.app (by simp [closedO, closeds_le (Nat.zero_le _) _ hcl])
  exact g1.pick hcc (app_at _ _ _) (by omega) h0 h1 hcl
theorem grades_ok {b m c : Nat} (w : Wf st) (B : BagAt st b m c) (hcc : c < 900000000) :
    ∃ (a n x : Bool) (st' : Sto), f__law_grades [.ref b] st = .ok (.ref st.length) (st' ++ [grO a n x]) ∧ Only st st' b ∧ BagAt st' b m (c + 3) ∧ Wf st' := by
  have g0 := Gr.refl w B
  obtain ⟨i1, x1, s1, e1, q1, o1, g1⟩ := g0.pickN (xs := [.str "near", .str "strong"]) (by omega) (by simp) (by simp) rfl
  obtain ⟨i2, x2, s2, e2, q2, o2, g2⟩ := g1.pickN (xs := [.str "near", .str "strong"]) (by omega) (by simp) (by simp) rfl
  obtain ⟨i3, x3, s3, e3, q3, o3, g3⟩ := g2.pickN (xs := [.str "near", .str "near", .str "strong"]) (by omega) (by simp) (by simp) rfl
  obtain ⟨a, rfl⟩ := gs_of2 q1
  obtain ⟨n, rfl⟩ := gs_of2 q2
  obtain ⟨x, rfl⟩ := gs_of3 q3
  have hle := g3.le
  have cgr : ∀ k, closedO k (grO a n x) = true := fun k => rfl
  have g4 : Gr st (s3 ++ [grO a n x]) b m (c + 1 + 1 + 1) := g3.app (by simp [cgr])
  obtain ⟨w', o', B', l'⟩ := g4.cut w
  refine ⟨a, n, x, (s3 ++ [grO a n x]).take st.length, ?_, o', B', w'⟩
  have nd : (["and", "not", "xor", "fresh", "show"] : List Str).Nodup := by decide +kernel
  have hd : kDct ["and", "not", "xor", "fresh", "show"] [gs a, gs n, gs x, .str "strong", .str "open"] s3 = .ok (.ref s3.length) (s3 ++ [grO a n x]) := by
    unfold kDct
    rw [if_pos ⟨rfl, by simp, nd⟩]
    rfl
  unfold f__law_grades c__law_grades
  rw [evF_fin]
  simp only [sl_cons, sl_nil, q_ex, q_set, q_p2, q_p3, q_si, q_au, q_ax, q_if, q_for, q_ret, q_retN, q_pass, q_raise, e_v, e_k, e_tup, e_lst, e_dct, e_op, e_cmp, e_isN, e_notN, e_and, e_or, e_not, e_ifx, e_call, e_bi, e_m0, e_m1, e_g1, e_g2, e_ix, e_sl, l_nil, l_cons, o_no, o_so, t_t, c_no, c_so, kTup, kLst, kOp2, kOp1, kCmp2, kCmp1, kIsN, kNotN, kAnd, kOr, kTru, kNot, kM0, kM1b, kM1, kG1b, kG1, kG2c, kG2b, kG2, kIx2, kIx1, kSl3, kSl2, kSl1, kL2, kL1, kEx, kSet, kP2b, kP2, kP3c, kP3b, kP3, kSi3, kSi2, kSi1, kAu3, kAu2, kAx5, kAx4, kAx3, kAx2, kAx1, kRet, evOp, evCmp, bindG, bindGs, List.map_cons, List.map_nil, List.length_cons, List.length_nil, Nat.zero_add, Nat.reduceAdd, Nat.reduceSub, List.replicate, List.cons_append, List.nil_append, List.getElem?_cons_zero, kV_ok, Out.bind_ok, newL, SZ, Nat.reduceLeDiff, if_true, kCall, Tab, List.getElem?_cons_succ, Option.getD_some, e1, e2, e3, hd, Out.sb_ok, seq_rt, fin_rt, List.append_nil]
  exact g4.gcN w (app_at _ _ _) hle (cgr _)

/-- a tuple of draws -/
theorem draw_tuple {F : Fns} {elt e : E} {env : En} {s s0 : Sto} {b m c c0 cnt last : Nat} (g : Gr st s b m c) (he : evE F e env s = .ok (natD cnt) s0) (o0 : Only s s0 b) (g0 : Gr st s0 b m c0) (hcnt : cnt ≤ 10) (h7 : env.length = 8) (hc0 : c0 + cnt < 1000000000)
    (helt : ∀ (s1 : Sto) (i : D) (c1 : Nat), Only s s1 b → Gr st s1 b m c1 → c1 < 1000000000 → ∃ v s2, evE F elt ((env.set 7 none).set 7 (some i)) s1 = .ok (natD v) s2 ∧ v < last ∧ Only s1 s2 b ∧ Gr st s2 b m (c1 + 1)) :
    ∃ ys s4, evE F (.bi .tuple (.lc elt (.n 7) (.r1 e) .no [7])) env s = .ok (natsD ys) s4 ∧ ys.length = cnt ∧ (∀ y ∈ ys, y < last) ∧ Only s s4 b ∧ Gr st s4 b m (c0 + cnt) := by
  obtain ⟨ys, s1, e1, zs, rfl, hz1, hz2, o1, g1⟩ := lcL_inv (bind := bindG (.n 7)) (t := fun env st => evC F .no env st) (f := fun env st => evE F elt env st) (chk := Chk.free.ok) (env := wipeE env [7])
    (fun j ys s1 => ∃ zs : List Nat, ys = zs.map natD ∧ zs.length = j ∧ (∀ y ∈ zs, y < last) ∧ Only s s1 b ∧ Gr st s1 b m (c0 + j)) (xs := rangeL 0 1 cnt) (fun _ _ _ _ => rfl)
    (fun j ys s1 x h hx => by
      obtain ⟨zs, rfl, h1, h2, h3, h4⟩ := h
      have hj : j < cnt := (rangeL_get hx).1
      obtain ⟨v, s2, q1, q2, q3, q4⟩ := helt s1 x _ h3 h4 (by omega)
      refine ⟨_, s1, s2, natD v, rfl, c_no _ _, q1, zs ++ [v], by simp, by simp [h1], fun y hy => ?_, h3.trans q3, q4⟩
      rcases List.mem_append.mp hy with z | z
      · exact h2 y z
      · rw [List.mem_singleton.mp z]; exact q2) (st := s0) ⟨[], rfl, rfl, fun _ h => by simp at h, o0, g0⟩
  have hlr : (rangeL 0 1 cnt).length = cnt := by simp [rangeL]
  rw [hlr] at hz1 g1
  have e1' : lcX F elt (.n 7) .no [7] env .free (rangeL 0 1 cnt) s0 = .ok (zs.map natD) s1 := e1
  have gs : Gr s s b m c := Gr.refl g.wf g.bag
  have hcl := closed_nats (s1.length + 1) zs
  have gs1 : Gr s (s1 ++ [.lst (zs.map natD)]) b m (c0 + cnt) := (gs.step o1 g1.bag g1.wf).app (by simp [closedO, hcl])
  obtain ⟨w', o', B', l'⟩ := gs1.cut g.wf
  have hg := gs1.gcO g.wf (closed_natsD s.length zs)
  refine ⟨zs, (s1 ++ [MO.lst (zs.map natD)]).take s.length, ?_, hz1, hz2, o', g.step o' B' w'⟩
  have hk : kR1 (natD cnt) s0 = .ok (rangeL 0 1 cnt, .free) s0 := kR1_n _ _ (by omega)
  have hb : biTuple (.ref s1.length) (s1 ++ [.lst (zs.map natD)]) = .ok (natsD zs) (s1 ++ [.lst (zs.map natD)]) := by
    simp only [biTuple, itemsD, app_at]
    rw [if_pos (by simp [SZ]; omega)]
    rfl
  have hlc : kLc1 F elt (.n 7) .no [7] env (rangeL 0 1 cnt, .free) s0 = .ok (.ref s1.length) (s1 ++ [.lst (zs.map natD)]) := by
    unfold kLc1
    rw [if_pos (show (rangeL 0 1 cnt).length ≤ SZ from by rw [hlr]; exact Nat.le_trans hcnt (show 10 ≤ SZ from by decide)), e1']
    rfl
  rw [e_bi, e_lc, i_r1, he, Out.bind_ok, hk, Out.bind_ok, hlc, Out.bind_ok]
  simp only [kBi, evBi, evBi0, hb, Out.bind_ok, hg, noexc_ok]
def NodesOk (nodes : List Nd) : Prop := ∀ (i : Nat) (m : Nd), nodes[i]? = some m → ∀ v ∈ m.ins, v < i
theorem NodesOk.snoc {nodes : List Nd} {m : Nd} (h : NodesOk nodes) (hm : ∀ v ∈ m.ins, v < nodes.length) : NodesOk (nodes ++ [m]) := fun i q hq v hv => by
  by_cases hi : i < nodes.length
  · rw [List.getElem?_append_left hi] at hq
    exact h i q hq v hv
  · have : i = nodes.length := by
      have := (List.getElem?_eq_some_iff.mp hq).1
      simp at this
      omega
    subst this
    rw [List.getElem?_append_right (Nat.le_refl _), Nat.sub_self] at hq
    simp at hq
    subst hq
    exact hm v hv
theorem word_of {i : Nat} {x : D} (h : ([.str "xor", .str "and", .str "xor", .str "and", .str "not", .str "bit"] : List D)[i]? = some x) : x = .str "bit" ∨ x = .str "not" ∨ x = .str "xor" ∨ x = .str "and" := by
  match i, h with
  | 0, h => exact .inr (.inr (.inl (Option.some.inj h).symm))
  | 1, h => exact .inr (.inr (.inr (Option.some.inj h).symm))
  | 2, h => exact .inr (.inr (.inl (Option.some.inj h).symm))
  | 3, h => exact .inr (.inr (.inr (Option.some.inj h).symm))
  | 4, h => exact .inr (.inl (Option.some.inj h).symm)
  | 5, h => exact .inl (Option.some.inj h).symm
  | i + 6, h => simp at h
theorem len_nodes {s : Sto} {r : Nat} {nodes : List Nd} (w : Wf s) (h : s[r]? = some (.lst (nodes.map Nd.d))) : kBi .len s.length (.ref r) s = .ok (natD nodes.length) s := by
  have q : gc s.length (.int nodes.length) s = .ok (natD nodes.length) s := gc_old0 w (show closed s.length (natD nodes.length) = true from rfl)
  simp only [kBi, evBi, evBi0, biLen, h, Out.bind_ok, List.length_map, q, noexc_ok]
theorem lap_ok {s : Sto} {b m c r : Nat} {nodes : List Nd} {many : D} {x3 x4 x5 : Option D} (g : Gr st s b m c) (hcc : c < 900000000) (hr : s[r]? = some (.lst (nodes.map Nd.d))) (hrl : st.length ≤ r) (hn : NodesOk nodes) (h0 : 0 < nodes.length) (h1 : nodes.length < 1000) :
    ∃ s' nd x4' x5', evSL T__law_net (.cons (.set (.t (.cons (.n 4) (.cons (.n 5) (.nil)))) (.tup (.cons (.call 3 (.cons (.v 0) (.cons (.lst (.cons (.k (.str "xor")) (.cons (.k (.str "and")) (.cons (.k (.str "xor")) (.cons (.k (.str "and")) (.cons (.k (.str "not")) (.cons (.k (.str "bit")) (.nil)))))))) (.nil)))) (.cons (.bi .len (.v 2)) (.nil))))) (.cons (.ife (.cmp .eq (.v 4) (.k (.str "bit"))) (.cons (.ex (.mth1 .append (.v 2) (.tup (.cons (.k (.str "bit")) (.cons (.call 2 (.cons (.v 0) (.cons (.k (.int 2)) (.nil)))) (.nil)))))) (.nil)) (.cons (.ex (.mth1 .append (.v 2) (.op .add (.tup (.cons (.v 4) (.nil))) (.bi .tuple (.lc (.call 2 (.cons (.v 0) (.cons (.v 5) (.nil)))) (.n 7) (.r1 (.ifx (.cmp .eq (.v 4) (.k (.str "not"))) (.k (.int 1)) (.k (.int 2)))) (.no) [7]))))) (.nil))) (.nil)))
        [some (.ref b), some many, some (.ref r), x3, x4, x5, none, none] s = .nx [some (.ref b), some many, some (.ref r), x3, x4', x5', none, none] s' ∧ Gr st s' b m (c + 3) ∧ s'[r]? = some (.lst ((nodes ++ [nd]).map Nd.d)) ∧ NodesOk (nodes ++ [nd]) := by
  have hbl := g.bl
  obtain ⟨i, x, s1, e1, q1, o1, g1⟩ := g.pickN (xs := [.str "xor", .str "and", .str "xor", .str "and", .str "not", .str "bit"]) (by omega) (by simp) (by simp) rfl
  have hr1 : s1[r]? = some (.lst (nodes.map Nd.d)) := (o1.at_ r (by omega)).trans (app_low hr)
  have hlen := len_nodes g1.wf hr1
  have app : ∀ (s2 : Sto) (nd : Nd), s2[r]? = some (.lst (nodes.map Nd.d)) → evMth1 .append (.ref r) nd.d s2 = .ok .non (s2.set r (.lst ((nodes ++ [nd]).map Nd.d))) := fun s2 nd h => by
    simp only [evMth1, h, List.length_map]
    rw [if_pos (by simp [SZ]; omega)]
    simp
  have isl : ∀ (s2 : Sto), s2[r]? = some (.lst (nodes.map Nd.d)) → isL s2 (.ref r) = true := fun s2 h => by simp [isL, h]
  rcases word_of q1 with rfl | hx
  · -- a bit
    obtain ⟨v, s2, e2, hv, o2, g2⟩ := g1.take (many := 2) (by omega) (by omega) (by omega)
    have hr2 : s2[r]? = some (.lst (nodes.map Nd.d)) := (o2.at_ r (by omega)).trans hr1
    have e2' : f__law_take [.ref b, .int 2] s1 = .ok (natD v) s2 := e2
    have ap : evMth1 .append (.ref r) (.tup [.str "bit", natD v]) s2 = _ := app s2 (.bit (v : Int)) hr2
    refine ⟨s2.set r (MO.lst ((nodes ++ [Nd.bit (v : Int)]).map Nd.d)), Nd.bit (v : Int), some (.str "bit"), some (natD nodes.length), ?_, (g2.set (o := .lst ((nodes ++ [Nd.bit (v : Int)]).map Nd.d)) hrl (closed_nds _ _)).mono (by omega), List.getElem?_set_self (lt_of_at' hr2), hn.snoc (fun v hv => by simp [Nd.ins] at hv)⟩
    have hb : evEq (.str "bit") (.str "bit") s1 = .ok (.bl true) s1 := by simp [evEq, eqD]
    simp only [sl_cons, sl_nil, q_ex, q_set, q_p2, q_p3, q_si, q_au, q_ax, q_if, q_for, q_ret, q_retN, q_pass, q_raise, e_v, e_k, e_tup, e_lst, e_dct, e_op, e_cmp, e_isN, e_notN, e_and, e_or, e_not, e_ifx, e_call, e_bi, e_m0, e_m1, e_g1, e_g2, e_ix, e_sl, l_nil, l_cons, o_no, o_so, t_t, c_no, c_so, kTup, kLst, kOp2, kOp1, kCmp2, kCmp1, kIsN, kNotN, kAnd, kOr, kTru, kNot, kM0, kM1b, kM1, kG1b, kG1, kG2c, kG2b, kG2, kIx2, kIx1, kSl3, kSl2, kSl1, kL2, kL1, kEx, kSet, kP2b, kP2, kP3c, kP3b, kP3, kSi3, kSi2, kSi1, kAu3, kAu2, kAx5, kAx4, kAx3, kAx2, kAx1, kRet, evOp, evCmp, bindG, bindGs, List.getElem?_cons_zero, List.getElem?_cons_succ, kV_ok, Out.bind_ok, newL, SZ, List.length_cons, List.length_nil, Nat.reduceAdd, Nat.reduceLeDiff, if_true, kCall, Tab, Option.getD_some, e1, hlen, Out.sb_ok, kSet2_s, List.set_cons_zero, List.set_cons_succ, seq_nx, hb, noexc_ok, truD, kTru2_s, kIfS_t, isl s1 hr1, Bool.true_eq_false, if_false, e2', ap]
  · -- a gate
    have gate : ∀ (wd : Str) (cnt : Nat) (mk : List Nat → Nd), x = .str wd → evEq (.str wd) (.str "bit") s1 = .ok (.bl false) s1 → evEq (.str wd) (.str "not") s1 = .ok (.bl (decide (cnt = 1))) s1 → (cnt = 1 ∨ cnt = 2) → (∀ ys : List Nat, ys.length = cnt → (mk ys).d = .tup (.str wd :: ys.map natD) ∧ (mk ys).ins = ys) →
        ∃ s' nd x4' x5', evSL T__law_net (.cons (.set (.t (.cons (.n 4) (.cons (.n 5) (.nil)))) (.tup (.cons (.call 3 (.cons (.v 0) (.cons (.lst (.cons (.k (.str "xor")) (.cons (.k (.str "and")) (.cons (.k (.str "xor")) (.cons (.k (.str "and")) (.cons (.k (.str "not")) (.cons (.k (.str "bit")) (.nil)))))))) (.nil)))) (.cons (.bi .len (.v 2)) (.nil))))) (.cons (.ife (.cmp .eq (.v 4) (.k (.str "bit"))) (.cons (.ex (.mth1 .append (.v 2) (.tup (.cons (.k (.str "bit")) (.cons (.call 2 (.cons (.v 0) (.cons (.k (.int 2)) (.nil)))) (.nil)))))) (.nil)) (.cons (.ex (.mth1 .append (.v 2) (.op .add (.tup (.cons (.v 4) (.nil))) (.bi .tuple (.lc (.call 2 (.cons (.v 0) (.cons (.v 5) (.nil)))) (.n 7) (.r1 (.ifx (.cmp .eq (.v 4) (.k (.str "not"))) (.k (.int 1)) (.k (.int 2)))) (.no) [7]))))) (.nil))) (.nil)))
        [some (.ref b), some many, some (.ref r), x3, x4, x5, none, none] s = .nx [some (.ref b), some many, some (.ref r), x3, x4', x5', none, none] s' ∧ Gr st s' b m (c + 3) ∧ s'[r]? = some (.lst ((nodes ++ [nd]).map Nd.d)) ∧ NodesOk (nodes ++ [nd]) := by
      rintro wd cnt mk rfl hb1 hb2 hcnt hmk
      obtain ⟨ys, s4, e4, y1, y2, o4, g4⟩ := draw_tuple (F := T__law_net) (elt := .call 2 (.cons (.v 0) (.cons (.v 5) (.nil)))) (e := .ifx (.cmp .eq (.v 4) (.k (.str "not"))) (.k (.int 1)) (.k (.int 2))) (env := [some (.ref b), some many, some (.ref r), x3, some (.str wd), some (natD nodes.length), none, none]) (cnt := cnt) (last := nodes.length) g1 (by
          simp only [sl_cons, sl_nil, q_ex, q_set, q_p2, q_p3, q_si, q_au, q_ax, q_if, q_for, q_ret, q_retN, q_pass, q_raise, e_v, e_k, e_tup, e_lst, e_dct, e_op, e_cmp, e_isN, e_notN, e_and, e_or, e_not, e_ifx, e_call, e_bi, e_m0, e_m1, e_g1, e_g2, e_ix, e_sl, l_nil, l_cons, o_no, o_so, t_t, c_no, c_so, kTup, kLst, kOp2, kOp1, kCmp2, kCmp1, kIsN, kNotN, kAnd, kOr, kTru, kNot, kM0, kM1b, kM1, kG1b, kG1, kG2c, kG2b, kG2, kIx2, kIx1, kSl3, kSl2, kSl1, kL2, kL1, kEx, kSet, kP2b, kP2, kP3c, kP3b, kP3, kSi3, kSi2, kSi1, kAu3, kAu2, kAx5, kAx4, kAx3, kAx2, kAx1, kRet, evOp, evCmp, bindG, bindGs, List.getElem?_cons_zero, List.getElem?_cons_succ, kV_ok, Out.bind_ok, hb2, noexc_ok, truD, kTru2_s]
          rcases hcnt with rfl | rfl <;> rfl) (Only.refl b) g1 (by omega) rfl (by omega) (by
          intro s2 i2 c2 ho hg hc
          obtain ⟨v, s3, e3, hv, o3, g3⟩ := hg.take (many := nodes.length) hc h0 (by omega)
          exact ⟨v, s3, by simp [sl_cons, sl_nil, q_ex, q_set, q_p2, q_p3, q_si, q_au, q_ax, q_if, q_for, q_ret, q_retN, q_pass, q_raise, e_v, e_k, e_tup, e_lst, e_dct, e_op, e_cmp, e_isN, e_notN, e_and, e_or, e_not, e_ifx, e_call, e_bi, e_m0, e_m1, e_g1, e_g2, e_ix, e_sl, l_nil, l_cons, o_no, o_so, t_t, c_no, c_so, kTup, kLst, kOp2, kOp1, kCmp2, kCmp1, kIsN, kNotN, kAnd, kOr, kTru, kNot, kM0, kM1b, kM1, kG1b, kG1, kG2c, kG2b, kG2, kIx2, kIx1, kSl3, kSl2, kSl1, kL2, kL1, kEx, kSet, kP2b, kP2, kP3c, kP3b, kP3, kSi3, kSi2, kSi1, kAu3, kAu2, kAx5, kAx4, kAx3, kAx2, kAx1, kRet, evOp, evCmp, bindG, bindGs, kCall, Tab, e3], hv, o3, g3⟩)
      have hr4 : s4[r]? = some (.lst (nodes.map Nd.d)) := (o4.at_ r (by omega)).trans hr1
      obtain ⟨m1, m2⟩ := hmk ys y1
      have ap := app s4 (mk ys) hr4
      have ad : evAdd (.tup [.str wd]) (natsD ys) s4 = .ok (mk ys).d s4 := by
        rw [m1]
        simp only [evAdd, natsD]
        rw [if_pos (by simp [SZ]; omega)]
        rfl
      refine ⟨s4.set r (MO.lst ((nodes ++ [mk ys]).map Nd.d)), mk ys, some (.str wd), some (natD nodes.length), ?_, (g4.set (o := .lst ((nodes ++ [mk ys]).map Nd.d)) hrl (closed_nds _ _)).mono (by omega), List.getElem?_set_self (lt_of_at' hr4), hn.snoc (fun v hv => y2 v (by rw [m2] at hv; exact hv))⟩
      simp only [sl_cons, sl_nil, q_ex, q_set, q_p2, q_p3, q_si, q_au, q_ax, q_if, q_for, q_ret, q_retN, q_pass, q_raise, e_v, e_k, e_tup, e_lst, e_dct, e_op, e_cmp, e_isN, e_notN, e_and, e_or, e_not, e_ifx, e_call, e_bi, e_m0, e_m1, e_g1, e_g2, e_ix, e_sl, l_nil, l_cons, o_no, o_so, t_t, c_no, c_so, kTup, kLst, kOp2, kOp1, kCmp2, kCmp1, kIsN, kNotN, kAnd, kOr, kTru, kNot, kM0, kM1b, kM1, kG1b, kG1, kG2c, kG2b, kG2, kIx2, kIx1, kSl3, kSl2, kSl1, kL2, kL1, kEx, kSet, kP2b, kP2, kP3c, kP3b, kP3, kSi3, kSi2, kSi1, kAu3, kAu2, kAx5, kAx4, kAx3, kAx2, kAx1, kRet, evOp, evCmp, bindG, bindGs, List.getElem?_cons_zero, List.getElem?_cons_succ, kV_ok, Out.bind_ok, newL, SZ, List.length_cons, List.length_nil, Nat.reduceAdd, Nat.reduceLeDiff, if_true, kCall, Tab, Option.getD_some, e1, hlen, Out.sb_ok, kSet2_s, List.set_cons_zero, List.set_cons_succ, seq_nx, hb1, noexc_ok, truD, kTru2_s, kIfS_f, isl s1 hr1, Bool.true_eq_false, if_false, ↓e4, ad, ap]
    have wne : ∀ (u v : Str), decide (u = v) = false → evEq (.str u) (.str v) s1 = .ok (.bl false) s1 := fun u v h => by simp only [evEq, eqD, h]
    rcases hx with rfl | rfl | rfl
    · exact gate "not" 1 (fun ys => .neg (ys.headD 0)) rfl (wne _ _ (by simp)) (by simp [evEq, eqD]) (.inl rfl) (fun ys h => by
        match ys, h with
        | [y], _ => exact ⟨rfl, rfl⟩)
    · exact gate "xor" 2 (fun ys => .bin false (ys.headD 0) (ys.getD 1 0)) rfl (wne _ _ (by simp)) (wne _ _ (by simp)) (.inr rfl) (fun ys h => by
        match ys, h with
        | [y, z], _ => exact ⟨rfl, rfl⟩)
    · exact gate "and" 2 (fun ys => .bin true (ys.headD 0) (ys.getD 1 0)) rfl (wne _ _ (by simp)) (wne _ _ (by simp)) (.inr rfl) (fun ys h => by
        match ys, h with
        | [y, z], _ => exact ⟨rfl, rfl⟩)
end
end Lw
end

section
set_option Elab.async false
set_option linter.all false
set_option maxRecDepth 100000
set_option autoImplicit false
set_option maxHeartbeats 1000000
/-! M14: drawn nets -/
namespace Lw
open PySem L2 Ev
section
variable {st : Sto}
theorem q_for_n {F : Fns} {g : G} {e : E} {b : SL} {env : En} {s s1 : Sto} {j : Nat} (h : evE F e env s = .ok (natD j) s1) (hj : j < 4611686018427387904) : evS F (.forI g (.r1 e) b) env s = forF F g b .free (rangeL 0 1 j) env s1 := by
  rw [q_for, i_r1, h, Out.bind_ok, show kR1 (natD j) s1 = .ok (rangeL 0 1 j, .free) s1 from kR1_n j s1 hj, Out.sb_ok]
  rfl
theorem net_ok {b m c many : Nat} (w : Wf st) (B : BagAt st b m c) (hcc : c < 800000000) (hm : many ≤ 5) :
    ∃ (N : Net) (st' : Sto), f__law_net [.ref b, natD many] st = .ok N.d st' ∧ N.nodes.length = 3 + many ∧ NodesOk N.nodes ∧ N.told.length ≤ 2 ∧ (∀ v ∈ N.told, v < N.nodes.length) ∧ N.kv < N.nodes.length ∧ Only st st' b ∧ BagAt st' b m (c + 40) ∧ Wf st' := by
  have g0 := Gr.refl w B
  have hbl := g0.bl
  let nodes0 : List Nd := [.par true, .par false, .kept]
  have ok0 : NodesOk nodes0 := fun i q hq v hv => by
    match i, hq with
    | 0, hq => cases hq; simp [Nd.ins] at hv
    | 1, hq => cases hq; simp [Nd.ins] at hv
    | 2, hq => cases hq; simp [Nd.ins] at hv
    | i + 3, hq => simp [nodes0] at hq
  have g1 : Gr st (st ++ [.lst (nodes0.map Nd.d)]) b m c := g0.app (by simp [closedO, closed_nds])
  obtain ⟨env', s1, e1, nodes, x3, x4, x5, rfl, g2, r2, ok2, len2⟩ := forL_inv (bind := bindG (.n 3)) (body := fun env st => evSL T__law_net (.cons (.set (.t (.cons (.n 4) (.cons (.n 5) (.nil)))) (.tup (.cons (.call 3 (.cons (.v 0) (.cons (.lst (.cons (.k (.str "xor")) (.cons (.k (.str "and")) (.cons (.k (.str "xor")) (.cons (.k (.str "and")) (.cons (.k (.str "not")) (.cons (.k (.str "bit")) (.nil)))))))) (.nil)))) (.cons (.bi .len (.v 2)) (.nil))))) (.cons (.ife (.cmp .eq (.v 4) (.k (.str "bit"))) (.cons (.ex (.mth1 .append (.v 2) (.tup (.cons (.k (.str "bit")) (.cons (.call 2 (.cons (.v 0) (.cons (.k (.int 2)) (.nil)))) (.nil)))))) (.nil)) (.cons (.ex (.mth1 .append (.v 2) (.op .add (.tup (.cons (.v 4) (.nil))) (.bi .tuple (.lc (.call 2 (.cons (.v 0) (.cons (.v 5) (.nil)))) (.n 7) (.r1 (.ifx (.cmp .eq (.v 4) (.k (.str "not"))) (.k (.int 1)) (.k (.int 2)))) (.no) [7]))))) (.nil))) (.nil))) env st) (chk := Chk.free.ok)
    (fun j env s => ∃ (nodes : List Nd) (x3 x4 x5 : Option D), env = [some (.ref b), some (natD many), some (.ref st.length), x3, x4, x5, none, none] ∧ Gr st s b m (c + 3 * j) ∧ s[st.length]? = some (.lst (nodes.map Nd.d)) ∧ NodesOk nodes ∧ nodes.length = 3 + j)
    (xs := rangeL 0 1 many) (fun _ _ _ _ => rfl)
    (fun j env s x h hx => by
      obtain ⟨nodes, x3, x4, x5, rfl, g, hr, hn, hl⟩ := h
      have hj : j < many := (rangeL_get hx).1
      obtain ⟨s', nd, x4', x5', q1, q2, q3, q4⟩ := lap_ok (many := natD many) (x3 := some x) (x4 := x4) (x5 := x5) g (by omega) hr (Nat.le_refl _) hn (by omega) (by omega)
      exact ⟨_, _, s', rfl, .inl q1, nodes ++ [nd], some x, x4', x5', rfl, q2.mono (by omega), q3, q4, by simp; omega⟩)
    (env := [some (.ref b), some (natD many), some (.ref st.length), none, none, none, none, none]) (st := st ++ [.lst (nodes0.map Nd.d)]) ⟨nodes0, none, none, none, rfl, g1, app_at _ _ _, ok0, rfl⟩
  have hlr : (rangeL 0 1 many).length = many := by simp [rangeL]
  rw [hlr] at g2 len2
  have hne : st.length ≠ b := by omega
  -- what is told
  obtain ⟨k, s2, t1, hk, o2, g3⟩ := g2.take (many := 3) (by omega) (by omega) (by omega)
  obtain ⟨told, s3, t2, l3, b3, o3, g4⟩ := draw_tuple (F := T__law_net) (elt := .call 2 (.cons (.v 0) (.cons (.bi .len (.v 2)) (.nil)))) (e := .call 2 (.cons (.v 0) (.cons (.k (.int 3)) (.nil)))) (env := [some (.ref b), some (natD many), some (.ref st.length), x3, x4, x5, none, none]) (cnt := k) (last := nodes.length) g2 (by
      have t1' : f__law_take [.ref b, .int 3] s1 = .ok (natD k) s2 := t1
      simp [sl_cons, sl_nil, q_ex, q_set, q_p2, q_p3, q_si, q_au, q_ax, q_if, q_for, q_ret, q_retN, q_pass, q_raise, e_v, e_k, e_tup, e_lst, e_dct, e_op, e_cmp, e_isN, e_notN, e_and, e_or, e_not, e_ifx, e_call, e_bi, e_m0, e_m1, e_g1, e_g2, e_ix, e_sl, l_nil, l_cons, o_no, o_so, t_t, c_no, c_so, kTup, kLst, kOp2, kOp1, kCmp2, kCmp1, kIsN, kNotN, kAnd, kOr, kTru, kNot, kM0, kM1b, kM1, kG1b, kG1, kG2c, kG2b, kG2, kIx2, kIx1, kSl3, kSl2, kSl1, kL2, kL1, kEx, kSet, kP2b, kP2, kP3c, kP3b, kP3, kSi3, kSi2, kSi1, kAu3, kAu2, kAx5, kAx4, kAx3, kAx2, kAx1, kRet, evOp, evCmp, bindG, bindGs, kCall, Tab, t1']) o2 g3 (by omega) rfl (by omega) (by
      intro s4 i c4 ho hg hc
      have hr4 : s4[st.length]? = some (.lst (nodes.map Nd.d)) := (ho.at_ _ hne).trans r2
      have hl := len_nodes hg.wf hr4
      obtain ⟨v, s5, e5, hv, o5, g5⟩ := hg.take (many := nodes.length) hc (by omega) (by omega)
      exact ⟨v, s5, by simp [sl_cons, sl_nil, q_ex, q_set, q_p2, q_p3, q_si, q_au, q_ax, q_if, q_for, q_ret, q_retN, q_pass, q_raise, e_v, e_k, e_tup, e_lst, e_dct, e_op, e_cmp, e_isN, e_notN, e_and, e_or, e_not, e_ifx, e_call, e_bi, e_m0, e_m1, e_g1, e_g2, e_ix, e_sl, l_nil, l_cons, o_no, o_so, t_t, c_no, c_so, kTup, kLst, kOp2, kOp1, kCmp2, kCmp1, kIsN, kNotN, kAnd, kOr, kTru, kNot, kM0, kM1b, kM1, kG1b, kG1, kG2c, kG2b, kG2, kIx2, kIx1, kSl3, kSl2, kSl1, kL2, kL1, kEx, kSet, kP2b, kP2, kP3c, kP3b, kP3, kSi3, kSi2, kSi1, kAu3, kAu2, kAx5, kAx4, kAx3, kAx2, kAx1, kRet, evOp, evCmp, bindG, bindGs, hl, kCall, Tab, e5], hv, o5, g5⟩)
  have r3 : s3[st.length]? = some (.lst (nodes.map Nd.d)) := (o3.at_ _ hne).trans r2
  have hl3 := len_nodes g4.wf r3
  obtain ⟨kv, s4, t3, hkv, o4, g5⟩ := g4.take (many := nodes.length) (by omega) (by omega) (by omega)
  have htup : kBi .tuple s3.length (.ref st.length) s3 = .ok (.tup (nodes.map Nd.d)) s3 := by
    have q := gc_old0 g4.wf (show closed s3.length (.tup (nodes.map Nd.d)) = true from closed_nds _ _)
    have hz : (nodes.map Nd.d).length ≤ SZ := by rw [List.length_map, len2]; exact Nat.le_trans (show 3 + many ≤ 8 from by omega) (show 8 ≤ SZ from by decide)
    have hb : biTuple (.ref st.length) s3 = .ok (.tup (nodes.map Nd.d)) s3 := by
      simp only [biTuple, itemsD, r3]
      rw [if_pos hz]
    simp only [kBi, evBi, evBi0, hb, Out.bind_ok, q, noexc_ok]
  let N : Net := ⟨nodes, told, kv⟩
  obtain ⟨w', o', B', l'⟩ := g5.cut w
  refine ⟨N, s4.take st.length, ?_, len2, ok2, by show told.length ≤ 2; omega, b3, hkv, o', B'.le (by omega), w'⟩
  have hg := g5.gcO w (closed_net st.length N)
  unfold f__law_net c__law_net
  rw [evF_fin, sl_cons]
  have c1 : evS T__law_net (.set (.n 2) (.lst (.cons (.tup (.cons (.k (.str "param")) (.cons (.k (.str "a")) (.nil)))) (.cons (.tup (.cons (.k (.str "param")) (.cons (.k (.str "b")) (.nil)))) (.cons (.tup (.cons (.k (.str "kept")) (.cons (.k (.str "s")) (.nil)))) (.nil)))))) [some (.ref b), some (natD many), none, none, none, none, none, none] st = .nx [some (.ref b), some (natD many), some (.ref st.length), none, none, none, none, none] (st ++ [.lst (nodes0.map Nd.d)]) := by
    simp [sl_cons, sl_nil, q_ex, q_set, q_p2, q_p3, q_si, q_au, q_ax, q_if, q_for, q_ret, q_retN, q_pass, q_raise, e_v, e_k, e_tup, e_lst, e_dct, e_op, e_cmp, e_isN, e_notN, e_and, e_or, e_not, e_ifx, e_call, e_bi, e_m0, e_m1, e_g1, e_g2, e_ix, e_sl, l_nil, l_cons, o_no, o_so, t_t, c_no, c_so, kTup, kLst, kOp2, kOp1, kCmp2, kCmp1, kIsN, kNotN, kAnd, kOr, kTru, kNot, kM0, kM1b, kM1, kG1b, kG1, kG2c, kG2b, kG2, kIx2, kIx1, kSl3, kSl2, kSl1, kL2, kL1, kEx, kSet, kP2b, kP2, kP3c, kP3b, kP3, kSi3, kSi2, kSi1, kAu3, kAu2, kAx5, kAx4, kAx3, kAx2, kAx1, kRet, evOp, evCmp, bindG, bindGs, newL, SZ, nodes0, Nd.d, Nd.word, Nd.rest]
  simp only [List.map_cons, List.map_nil, List.length_cons, List.length_nil, Nat.zero_add, Nat.reduceAdd, Nat.reduceSub, List.replicate, List.cons_append, List.nil_append]
  rw [c1, seq_nx, sl_cons, q_for_n (j := many) (s1 := st ++ [.lst (nodes0.map Nd.d)]) (by simp [e_v]) (by omega)]
  have e1' : forF T__law_net (.n 3) (.cons (.set (.t (.cons (.n 4) (.cons (.n 5) (.nil)))) (.tup (.cons (.call 3 (.cons (.v 0) (.cons (.lst (.cons (.k (.str "xor")) (.cons (.k (.str "and")) (.cons (.k (.str "xor")) (.cons (.k (.str "and")) (.cons (.k (.str "not")) (.cons (.k (.str "bit")) (.nil)))))))) (.nil)))) (.cons (.bi .len (.v 2)) (.nil))))) (.cons (.ife (.cmp .eq (.v 4) (.k (.str "bit"))) (.cons (.ex (.mth1 .append (.v 2) (.tup (.cons (.k (.str "bit")) (.cons (.call 2 (.cons (.v 0) (.cons (.k (.int 2)) (.nil)))) (.nil)))))) (.nil)) (.cons (.ex (.mth1 .append (.v 2) (.op .add (.tup (.cons (.v 4) (.nil))) (.bi .tuple (.lc (.call 2 (.cons (.v 0) (.cons (.v 5) (.nil)))) (.n 7) (.r1 (.ifx (.cmp .eq (.v 4) (.k (.str "not"))) (.k (.int 1)) (.k (.int 2)))) (.no) [7]))))) (.nil))) (.nil))) .free (rangeL 0 1 many) [some (.ref b), some (natD many), some (.ref st.length), none, none, none, none, none] (st ++ [.lst (nodes0.map Nd.d)]) = _ := e1
  rw [e1', seq_nx, sl_cons, q_set, t2]
  simp only [sl_cons, sl_nil, q_ex, q_set, q_p2, q_p3, q_si, q_au, q_ax, q_if, q_for, q_ret, q_retN, q_pass, q_raise, e_v, e_k, e_tup, e_lst, e_dct, e_op, e_cmp, e_isN, e_notN, e_and, e_or, e_not, e_ifx, e_call, e_bi, e_m0, e_m1, e_g1, e_g2, e_ix, e_sl, l_nil, l_cons, o_no, o_so, t_t, c_no, c_so, kTup, kLst, kOp2, kOp1, kCmp2, kCmp1, kIsN, kNotN, kAnd, kOr, kTru, kNot, kM0, kM1b, kM1, kG1b, kG1, kG2c, kG2b, kG2, kIx2, kIx1, kSl3, kSl2, kSl1, kL2, kL1, kEx, kSet, kP2b, kP2, kP3c, kP3b, kP3, kSi3, kSi2, kSi1, kAu3, kAu2, kAx5, kAx4, kAx3, kAx2, kAx1, kRet, evOp, evCmp, bindG, bindGs, Out.sb_ok, kSet2_s, List.set_cons_zero, List.set_cons_succ, seq_nx, List.getElem?_cons_zero, List.getElem?_cons_succ, kV_ok, Out.bind_ok, SZ, List.length_cons, List.length_nil, Nat.reduceAdd, Nat.reduceLeDiff, if_true, htup, hl3, kCall, Tab, Option.getD_some, t3, seq_rt, fin_rt]
  exact hg
end
end Lw
end

section
set_option Elab.async false
set_option linter.all false
set_option maxRecDepth 100000
set_option autoImplicit false
set_option maxHeartbeats 1000000
/-! M15: alike -/
namespace Lw
open PySem L2 Ev
mutual
theorem eqv_self : ∀ p : PyData, p.hasDict = false → PyData.eqv p p = true
  | .none, _ => by simp [PyData.eqv]
  | .bool b, _ => by simp [PyData.eqv]
  | .int b, _ => by simp [PyData.eqv]
  | .str b, _ => by simp [PyData.eqv]
  | .list xs, h => by
    simp only [PyData.eqv]
    exact eqv_selfs xs (by simpa [PyData.hasDict] using h)
  | .tuple xs, h => by
    simp only [PyData.eqv]
    exact eqv_selfs xs (by simpa [PyData.hasDict] using h)
  | .dict _, h => by simp [PyData.hasDict] at h
theorem eqv_selfs : ∀ ps : List PyData, PyData.hasDictAll ps = false → PyData.eqvAll ps ps = true
  | [], _ => by simp [PyData.eqvAll]
  | p :: ps, h => by
    simp only [PyData.hasDictAll, Bool.or_eq_false_iff] at h
    simp only [PyData.eqvAll, eqv_self p h.1, eqv_selfs ps h.2, Bool.and_self]
end
section
variable {st : Sto}
theorem eq_same {x y : D} {p : PyData} (hx : toP st 64 x = some p) (hy : toP st 64 y = some p) : eqD st x y = some true := by
  have hd : p.hasDict = false := noDict_of p (lay_of 64 x p hx).1
  have hr := eqv_self p hd
  have gen : (match toP st 64 x, toP st 64 y with | some p, some q => some (PyData.eqv p q) | _, _ => none) = some true := by
    rw [hx, hy]
    simp only [hr]
  unfold eqD
  split
  · simp [toP] at hx hy
    rw [← hx] at hy
    cases hy
    simp
  · simp only [toP] at hx hy
    split at hx
    · split at hy
      · cases hx
        cases hy
        simp
      · cases hy
    · cases hx
  · rfl
  · simp [toP] at hx hy
    rw [← hx] at hy
    cases hy
    simp
  · exact gen
theorem alike_ok {x y : D} {p : PyData} (w : Wf st) (hx : toP st 64 x = some p) (hy : toP st 64 y = some p) (hs : shownOk p = true) : f__law_alike [x, y] st = .ok (.bl true) st := by
  have g1 : gc st.length (.str p.shown) st = .ok (.str p.shown) st := gc_old0 w rfl
  have k1 : kBi .repr st.length x st = .ok (.str p.shown) st := by simp only [kBi, evBi, evBi0, biRepr, hx, hs, if_true, Out.bind_ok, g1, noexc_ok]
  have k2 : kBi .repr st.length y st = .ok (.str p.shown) st := by simp only [kBi, evBi, evBi0, biRepr, hy, hs, if_true, Out.bind_ok, g1, noexc_ok]
  have e1 : evEq (.str p.shown) (.str p.shown) st = .ok (.bl true) st := by simp [evEq, eqD]
  have e2 : evEq x y st = .ok (.bl true) st := by simp only [evEq, eq_same hx hy]
  have gb : gc st.length (.bl true) st = .ok (.bl true) st := gc_old0 w rfl
  unfold f__law_alike c__law_alike
  rw [evF_fin]
  simp [sl_cons, sl_nil, q_ex, q_set, q_p2, q_p3, q_si, q_au, q_ax, q_if, q_for, q_ret, q_retN, q_pass, q_raise, e_v, e_k, e_tup, e_lst, e_dct, e_op, e_cmp, e_isN, e_notN, e_and, e_or, e_not, e_ifx, e_call, e_bi, e_m0, e_m1, e_g1, e_g2, e_ix, e_sl, l_nil, l_cons, o_no, o_so, t_t, c_no, c_so, kTup, kLst, kOp2, kOp1, kCmp2, kCmp1, kIsN, kNotN, kAnd, kOr, kTru, kNot, kM0, kM1b, kM1, kG1b, kG1, kG2c, kG2b, kG2, kIx2, kIx1, kSl3, kSl2, kSl1, kL2, kL1, kEx, kSet, kP2b, kP2, kP3c, kP3b, kP3, kSi3, kSi2, kSi1, kAu3, kAu2, kAx5, kAx4, kAx3, kAx2, kAx1, kRet, evOp, evCmp, evAug, bindG, bindGs, k1, k2, e1, e2, truD, gb]
end
/-! ### how long a text is shown -/
mutual
def wt : PyData → Nat
  | .none => 4
  | .bool _ => 5
  | .int i => i.natAbs.log2 + 2
  | .str x => 10 * x.length + 2
  | .list xs => wtAll xs + 2
  | .tuple xs => wtAll xs + 3
  | .dict _ => 0
def wtAll : List PyData → Nat
  | [] => 0
  | x :: xs => wt x + 2 + wtAll xs
end

def okP : PyData → Bool
  | .none => true
  | .bool _ => true
  | .int i => decide (i.natAbs.log2 < 1920)
  | .str x => PyData.strOk x
  | _ => false
theorem tf_le : ∀ (ts : List Str) (k : Nat) (acc : Str), (textFrom k acc ts).length ≤ acc.length + piled ts
  | [], k, acc => Nat.le_add_right _ _
  | t :: r, k, acc => by
    have ih := tf_le r (k + 1) (acc ++ (if k > 0 then ", " else "" : String) ++ t)
    have e : (acc ++ (if k > 0 then ", " else "" : String) ++ t).length = acc.length + (if k > 0 then 2 else 0) + t.length := by
      rw [Str.length_append, Str.length_append]
      split <;> rfl
    rw [e] at ih
    rw [piled_cons]
    have : (if k > 0 then 2 else 0 : Nat) ≤ 2 := by split <;> omega
    show (textFrom (k + 1) _ r).length ≤ _
    omega
theorem lt_le (ts : List Str) : (listText ts).length ≤ piled ts + 2 := by
  unfold listText
  rw [Str.length_append]
  have := tf_le ts 0 "["
  have e1 : ("[" : Str).length = 1 := rfl
  have e2 : ("]" : Str).length = 1 := rfl
  omega
theorem tt_le (ts : List Str) : (tupleText ts).length ≤ piled ts + 3 := by
  unfold tupleText
  rw [Str.length_append, Str.length_append]
  have e1 : ("(" : Str).length = 1 := rfl
  have e2 : ((if (ts.length == 1) = true then ",)" else ")" : String) : Str).length ≤ 2 := by split <;> decide
  by_cases h : ts = []
  · subst h
    have : (Str.join ", " ([] : List Str)).length = 0 := rfl
    omega
  · have := join_length_add ts h
    omega
mutual
theorem shown_le : ∀ p : PyData, p.canLay0 = true → p.shown.length ≤ wt p
  | .none, _ => by simp only [PyData.shown, wt]; decide
  | .bool b, _ => by cases b <;> (simp only [PyData.shown, wt]; decide)
  | .int i, _ => by
    simp only [PyData.shown, wt]
    have h := int_text_length_le (a := i) (k := i.natAbs.log2 + 1) (by omega) (by omega)
    have e : (Str.ofString (toString i)).length = (toString i).length := ofString_length _
    omega
  | .str x, h => by
    simp only [PyData.shown, wt]
    refine StrLaws.reprText_len x fun c hc => ?_
    have h1 : PyData.strOk x = true := by simpa [PyData.canLay0] using h
    unfold PyData.strOk at h1
    rw [← Array.all_toList, List.all_eq_true] at h1
    have := h1 c hc
    simp at this
    omega
  | .list xs, h => by
    simp only [PyData.shown, wt]
    have h1 := shown_les xs (by simpa [PyData.canLay0] using h)
    have := lt_le (PyData.shownAll xs)
    omega
  | .tuple xs, h => by
    simp only [PyData.shown, wt]
    have h1 := shown_les xs (by simpa [PyData.canLay0] using h)
    have := tt_le (PyData.shownAll xs)
    omega
  | .dict kvs, h => by
    have := noDict_of _ h
    simp [PyData.hasDict] at this
theorem shown_les : ∀ ps : List PyData, PyData.canLayAll0 ps = true → piled (PyData.shownAll ps) ≤ wtAll ps
  | [], _ => by simp [PyData.shownAll, piled, wtAll]
  | p :: ps, h => by
    simp only [PyData.canLayAll0, Bool.and_eq_true] at h
    simp only [PyData.shownAll, piled_cons, wtAll]
    have := shown_le p h.1
    have := shown_les ps h.2
    omega
end
theorem shown_ok {st : Sto} {x : D} {p : PyData} (hx : toP st 64 x = some p) (hs : p.showable = true) (hw : wt p ≤ 16777216) : shownOk p = true := by
  unfold shownOk
  rw [hs, Bool.true_and, decide_eq_true_eq]
  exact Nat.le_trans (shown_le p (lay_of 64 x p hx).1) hw
end Lw
end

section
set_option Elab.async false
set_option linter.all false
set_option maxRecDepth 100000
set_option autoImplicit false
set_option maxHeartbeats 1000000
/-! M16: how the law's data are read -/
namespace Lw
open PySem L2 Ev
def natP (n : Nat) : PyData := .int (n : Int)
theorem wt_nat {n : Nat} (h : n < 1048576) : wt (natP n) ≤ 22 := by
  simp only [natP, wt, Int.natAbs_natCast]
  by_cases e : n = 0
  · subst e; decide
  · have : n.log2 < 20 := by
      rw [Nat.log2_lt e]
      exact h
    omega
theorem sh_nat {n : Nat} (h : n < 1048576) : (natP n).showable = true := by
  simp only [natP, PyData.showable, Int.natAbs_natCast, decide_eq_true_eq]
  by_cases e : n = 0
  · subst e; decide
  · have : n.log2 < 20 := by
      rw [Nat.log2_lt e]
      exact h
    omega
theorem wt_map {α : Type} (g : α → PyData) (B : Nat) : ∀ l : List α, (∀ a ∈ l, wt (g a) + 2 ≤ B) → wtAll (l.map g) ≤ l.length * B
  | [], _ => by simp [wtAll]
  | a :: l, h => by
    have h1 := h a List.mem_cons_self
    have h2 := wt_map g B l fun b hb => h b (List.mem_cons_of_mem _ hb)
    simp only [List.map_cons, wtAll, List.length_cons, Nat.add_mul, Nat.one_mul]
    omega
theorem sh_map {α : Type} (g : α → PyData) : ∀ l : List α, (∀ a ∈ l, (g a).showable = true) → PyData.showableAll (l.map g) = true
  | [], _ => by simp [PyData.showableAll]
  | a :: l, h => by
    simp only [List.map_cons, PyData.showableAll, h a List.mem_cons_self, sh_map g l fun b hb => h b (List.mem_cons_of_mem _ hb), Bool.and_self]
section
variable {st : Sto}
theorem toP_map {α : Type} {n : Nat} (f : α → D) (g : α → PyData) : ∀ l : List α, (∀ a ∈ l, toP st n (f a) = some (g a)) → (l.map f).mapM (toP st n) = some (l.map g)
  | [], _ => rfl
  | a :: l, h => by
    simp [List.mapM_cons, h a List.mem_cons_self, toP_map f g l fun b hb => h b (List.mem_cons_of_mem _ hb)]
theorem toP_tup {n : Nat} {ds : List D} {ps : List PyData} (h : ds.mapM (toP st n) = some ps) : toP st (n + 1) (.tup ds) = some (.tuple ps) := by
  simp only [toP, h]
  rfl
theorem toP_lst {n r : Nat} {ds : List D} {ps : List PyData} (hr : st[r]? = some (.lst ds)) (h : ds.mapM (toP st n) = some ps) : toP st (n + 1) (.ref r) = some (.list ps) := by
  simp only [toP, hr, h]
  rfl
theorem toP_nat (n k : Nat) : toP st (n + 1) (natD k) = some (natP k) := rfl
theorem toP_natsD (n : Nat) (xs : List Nat) : toP st (n + 2) (natsD xs) = some (.tuple (xs.map natP)) := toP_tup (toP_map natD natP xs fun a _ => toP_nat n a)
def spP (q : Str × List Nat) : PyData := .tuple [.str q.1, .tuple (q.2.map natP)]
theorem toP_spot (n : Nat) (q : Str × List Nat) (h : PyData.strOk q.1 = true) : toP st (n + 3) (spotD q) = some (spP q) := by
  refine toP_tup ?_
  have h1 : toP st (n + 2) (.str q.1) = some (.str q.1) := by simp [toP, h]
  have h2 := toP_natsD (st := st) n q.2
  simp [List.mapM_cons, h1, h2]
def rowP (f : Nat → Nat) (n : Nat) : PyData := .tuple ((ups f n).map fun k => .tuple [natP k, natP (f k)])
theorem toP_row (n : Nat) (f : Nat → Nat) (L : Nat) : toP st (n + 3) (.tup (rowD f L)) = some (rowP f L) := by
  refine toP_tup (toP_map _ _ _ fun k _ => toP_tup ?_)
  simp [List.mapM_cons, toP_nat]
def waysP (N : Net) (nr : Nat → Bool) : PyData := .tuple ((List.range N.nodes.length).map fun v => rowP (RR N.U nr v) N.sp.length)
theorem toP_ways (n : Nat) (N : Net) (nr : Nat → Bool) : toP st (n + 4) (waysD N nr) = some (waysP N nr) := toP_tup (toP_map _ _ _ fun v _ => toP_row n _ _)
/-- words -/
def words : List Str := ["param", "kept", "bit", "and", "xor", "not", "show", "fresh"]
theorem words_ok : words.all (fun x => PyData.strOk x && decide (x.length ≤ 5)) = true := by decide +kernel
theorem sp_word (N : Net) (q : Str × List Nat) (h : q ∈ N.sp) : q.1 ∈ words := by
  unfold Net.sp at h
  rcases List.mem_append.mp h with h | h
  · rcases List.mem_append.mp h with h | h
    · obtain ⟨m, _, rfl⟩ := List.mem_map.mp h
      cases m with
      | bin b y z => cases b <;> simp [Nd.word, words]
      | _ => simp [Nd.word, words]
    · obtain ⟨v, _, rfl⟩ := List.mem_map.mp h
      simp [words]
  · rw [List.mem_singleton.mp h]
    simp [words]
theorem sp_strOk (N : Net) (q : Str × List Nat) (h : q ∈ N.sp) : PyData.strOk q.1 = true ∧ q.1.length ≤ 5 := by
  have := List.all_eq_true.mp words_ok q.1 (sp_word N q h)
  simpa using this
structure Small (N : Net) (nr : Nat → Bool) : Prop where
  L : N.sp.length ≤ 11
  V : N.nodes.length ≤ 8
  G : Good N.U nr N.nodes.length
  low : ∀ i v, v ∈ N.U.getD i [] → v < N.nodes.length
theorem Small.rr {N : Net} {nr : Nat → Bool} (S : Small N nr) (v k : Nat) : RR N.U nr v k < 177147 := by
  have h1 := RR_le S.G v k
  have h2 : 3 ^ N.U.length ≤ 3 ^ 11 := Nat.pow_le_pow_right (by decide) (by rw [U_len]; exact S.L)
  have h3 : (3 : Nat) ^ 11 = 177147 := by decide
  omega
theorem Small.tt {N : Net} {nr : Nat → Bool} (S : Small N nr) (v : Nat) : wsum N.U (fun _ => 1) (RR N.U nr v) < 177147 := by
  have h1 := DP_bound S.G N.U.length (Nat.le_refl _) v
  have h2 : 3 ^ N.U.length ≤ 3 ^ 11 := Nat.pow_le_pow_right (by decide) (by rw [U_len]; exact S.L)
  have h3 : (3 : Nat) ^ 11 = 177147 := by decide
  have h4 : wsum N.U (fun _ => 1) (RR N.U nr v) = wsum N.U (fun _ => 1) (DP N.U nr N.U.length v) := rfl
  omega
theorem wt_two (a b : PyData) : wt (.tuple [a, b]) = wt a + wt b + 7 := by simp only [wt, wtAll]; omega
theorem sh_two (a b : PyData) : (PyData.tuple [a, b]).showable = (a.showable && b.showable) := by simp [PyData.showable, PyData.showableAll]
theorem Small.sp2 {N : Net} {nr : Nat → Bool} (S : Small N nr) (q : Str × List Nat) (h : q ∈ N.sp) : q.2.length ≤ 2 ∧ ∀ v ∈ q.2, v < 8 := by
  obtain ⟨i, hi⟩ := List.mem_iff_getElem?.mp h
  have hU := U_at N i q hi
  have h1 := S.G.two i
  rw [hU] at h1
  exact ⟨h1, fun v hv => Nat.lt_of_lt_of_le (S.low i v (by rw [hU]; exact hv)) S.V⟩
theorem Small.wspot {N : Net} {nr : Nat → Bool} (S : Small N nr) (q : Str × List Nat) (h : q ∈ N.sp) : wt (spP q) + 2 ≤ 200 ∧ (spP q).showable = true := by
  obtain ⟨h1, h2⟩ := S.sp2 q h
  have h3 := (sp_strOk N q h).2
  have h4 := wt_map natP 24 q.2 fun a ha => by have := wt_nat (n := a) (by have := h2 a ha; omega); omega
  refine ⟨?_, ?_⟩
  · unfold spP
    rw [wt_two]
    simp only [wt]
    have : q.2.length * 24 ≤ 2 * 24 := Nat.mul_le_mul_right _ h1
    omega
  · unfold spP
    rw [sh_two]
    simp only [PyData.showable, Bool.true_and]
    exact sh_map natP q.2 fun a ha => sh_nat (by have := h2 a ha; omega)
theorem ups_len (f : Nat → Nat) (n : Nat) : (ups f n).length ≤ n := by
  unfold ups
  have := List.length_filter_le (fun k => decide (0 < f k)) (List.range n)
  rwa [List.length_range] at this
theorem ups_lt {f : Nat → Nat} {n k : Nat} (h : k ∈ ups f n) : k < n := List.mem_range.mp (List.mem_filter.mp h).1
theorem Small.wrow {N : Net} {nr : Nat → Bool} (S : Small N nr) (v : Nat) : wt (rowP (RR N.U nr v) N.sp.length) + 2 ≤ 1000 ∧ (rowP (RR N.U nr v) N.sp.length).showable = true := by
  have hk : ∀ k ∈ ups (RR N.U nr v) N.sp.length, k < 1048576 ∧ RR N.U nr v k < 1048576 := fun k hk => ⟨by have := ups_lt hk; have := S.L; omega, by have := S.rr v k; omega⟩
  refine ⟨?_, ?_⟩
  · unfold rowP
    simp only [wt]
    have h1 := wt_map (fun k => PyData.tuple [natP k, natP (RR N.U nr v k)]) 60 (ups (RR N.U nr v) N.sp.length) fun k hk' => by
      rw [wt_two]
      have := wt_nat (hk k hk').1
      have := wt_nat (hk k hk').2
      omega
    have h2 := ups_len (RR N.U nr v) N.sp.length
    have := S.L
    have h3 : (ups (RR N.U nr v) N.sp.length).length * 60 ≤ 11 * 60 := Nat.mul_le_mul_right _ (by omega)
    omega
  · unfold rowP
    simp only [PyData.showable]
    exact sh_map _ _ fun k hk' => by rw [sh_two, sh_nat (hk k hk').1, sh_nat (hk k hk').2]; rfl
theorem Small.wways {N : Net} {nr : Nat → Bool} (S : Small N nr) : wt (waysP N nr) ≤ 9000 ∧ (waysP N nr).showable = true := by
  refine ⟨?_, ?_⟩
  · unfold waysP
    simp only [wt]
    have h1 := wt_map (fun v => rowP (RR N.U nr v) N.sp.length) 1000 (List.range N.nodes.length) fun v _ => (S.wrow v).1
    have h2 := S.V
    have h3 : (List.range N.nodes.length).length * 1000 ≤ 8 * 1000 := Nat.mul_le_mul_right _ (by simp; omega)
    omega
  · unfold waysP
    simp only [PyData.showable]
    exact sh_map _ _ fun v _ => (S.wrow v).2
/-- the first pair of lists that are held against each other -/
theorem alike1 {N : Net} {nr : Nat → Bool} {r1 s1 r2 s2 : Nat} (S : Small N nr) (w : Wf st) (h1 : st[r1]? = some (.lst [.ref s1, waysD N nr])) (k1 : st[s1]? = some (.lst (N.sp.map spotD))) (h2 : st[r2]? = some (.lst [.ref s2, waysD N nr])) (k2 : st[s2]? = some (.lst (N.sp.map spotD))) :
    f__law_alike [.ref r1, .ref r2] st = .ok (.bl true) st := by
  have sp : ∀ s, st[s]? = some (.lst (N.sp.map spotD)) → toP st 63 (.ref s) = some (.list (N.sp.map spP)) := fun s hs => toP_lst (n := 62) hs (toP_map _ _ _ fun q hq => toP_spot 59 q (sp_strOk N q hq).1)
  have wy : toP st 63 (waysD N nr) = some (waysP N nr) := toP_ways 59 N nr
  have a1 : toP st 64 (.ref r1) = some (.list [.list (N.sp.map spP), waysP N nr]) := toP_lst (n := 63) h1 (by simp [List.mapM_cons, sp s1 k1, wy])
  have a2 : toP st 64 (.ref r2) = some (.list [.list (N.sp.map spP), waysP N nr]) := toP_lst (n := 63) h2 (by simp [List.mapM_cons, sp s2 k2, wy])
  refine alike_ok w a1 a2 (shown_ok a1 ?_ ?_)
  · simp only [PyData.showable, PyData.showableAll, S.wways.2, Bool.and_true]
    exact sh_map _ _ fun q hq => (S.wspot q hq).2
  · simp only [wt, wtAll]
    have h3 := wt_map spP 200 N.sp fun q hq => (S.wspot q hq).1
    have h4 := S.wways.1
    have h5 : N.sp.length * 200 ≤ 11 * 200 := Nat.mul_le_mul_right _ S.L
    omega
def firstP (N : Net) (nr : Nat → Bool) : PyData := match (dbl N nr).head? with
  | some p => .tuple [natP p.1, natP p.2]
  | none => .none
theorem dbl_lt {N : Net} {nr : Nat → Bool} {p : Nat × Nat} (h : p ∈ dbl N nr) : p.1 < N.nodes.length ∧ p.2 < N.sp.length := by
  unfold dbl at h
  obtain ⟨v, hv, h⟩ := List.mem_flatMap.mp h
  obtain ⟨k, hk, rfl⟩ := List.mem_map.mp h
  exact ⟨List.mem_range.mp hv, ups_lt (List.mem_filter.mp hk).1⟩
theorem alike2 {N : Net} {nr : Nat → Bool} {r1 r2 : Nat} {b : Bool} (S : Small N nr) (w : Wf st) (h1 : st[r1]? = some (.lst [firstD N nr, .bl b])) (h2 : st[r2]? = some (.lst [firstD N nr, .bl b])) : f__law_alike [.ref r1, .ref r2] st = .ok (.bl true) st := by
  have f : toP st 63 (firstD N nr) = some (firstP N nr) := by
    unfold firstD firstP
    cases (dbl N nr).head? with
    | none => rfl
    | some p => exact toP_tup (n := 62) (by simp [List.mapM_cons, pairD, toP_nat])
  have a1 : toP st 64 (.ref r1) = some (.list [firstP N nr, .bool b]) := toP_lst (n := 63) h1 (by simp [List.mapM_cons, f, toP])
  have a2 : toP st 64 (.ref r2) = some (.list [firstP N nr, .bool b]) := toP_lst (n := 63) h2 (by simp [List.mapM_cons, f, toP])
  have hb : wt (firstP N nr) ≤ 60 ∧ (firstP N nr).showable = true := by
    unfold firstP
    cases e : (dbl N nr).head? with
    | none => exact ⟨by simp [wt], rfl⟩
    | some p =>
      have hp := dbl_lt (List.mem_of_mem_head? (by rw [e]; rfl))
      have := S.V
      have := S.L
      have q1 : p.1 < 1048576 := by omega
      have q2 : p.2 < 1048576 := by omega
      refine ⟨?_, ?_⟩
      · show wt (.tuple [natP p.1, natP p.2]) ≤ 60
        rw [wt_two]
        have := wt_nat q1
        have := wt_nat q2
        omega
      · show (PyData.tuple [natP p.1, natP p.2]).showable = true
        rw [sh_two, sh_nat q1, sh_nat q2]
        rfl
  refine alike_ok w a1 a2 (shown_ok a1 ?_ ?_)
  · simp [PyData.showable, PyData.showableAll, hb.2]
  · simp only [wt, wtAll]
    omega
theorem alike3 {N : Net} {nr : Nat → Bool} {nd : Nat → Nat} (S : Small N nr) (w : Wf st) (hnd : ∀ k, nd k ≤ 2) : f__law_alike [askD N nr nd, askD N nr nd] st = .ok (.bl true) st := by
  have hb : ∀ v, wsum N.U nd (RR N.U nr v) < 1048576 := fun v => by
    have h1 := S.tt v
    have h2 : wsum N.U nd (RR N.U nr v) ≤ 2 * wsum N.U (fun _ => 1) (RR N.U nr v) := by
      unfold wsum
      generalize N.U.length = n
      induction n with
      | zero => simp [sumTo]
      | succ n ih =>
        simp only [sumTo, Nat.mul_one] at ih ⊢
        have := Nat.mul_le_mul_left (RR N.U nr v n) (hnd n)
        omega
    omega
  have a : toP st 64 (askD N nr nd) = some (.tuple ((List.range N.nodes.length).map fun v => natP (wsum N.U nd (RR N.U nr v)))) := toP_tup (n := 63) (toP_map _ _ _ fun v _ => toP_nat 62 _)
  refine alike_ok w a a (shown_ok a ?_ ?_)
  · simp only [PyData.showable]
    exact sh_map _ _ fun v _ => sh_nat (hb v)
  · simp only [wt]
    have h1 := wt_map (fun v => natP (wsum N.U nd (RR N.U nr v))) 30 (List.range N.nodes.length) fun v _ => by have := wt_nat (hb v); omega
    have := S.V
    have h3 : (List.range N.nodes.length).length * 30 ≤ 8 * 30 := Nat.mul_le_mul_right _ (by simp; omega)
    omega
theorem alike4 {b : Bool} (w : Wf st) : f__law_alike [.bl b, .bl b] st = .ok (.bl true) st := by
  have a : toP st 64 (.bl b) = some (.bool b) := rfl
  exact alike_ok w a a (shown_ok a rfl (by simp [wt]))
end
end Lw
end

section
set_option Elab.async false
set_option linter.all false
set_option maxRecDepth 100000
set_option autoImplicit false
set_option maxHeartbeats 1000000
/-! M17: what fits and what is double; lots of needles; the bag -/
namespace Lw
open PySem L2 Ev
theorem small_of {N : Net} {many : Nat} {a n x : Bool} (h1 : N.nodes.length = 3 + many) (hm : many ≤ 5) (h2 : NodesOk N.nodes) (h3 : N.told.length ≤ 2) (h4 : ∀ v ∈ N.told, v < N.nodes.length) (h5 : N.kv < N.nodes.length) : Small N (N.near a n x) := by
  have hsp := sp_len N
  have at_ : ∀ (i : Nat), (∃ m, N.nodes[i]? = some m ∧ N.U.getD i [] = m.ins) ∨ (N.nodes.length ≤ i ∧ ((∃ v, N.U.getD i [] = [v] ∧ v < N.nodes.length) ∨ N.U.getD i [] = [])) := fun i => by
    by_cases hi : i < N.nodes.length
    · obtain ⟨m, hm⟩ : ∃ m, N.nodes[i]? = some m := ⟨_, List.getElem?_eq_getElem hi⟩
      refine .inl ⟨m, hm, ?_⟩
      rw [U_at N i (m.word, m.ins) ?_]
      unfold Net.sp
      rw [List.append_assoc, List.getElem?_append_left (by simpa using hi), List.getElem?_map, hm]
      rfl
    · refine .inr ⟨by omega, ?_⟩
      by_cases ht : i < N.nodes.length + N.told.length
      · obtain ⟨v, hv⟩ : ∃ v, N.told[i - N.nodes.length]? = some v := ⟨_, List.getElem?_eq_getElem (by omega)⟩
        refine .inl ⟨v, ?_, h4 v (List.mem_of_getElem? hv)⟩
        rw [U_at N i ("show", [v]) ?_]
        unfold Net.sp
        rw [List.append_assoc, List.getElem?_append_right (by simp; omega), List.length_map, List.getElem?_append_left (by simp; omega), List.getElem?_map, hv]
        rfl
      · by_cases he : i = N.nodes.length + N.told.length
        · refine .inl ⟨N.kv, ?_, h5⟩
          rw [U_at N i ("fresh", [N.kv]) ?_]
          unfold Net.sp
          rw [List.getElem?_append_right (by simp; omega)]
          have : i - (N.nodes.map (fun n => (n.word, n.ins)) ++ N.told.map (fun v => (("show" : Str), [v]))).length = 0 := by simp; omega
          rw [this]
          rfl
        · refine .inr ?_
          rw [List.getD_eq_getElem?_getD, List.getElem?_eq_none (by rw [U_len]; omega)]
          rfl
  refine ⟨by omega, by omega, ⟨fun i => ?_, fun i v hi hv => ?_, fun i hi => ?_, by rw [U_len]; omega⟩, fun i v hv => ?_⟩
  · rcases at_ i with ⟨m, _, e⟩ | ⟨_, ⟨v, e, _⟩ | e⟩
    · rw [e]
      cases m <;> simp [Nd.ins]
    · rw [e]; simp
    · rw [e]; simp
  · rcases at_ i with ⟨m, hm, e⟩ | ⟨h, _⟩
    · rw [e] at hv
      exact h2 i m hm v hv
    · omega
  · unfold Net.near at hi
    apply Nat.lt_of_not_le
    intro hle
    rw [List.getElem?_eq_none hle] at hi
    cases hi
  · rcases at_ i with ⟨m, hm, e⟩ | ⟨h, ⟨u, e, hu⟩ | e⟩
    · rw [e] at hv
      have := h2 i m hm v hv
      have := (List.getElem?_eq_some_iff.mp hm).1
      omega
    · rw [e, List.mem_singleton] at hv
      rw [hv]; exact hu
    · rw [e] at hv; cases hv
/-! ### lots of needles -/
def zeroN : Nat → Nat := fun _ => 0
def unitN (k : Nat) : Nat → Nat := fun i => if i = k then 1 else 0
def rows1 (L : Nat) : List (Nat → Nat) := zeroN :: (List.range L).map unitN
def rows2 (L : Nat) : List (Nat → Nat) := (rows1 L).flatMap fun a => (rows1 L).map fun b => fun i => a i + b i
theorem wsum_zero (U : List (List Nat)) (f : Nat → Nat) : wsum U zeroN f = 0 := sumTo_zero _ fun k _ => Nat.mul_zero _
theorem wsum_unit (U : List (List Nat)) (f : Nat → Nat) (k : Nat) (h : k < U.length) : wsum U (unitN k) f = f k := by
  unfold wsum unitN
  have : ∀ i, i < U.length → f i * (if i = k then 1 else 0) = if i = k then f k else 0 := fun i _ => by
    by_cases e : i = k
    · subst e; simp
    · simp [e]
  rw [sumTo_congr _ this, sumTo_one k (f k) _ h]
theorem wsum_plus (U : List (List Nat)) (a b : Nat → Nat) (f : Nat → Nat) : wsum U (fun i => a i + b i) f = wsum U a f + wsum U b f := by
  unfold wsum
  rw [← sumTo_add]
  exact sumTo_congr _ fun k _ => Nat.mul_add _ _ _
section
variable {N : Net} {nr : Nat → Bool}
theorem empty_iff : (dbl N nr).isEmpty = true ↔ ∀ v, v < N.nodes.length → N.isBit v = false → ∀ k, k < N.sp.length → RR N.U nr v k ≤ 1 := by
  rw [List.isEmpty_iff]
  constructor
  · intro h v hv hb k hk
    apply Nat.le_of_not_lt
    intro h1
    have hm : (v, k) ∈ dbl N nr := by
      unfold dbl frow
      refine List.mem_flatMap.mpr ⟨v, List.mem_range.mpr hv, List.mem_map.mpr ⟨k, List.mem_filter.mpr ⟨?_, ?_⟩, rfl⟩⟩
      · unfold ups
        exact List.mem_filter.mpr ⟨List.mem_range.mpr hk, decide_eq_true (by omega)⟩
      · simp [isD, h1, hb]
    rw [h] at hm
    cases hm
  · intro h
    rw [List.eq_nil_iff_forall_not_mem]
    rintro ⟨v, k⟩ hm
    unfold dbl frow at hm
    obtain ⟨v', hv, hm⟩ := List.mem_flatMap.mp hm
    obtain ⟨k', hk, e⟩ := List.mem_map.mp hm
    obtain ⟨h1, h2⟩ := List.mem_filter.mp hk
    simp [isD] at h2
    have := h v' (List.mem_range.mp hv) h2.2 k' (ups_lt h1)
    omega
theorem rows1_le (S : Small N nr) (hn : ∀ v, v < N.nodes.length → N.isBit v = false → ∀ k, k < N.sp.length → RR N.U nr v k ≤ 1) (nd : Nat → Nat) (h : nd ∈ rows1 N.sp.length) (v : Nat) (hv : v < N.nodes.length) (hb : N.isBit v = false) : wsum N.U nd (RR N.U nr v) + nd v ≤ 1 := by
  have hU := U_len N
  rcases List.mem_cons.mp h with rfl | h
  · rw [wsum_zero]
    simp [zeroN]
  · obtain ⟨k, hk, rfl⟩ := List.mem_map.mp h
    have hk := List.mem_range.mp hk
    rw [wsum_unit _ _ _ (by omega)]
    unfold unitN
    by_cases e : v = k
    · subst e
      rw [RR_self' S.G v hv]
      simp
    · rw [if_neg e]
      have := hn v hv hb k hk
      omega
theorem fits1 (S : Small N nr) : (rows1 N.sp.length).all (fun nd => fitB N nr nd 1) = (dbl N nr).isEmpty := by
  have hU := U_len N
  rw [Bool.eq_iff_iff, empty_iff, List.all_eq_true]
  constructor
  · intro h v hv hb k hk
    have := h (unitN k) (List.mem_cons_of_mem _ (List.mem_map.mpr ⟨k, List.mem_range.mpr hk, rfl⟩))
    have := List.all_eq_true.mp this v (List.mem_range.mpr hv)
    rw [hb, wsum_unit _ _ _ (by omega)] at this
    simp at this
    omega
  · intro h nd hnd
    refine List.all_eq_true.mpr fun v hv => ?_
    cases hb : N.isBit v with
    | true => rfl
    | false =>
      have := rows1_le S h nd hnd v (List.mem_range.mp hv) hb
      simpa using this
theorem fits2 (S : Small N nr) : (rows2 N.sp.length).all (fun nd => fitB N nr nd 2) = (dbl N nr).isEmpty := by
  have hU := U_len N
  rw [Bool.eq_iff_iff, empty_iff, List.all_eq_true]
  constructor
  · intro h v hv hb k hk
    have hu : unitN k ∈ rows1 N.sp.length := List.mem_cons_of_mem _ (List.mem_map.mpr ⟨k, List.mem_range.mpr hk, rfl⟩)
    have := h (fun i => unitN k i + unitN k i) (List.mem_flatMap.mpr ⟨_, hu, List.mem_map.mpr ⟨_, hu, rfl⟩⟩)
    have := List.all_eq_true.mp this v (List.mem_range.mpr hv)
    rw [hb, wsum_plus, wsum_unit _ _ _ (by omega)] at this
    simp at this
    omega
  · intro h nd hnd
    obtain ⟨a, ha, hnd⟩ := List.mem_flatMap.mp hnd
    obtain ⟨b, hb', rfl⟩ := List.mem_map.mp hnd
    refine List.all_eq_true.mpr fun v hv => ?_
    cases hb : N.isBit v with
    | true => rfl
    | false =>
      have h1 := rows1_le S h a ha v (List.mem_range.mp hv) hb
      have h2 := rows1_le S h b hb' v (List.mem_range.mp hv) hb
      rw [wsum_plus]
      simp
      omega
end
theorem rows1_2 {L : Nat} {nd : Nat → Nat} (h : nd ∈ rows1 L) (k : Nat) : nd k ≤ 1 := by
  rcases List.mem_cons.mp h with rfl | h
  · exact Nat.zero_le _
  · obtain ⟨j, _, rfl⟩ := List.mem_map.mp h
    unfold unitN
    split <;> omega
theorem rows2_2 {L : Nat} {nd : Nat → Nat} (h : nd ∈ rows2 L) (k : Nat) : nd k ≤ 2 := by
  obtain ⟨a, ha, hnd⟩ := List.mem_flatMap.mp h
  obtain ⟨b, hb', rfl⟩ := List.mem_map.mp hnd
  have := rows1_2 ha k
  have := rows1_2 hb' k
  show a k + b k ≤ 2
  omega
theorem need_ext {L : Nat} {xs : List D} {nd : Nat → Nat} (hl : xs.length = L) (h : ∀ i, i < L → xs[i]? = some (D.int (nd i : Nat))) : D.tup xs = needD L nd := by
  unfold needD
  congr 1
  apply List.ext_getElem?
  intro i
  by_cases hi : i < L
  · rw [h i hi]
    simp [hi]
  · rw [List.getElem?_eq_none (by omega), List.getElem?_eq_none (by simp; omega)]
end Lw
end

section
set_option Elab.async false
set_option linter.all false
set_option maxRecDepth 100000
set_option autoImplicit false
set_option maxHeartbeats 1000000
/-! M18: lots of needles and the bag, by the text -/
namespace Lw
open PySem L2 Ev
theorem closed_need (k L : Nat) (nd : Nat → Nat) : Ev.closed k (needD L nd) = true := by
  unfold needD
  simp only [Ev.closed]
  induction List.range L with
  | nil => rfl
  | cons a l ih => simp [closeds, Ev.closed, ih]
theorem closed_needs (k L : Nat) (rs : List (Nat → Nat)) : closeds k (rs.map (needD L)) = true := by
  induction rs with
  | nil => rfl
  | cons a l ih => simp [closeds, closed_need, ih]
theorem rep_one (k : Nat) (x : D) : (List.replicate k [x]).flatten = List.replicate k x := by
  induction k with
  | zero => rfl
  | succ k ih => rw [List.replicate_succ, List.flatten_cons, ih]; rfl
section
variable {st : Sto}
theorem mul_zeros (k : Nat) (x : D) (h : k ≤ 500) : evMul (.tup [x]) (natD k) st = .ok (.tup (List.replicate k x)) st := by
  simp only [evMul, natD]
  rw [if_pos ⟨by omega, by omega, by simp⟩, Int.toNat_natCast, rep_one]
theorem need_zero (L : Nat) : .tup (List.replicate L (D.int 0)) = needD L zeroN := need_ext (by simp) fun i hi => by
  rw [List.getElem?_replicate, if_pos hi]
  rfl
theorem need_unit (L k : Nat) (h : k < L) : .tup (List.replicate k (D.int 0) ++ [D.int 1] ++ List.replicate (L - k - 1) (D.int 0)) = needD L (unitN k) := need_ext (by simp; omega) fun i hi => by
  unfold unitN
  by_cases h1 : i < k
  · rw [List.append_assoc, List.getElem?_append_left (by simpa using h1), List.getElem?_replicate, if_pos h1, if_neg (by omega)]
    rfl
  · by_cases h2 : i = k
    · subst h2
      rw [List.append_assoc, List.getElem?_append_right (by simp), List.length_replicate, Nat.sub_self, if_pos rfl]
      rfl
    · rw [List.getElem?_append_right (by simp; omega), List.getElem?_replicate, if_pos (by simp; omega), if_neg h2]
      rfl
/-- tuple([x + y for x, y in zip(one, other)]) -/
theorem sum_tuple {F : Fns} {s : Sto} {L : Nat} {a b : Nat → Nat} {env : En} (w : Wf s) (h5 : env[5]? = some (some (needD L a))) (h6 : env[6]? = some (some (needD L b))) (hl : env.length = 9) (hL : L ≤ 500) :
    evE F (.bi .tuple (.lc (.op .add (.v 7) (.v 8)) (.t (.cons (.n 7) (.cons (.n 8) (.nil)))) (.zi (.v 5) (.v 6)) (.no) [7, 8])) env s = .ok (needD L fun i => a i + b i) s := by
  have hz : zipL ((List.range L).map fun k => D.int (a k : Nat)) ((List.range L).map fun k => D.int (b k : Nat)) = (List.range L).map fun i => .tup [natD (a i), natD (b i)] := by
    unfold zipL
    rw [List.zip_map', List.map_map]
    rfl
  have e := lc_map (F := F) (elt := .op .add (.v 7) (.v 8)) (G := .t (.cons (.n 7) (.cons (.n 8) (.nil)))) (c := .no) (own := [7, 8]) (env := env) (chk := .free) (st := s) (List.range L) (fun i => D.tup [natD (a i), natD (b i)]) (fun i => D.int ((a i + b i : Nat) : Int)) (by simp; omega) rfl (by
    intro i hi
    refine ⟨_, rfl, c_no _ _, ?_⟩
    have q := add_nat (st := s) (a i) (b i)
    simp [sl_cons, sl_nil, q_ex, q_set, q_p2, q_p3, q_si, q_au, q_ax, q_if, q_for, q_ret, q_retN, q_pass, q_raise, e_v, e_k, e_tup, e_lst, e_dct, e_op, e_cmp, e_isN, e_notN, e_and, e_or, e_not, e_ifx, e_call, e_bi, e_m0, e_m1, e_g1, e_g2, e_ix, e_sl, l_nil, l_cons, o_no, o_so, t_t, c_no, c_so, kTup, kLst, kOp2, kOp1, kCmp2, kCmp1, kIsN, kNotN, kAnd, kOr, kTru, kNot, kM0, kM1b, kM1, kG1b, kG1, kG2c, kG2b, kG2, kIx2, kIx1, kSl3, kSl2, kSl1, kL2, kL1, kEx, kSet, kP2b, kP2, kP3c, kP3b, kP3, kSi3, kSi2, kSi1, kAu3, kAu2, kAx5, kAx4, kAx3, kAx2, kAx1, kRet, evOp, evCmp, bindG, bindGs, wipeE, hl, q]
    rfl)
  have g := gc_old (js := [.lst ((List.range L).map fun i => D.int ((a i + b i : Nat) : Int))]) w (closed_need s.length L fun i => a i + b i)
  have hb : biTuple (.ref s.length) (s ++ [.lst ((List.range L).map fun i => D.int ((a i + b i : Nat) : Int))]) = .ok (needD L fun i => a i + b i) (s ++ [.lst ((List.range L).map fun i => D.int ((a i + b i : Nat) : Int))]) := by
    simp only [biTuple, itemsD, app_at]
    rw [if_pos (by simp [SZ]; omega)]
    rfl
  rw [e_bi, e_lc, i_zi, e_v, h5, kV_ok, Out.bind_ok]
  simp only [kZi1, e_v, h6, kV_ok, Out.bind_ok]
  rw [show kZi2 (needD L a) (needD L b) s = .ok (zipL ((List.range L).map fun k => D.int (a k : Nat)) ((List.range L).map fun k => D.int (b k : Nat)), .free) s from rfl, Out.bind_ok, hz, e, Out.bind_ok]
  simp only [kBi, evBi, evBi0, hb, Out.bind_ok, g, noexc_ok]
theorem needles_ok {L o : Nat} (w : Wf st) (hL : L ≤ 50) (ho : o = 1 ∨ o = 2) : f__law_needles [natD L, natD o] st = .ok (.ref st.length) (st ++ [.lst ((if o = 1 then rows1 L else rows2 L).map (needD L))]) := by
  -- the rows
  obtain ⟨env', s1, e1, x3, rfl, rfl⟩ := forL_inv (bind := bindG (.n 3)) (body := fun env st => evSL T__law_needles (.cons (.ex (.mth1 .append (.v 2) (.op .add (.op .add (.op .mul (.tup (.cons (.k (.int 0)) (.nil))) (.v 3)) (.tup (.cons (.k (.int 1)) (.nil)))) (.op .mul (.tup (.cons (.k (.int 0)) (.nil))) (.op .sub (.op .sub (.v 0) (.v 3)) (.k (.int 1))))))) (.nil)) env st) (chk := Chk.free.ok)
    (fun j env s => ∃ x3, env = [some (natD L), some (natD o), some (.ref st.length), x3, none, none, none, none, none] ∧ s = st ++ [.lst ((zeroN :: (List.range j).map unitN).map (needD L))]) (xs := rangeL 0 1 L) (fun _ _ _ _ => rfl)
    (fun j env s x h hx => by
      obtain ⟨x3, rfl, rfl⟩ := h
      obtain ⟨hj, rfl⟩ := rangeL_get hx
      have ej : D.int (0 + (j : Int) * 1) = natD j := by unfold natD; congr 1; omega
      rw [ej]
      let s : Sto := st ++ [.lst ((zeroN :: (List.range j).map unitN).map (needD L))]
      have z1 := mul_zeros (st := s) j (.int 0) (by omega)
      have z2 : evSub (natD L) (natD j) s = .ok (.int ((L : Int) - j)) s := rfl
      have z3 : evSub (.int ((L : Int) - j)) (.int 1) s = .ok (natD (L - j - 1)) s := by
        have : (L : Int) - j - 1 = ((L - j - 1 : Nat) : Int) := by omega
        simp only [evSub, natD, this]
      have z4 := mul_zeros (st := s) (L - j - 1) (.int 0) (by omega)
      have z5 : evAdd (.tup (List.replicate j (D.int 0))) (.tup [.int 1]) s = .ok (.tup (List.replicate j (D.int 0) ++ [.int 1])) s := by
        simp only [evAdd]
        rw [if_pos (by simp [SZ]; omega)]
      have z6 : evAdd (.tup (List.replicate j (D.int 0) ++ [.int 1])) (.tup (List.replicate (L - j - 1) (D.int 0))) s = .ok (needD L (unitN j)) s := by
        simp only [evAdd]
        rw [if_pos (by simp [SZ]; omega), need_unit L j hj]
      have z7 : evMth1 .append (.ref st.length) (needD L (unitN j)) s = .ok .non (st ++ [.lst ((zeroN :: (List.range (j + 1)).map unitN).map (needD L))]) := by
        simp only [evMth1, s, app_at]
        rw [if_pos (by simp [SZ]; omega), app_set]
        simp [List.range_succ]
      have isl : isL s (.ref st.length) = true := by simp [isL, s]
      refine ⟨[some (natD L), some (natD o), some (.ref st.length), some (natD j), none, none, none, none, none], _, _, rfl, .inl ?_, some (natD j), rfl, rfl⟩
      show evSL T__law_needles _ _ s = _
      simp [sl_cons, sl_nil, q_ex, q_set, q_p2, q_p3, q_si, q_au, q_ax, q_if, q_for, q_ret, q_retN, q_pass, q_raise, e_v, e_k, e_tup, e_lst, e_dct, e_op, e_cmp, e_isN, e_notN, e_and, e_or, e_not, e_ifx, e_call, e_bi, e_m0, e_m1, e_g1, e_g2, e_ix, e_sl, l_nil, l_cons, o_no, o_so, t_t, c_no, c_so, kTup, kLst, kOp2, kOp1, kCmp2, kCmp1, kIsN, kNotN, kAnd, kOr, kTru, kNot, kM0, kM1b, kM1, kG1b, kG1, kG2c, kG2b, kG2, kIx2, kIx1, kSl3, kSl2, kSl1, kL2, kL1, kEx, kSet, kP2b, kP2, kP3c, kP3b, kP3, kSi3, kSi2, kSi1, kAu3, kAu2, kAx5, kAx4, kAx3, kAx2, kAx1, kRet, evOp, evCmp, bindG, bindGs, isl, SZ, z1, z2, z3, z4, z5, z6, z7])
    (env := [some (natD L), some (natD o), some (.ref st.length), none, none, none, none, none, none]) (st := st ++ [.lst ([zeroN].map (needD L))]) ⟨none, rfl, rfl⟩
  have hlr : (rangeL 0 1 L).length = L := by simp [rangeL]
  rw [hlr] at e1
  have e1' : forF T__law_needles (.n 3) (.cons (.ex (.mth1 .append (.v 2) (.op .add (.op .add (.op .mul (.tup (.cons (.k (.int 0)) (.nil))) (.v 3)) (.tup (.cons (.k (.int 1)) (.nil)))) (.op .mul (.tup (.cons (.k (.int 0)) (.nil))) (.op .sub (.op .sub (.v 0) (.v 3)) (.k (.int 1))))))) (.nil)) .free (rangeL 0 1 L) [some (natD L), some (natD o), some (.ref st.length), none, none, none, none, none, none] (st ++ [.lst ([zeroN].map (needD L))]) = .nx [some (natD L), some (natD o), some (.ref st.length), x3, none, none, none, none, none] (st ++ [.lst ((rows1 L).map (needD L))]) := e1
  have z0 := mul_zeros (st := st) L (.int 0) (by omega)
  rw [need_zero] at z0
  have c1 : evS T__law_needles (.set (.n 2) (.lst (.cons (.op .mul (.tup (.cons (.k (.int 0)) (.nil))) (.v 0)) (.nil)))) [some (natD L), some (natD o), none, none, none, none, none, none, none] st = .nx [some (natD L), some (natD o), some (.ref st.length), none, none, none, none, none, none] (st ++ [.lst ([zeroN].map (needD L))]) := by
    simp [sl_cons, sl_nil, q_ex, q_set, q_p2, q_p3, q_si, q_au, q_ax, q_if, q_for, q_ret, q_retN, q_pass, q_raise, e_v, e_k, e_tup, e_lst, e_dct, e_op, e_cmp, e_isN, e_notN, e_and, e_or, e_not, e_ifx, e_call, e_bi, e_m0, e_m1, e_g1, e_g2, e_ix, e_sl, l_nil, l_cons, o_no, o_so, t_t, c_no, c_so, kTup, kLst, kOp2, kOp1, kCmp2, kCmp1, kIsN, kNotN, kAnd, kOr, kTru, kNot, kM0, kM1b, kM1, kG1b, kG1, kG2c, kG2b, kG2, kIx2, kIx1, kSl3, kSl2, kSl1, kL2, kL1, kEx, kSet, kP2b, kP2, kP3c, kP3b, kP3, kSi3, kSi2, kSi1, kAu3, kAu2, kAx5, kAx4, kAx3, kAx2, kAx1, kRet, evOp, evCmp, bindG, bindGs, SZ, z0, newL]
  unfold f__law_needles c__law_needles
  rw [evF_fin, sl_cons]
  simp only [List.map_cons, List.map_nil, List.length_cons, List.length_nil, Nat.zero_add, Nat.reduceAdd, Nat.reduceSub, List.replicate, List.cons_append, List.nil_append] at c1 e1' ⊢
  rw [c1, seq_nx, sl_cons, q_for_n (j := L) (s1 := st ++ [.lst [needD L zeroN]]) (by simp [e_v]) (by omega), e1', seq_nx]
  have w1 : Wf (st ++ [.lst ((rows1 L).map (needD L))]) := w.app (by simp [closedO, closed_needs])
  rcases ho with rfl | rfl
  · have q : evEq (natD 1) (.int 1) (st ++ [.lst ((rows1 L).map (needD L))]) = .ok (.bl true) (st ++ [.lst ((rows1 L).map (needD L))]) := by simp [evEq, eqD, natD]
    simp [sl_cons, sl_nil, q_ex, q_set, q_p2, q_p3, q_si, q_au, q_ax, q_if, q_for, q_ret, q_retN, q_pass, q_raise, e_v, e_k, e_tup, e_lst, e_dct, e_op, e_cmp, e_isN, e_notN, e_and, e_or, e_not, e_ifx, e_call, e_bi, e_m0, e_m1, e_g1, e_g2, e_ix, e_sl, l_nil, l_cons, o_no, o_so, t_t, c_no, c_so, kTup, kLst, kOp2, kOp1, kCmp2, kCmp1, kIsN, kNotN, kAnd, kOr, kTru, kNot, kM0, kM1b, kM1, kG1b, kG1, kG2c, kG2b, kG2, kIx2, kIx1, kSl3, kSl2, kSl1, kL2, kL1, kEx, kSet, kP2b, kP2, kP3c, kP3b, kP3, kSi3, kSi2, kSi1, kAu3, kAu2, kAx5, kAx4, kAx3, kAx2, kAx1, kRet, evOp, evCmp, bindG, bindGs, q, truD]
    exact gc_new (k := 0) w rfl (closed_needs _ _ _)
  · have q : evEq (natD 2) (.int 1) (st ++ [.lst ((rows1 L).map (needD L))]) = .ok (.bl false) (st ++ [.lst ((rows1 L).map (needD L))]) := by simp [evEq, eqD, natD]
    have l1 : (rows1 L).length = L + 1 := by simp [rows1]
    obtain ⟨env', s2, e2, x5, rfl, w2, p2, r2, r3⟩ := forL_inv (bind := bindG (.n 5)) (body := fun env st => evSL T__law_needles (.cons (.ex (.mth1 .extend (.v 4) (.lc (.bi .tuple (.lc (.op .add (.v 7) (.v 8)) (.t (.cons (.n 7) (.cons (.n 8) (.nil)))) (.zi (.v 5) (.v 6)) (.no) [7, 8])) (.n 6) (.of (.v 2)) (.no) [6]))) (.nil)) env st) (chk := (Chk.at_ st.length (.lst ((rows1 L).map (needD L)))).ok)
      (fun (j : Nat) (env : En) (s : Sto) => ∃ x5, env = [some (natD L), some (natD 2), some (.ref st.length), x3, some (.ref (st.length + 1)), x5, none, none, none] ∧ Wf s ∧ Pre st s ∧ s[st.length]? = some (.lst ((rows1 L).map (needD L))) ∧ s[st.length + 1]? = some (.lst ((((rows1 L).take j).flatMap fun a => (rows1 L).map fun b => fun i => a i + b i).map (needD L))))
      (xs := (rows1 L).map (needD L)) (fun j env s h => by
        obtain ⟨x5, rfl, _, _, h, _⟩ := h
        exact decide_eq_true h)
      (fun j env s x h hx => by
        obtain ⟨x5, rfl, w2, p2, r2, r3⟩ := h
        rw [List.getElem?_map] at hx
        cases ha : (rows1 L)[j]? with
        | none => rw [ha] at hx; cases hx
        | some a =>
          rw [ha] at hx
          cases hx
          have hj := (List.getElem?_eq_some_iff.mp ha).1
          have tk : (rows1 L).take (j + 1) = (rows1 L).take j ++ [a] := by
            rw [List.take_succ, ha]
            rfl
          have lc := lc_map (F := T__law_needles) (elt := .bi .tuple (.lc (.op .add (.v 7) (.v 8)) (.t (.cons (.n 7) (.cons (.n 8) (.nil)))) (.zi (.v 5) (.v 6)) (.no) [7, 8])) (G := .n 6) (c := .no) (own := [6]) (env := [some (natD L), some (natD 2), some (.ref st.length), x3, some (.ref (st.length + 1)), some (needD L a), none, none, none]) (chk := .at_ st.length (.lst ((rows1 L).map (needD L)))) (st := s) (rows1 L) (needD L) (fun b => needD L fun i => a i + b i) (by omega) (decide_eq_true r2) (by
            intro b hb
            exact ⟨_, rfl, c_no _ _, sum_tuple w2 rfl rfl rfl (by omega)⟩)
          have hwk : walkD (.ref st.length) s = some ((rows1 L).map (needD L), .at_ st.length (.lst ((rows1 L).map (needD L)))) := by simp only [walkD, r2]
          have isl : isL s (.ref (st.length + 1)) = true := by simp [isL, r3]
          have hlt := lt_of_at r3
          have lenF : (((rows1 L).take j).flatMap fun a => (rows1 L).map fun b => fun i => a i + b i).length ≤ 51 * 51 := by
            rw [List.length_flatMap]
            have : ∀ l : List (Nat → Nat), l.length ≤ 51 → (l.map fun a => ((rows1 L).map fun b => fun i => a i + b i).length).sum ≤ l.length * 51 := fun l => by
              induction l with
              | nil => intro _; simp
              | cons y l ih =>
                intro h
                have := ih (by simp at h; omega)
                simp only [List.map_cons, List.sum_cons, List.length_cons, List.length_map, l1] at this ⊢
                omega
            have h1 := this ((rows1 L).take j) (by simp; omega)
            have h2 : ((rows1 L).take j).length ≤ 51 := by simp; omega
            have h3 := Nat.mul_le_mul_right 51 h2
            omega
          have r3' := app_low (r := [MO.lst ((rows1 L).map fun b => needD L fun i => a i + b i)]) r3
          have ext : evMth1 .extend (.ref (st.length + 1)) (.ref s.length) (s ++ [.lst ((rows1 L).map fun b => needD L fun i => a i + b i)]) = .ok .non ((s ++ [MO.lst ((rows1 L).map fun b => needD L fun i => a i + b i)]).set (st.length + 1) (MO.lst ((((rows1 L).take (j + 1)).flatMap fun (a : Nat → Nat) => (rows1 L).map fun (b : Nat → Nat) => fun i => a i + b i).map (needD L)))) := by
            simp only [evMth1, r3', app_at]
            rw [if_pos (by
              have h1 : ((rows1 L).map fun b => needD L fun i => a i + b i).length = L + 1 := by rw [List.length_map, l1]
              rw [List.length_map, h1]
              exact Nat.le_trans (show _ ≤ 51 * 51 + 51 from by omega) (show 51 * 51 + 51 ≤ SZ from by decide))]
            rw [tk, List.flatMap_append, List.map_append]
            simp [Function.comp_def]
          have hcl : closedO s.length (.lst ((rows1 L).map fun b => needD L fun i => a i + b i)) = true := by
            have := closed_needs s.length L ((rows1 L).map fun b => fun i => a i + b i)
            rw [List.map_map] at this
            exact this
          have w3 : Wf (s ++ [.lst ((rows1 L).map fun b => needD L fun i => a i + b i)]) := w2.app (by
            rw [List.all_cons, List.all_nil, Bool.and_true]
            exact closedO_le (Nat.le_add_right _ _) _ hcl)
          refine ⟨[some (natD L), some (natD 2), some (.ref st.length), x3, some (.ref (st.length + 1)), some (needD L a), none, none, none], _, _, rfl, .inl ?_, some (needD L a), rfl, w3.set (o := .lst ((((rows1 L).take (j + 1)).flatMap fun a => (rows1 L).map fun b => fun i => a i + b i).map (needD L))) (closed_needs _ _ _), p2.app.set (by omega), ?_, List.getElem?_set_self (by rw [List.length_append]; omega)⟩
          · simp only [sl_cons, q_ex, e_m1, e_v, List.getElem?_cons_succ, List.getElem?_cons_zero, kV_ok, Out.bind_ok, kM1, isl, Bool.true_eq_false, if_false, e_lc, i_of, kWalk, hwk, kWalk2_s, lc, kM1b, ext, noexc_ok, Out.sb_ok, kEx, seq_nx, sl_nil]
          · rw [List.getElem?_set_ne (by omega)]
            exact app_low r2)
      (env := [some (natD L), some (natD 2), some (.ref st.length), x3, some (.ref (st.length + 1)), none, none, none, none]) (st := st ++ [.lst ((rows1 L).map (needD L)), .lst []]) ⟨none, rfl, w.app (by simp [closedO, closed_needs, closeds]), Pre.refl.app, app_at _ _ _, app_at1 _ _ _ _⟩
    have e2' : forF T__law_needles (.n 5) (.cons (.ex (.mth1 .extend (.v 4) (.lc (.bi .tuple (.lc (.op .add (.v 7) (.v 8)) (.t (.cons (.n 7) (.cons (.n 8) (.nil)))) (.zi (.v 5) (.v 6)) (.no) [7, 8])) (.n 6) (.of (.v 2)) (.no) [6]))) (.nil)) (.at_ st.length (.lst ((rows1 L).map (needD L)))) ((rows1 L).map (needD L)) [some (natD L), some (natD 2), some (.ref st.length), x3, some (.ref (st.length + 1)), none, none, none, none] (st ++ [.lst ((rows1 L).map (needD L)), .lst []]) = _ := e2
    simp [sl_cons, sl_nil, q_ex, q_set, q_p2, q_p3, q_si, q_au, q_ax, q_if, q_for, q_ret, q_retN, q_pass, q_raise, e_v, e_k, e_tup, e_lst, e_dct, e_op, e_cmp, e_isN, e_notN, e_and, e_or, e_not, e_ifx, e_call, e_bi, e_m0, e_m1, e_g1, e_g2, e_ix, e_sl, l_nil, l_cons, o_no, o_so, t_t, c_no, c_so, kTup, kLst, kOp2, kOp1, kCmp2, kCmp1, kIsN, kNotN, kAnd, kOr, kTru, kNot, kM0, kM1b, kM1, kG1b, kG1, kG2c, kG2b, kG2, kIx2, kIx1, kSl3, kSl2, kSl1, kL2, kL1, kEx, kSet, kP2b, kP2, kP3c, kP3b, kP3, kSi3, kSi2, kSi1, kAu3, kAu2, kAx5, kAx4, kAx3, kAx2, kAx1, kRet, evOp, evCmp, bindG, bindGs, q, truD, newL, SZ, i_of, kWalk, walkD, kFor, e2']
    have hfin : ((rows1 L).take ((rows1 L).map (needD L)).length).flatMap (fun a => (rows1 L).map fun b => fun i => a i + b i) = rows2 L := by
      rw [List.length_map, List.take_length]
      rfl
    rw [hfin] at r3
    exact p2.gcN w r3 (by omega) (closed_needs _ _ _)
end
end Lw
end

section
set_option Elab.async false
set_option linter.all false
set_option maxRecDepth 100000
set_option autoImplicit false
set_option maxHeartbeats 1000000
/-! M19: the bag; a turn's first statements -/
namespace Lw
open PySem L2 Ev
theorem bag_ok (ns : List Int) (h : ns.length ≤ 63) : ∃ S : Sto, f__law_bag [.rol (ns.map D.int)] [] = .ok (.ref 2) S ∧ BagAt S 2 1 0 ∧ Wf S := by
  let cut : List Int := ns.take 63
  have hc : cut.length ≤ 63 := by simp [cut]; omega
  have e1 : evSl (.rol (ns.map D.int)) none (some 63) [] = .ok (.ref 0) [.lst (cut.map D.int)] := by
    have e : cutD (ns.map D.int) none (some 63) = cut.map D.int := by
      have h1 : HT.sIx (ns.map D.int).length (ns.map D.int).length (some 63) = min 63 ns.length := by
        have := HT.sIx_nat (ns.map D.int).length (ns.map D.int).length 63
        rw [List.length_map] at this ⊢
        exact this
      unfold cutD
      rw [h1, HT.sIx_none]
      simp only [List.drop_zero, Nat.sub_zero, cut]
      rw [← List.map_take]
      congr 1
      by_cases h2 : ns.length ≤ 63
      · rw [List.take_of_length_le (by omega), List.take_of_length_le (by omega)]
      · omega
    unfold evSl
    simp only [itemsD, e]
    rw [if_pos (by simp [SZ]; omega)]
    unfold newL
    rw [if_pos (by simp [SZ]; omega)]
    rfl
  have w0 : Wf [.lst (cut.map D.int)] := by
    have : ∀ l : List Int, closeds 1 (l.map D.int) = true := fun l => by
      induction l with
      | nil => rfl
      | cons a l ih => simp [closeds, closed, ih]
    simp [Wf, closedO, this]
  have e2 := lc_map (F := T__law_bag) (elt := .bi .abs (.v 1)) (G := .n 1) (c := .no) (own := [1]) (env := [some (.rol (ns.map D.int)), none]) (chk := .at_ 0 (.lst (cut.map D.int))) (st := [.lst (cut.map D.int)]) cut D.int (fun i => natD i.natAbs) (by omega) (decide_eq_true rfl) (by
    intro i hi
    refine ⟨_, rfl, c_no _ _, ?_⟩
    have g := gc_old0 w0 (show closed [MO.lst (cut.map D.int)].length (natD i.natAbs) = true from rfl)
    have ha : biAbs (.int i) [.lst (cut.map D.int)] = .ok (natD i.natAbs) [.lst (cut.map D.int)] := by
      simp only [biAbs, natD]
      congr 2
      split <;> omega
    simp only [wipeE, List.set_cons_succ, List.set_cons_zero, e_bi, e_v, List.getElem?_cons_succ, List.getElem?_cons_zero, kV_ok, Out.bind_ok, kBi, evBi, evBi0, ha, g, noexc_ok])
  let S : Sto := [.lst (cut.map D.int), .lst ((cut.map Int.natAbs).map natD), bagO 0 1234567891 0 1]
  have hm : cut.map (fun i => natD i.natAbs) = (cut.map Int.natAbs).map natD := by rw [List.map_map]; rfl
  rw [hm] at e2
  refine ⟨S, ?_, ⟨0, 1234567891, 0, cut.map Int.natAbs, rfl, rfl, by decide, by rw [List.length_map]; omega, by decide, Nat.le_refl _⟩, ?_⟩
  · unfold f__law_bag c__law_bag
    rw [evF_fin]
    have hwk : walkD (.ref 0) [.lst (cut.map D.int)] = some (cut.map D.int, .at_ 0 (.lst (cut.map D.int))) := rfl
    simp only [sl_cons, sl_nil, q_ex, q_set, q_p2, q_p3, q_si, q_au, q_ax, q_if, q_for, q_ret, q_retN, q_pass, q_raise, e_v, e_k, e_tup, e_lst, e_dct, e_op, e_cmp, e_isN, e_notN, e_and, e_or, e_not, e_ifx, e_call, e_bi, e_m0, e_m1, e_g1, e_g2, e_ix, e_sl, l_nil, l_cons, o_no, o_so, t_t, c_no, c_so, kTup, kLst, kOp2, kOp1, kCmp2, kCmp1, kIsN, kNotN, kAnd, kOr, kTru, kNot, kM0, kM1b, kM1, kG1b, kG1, kG2c, kG2b, kG2, kIx2, kIx1, kSl3, kSl2, kSl1, kL2, kL1, kEx, kSet, kP2b, kP2, kP3c, kP3b, kP3, kSi3, kSi2, kSi1, kAu3, kAu2, kAx5, kAx4, kAx3, kAx2, kAx1, kRet, evOp, evCmp, bindG, bindGs, List.map_cons, List.map_nil, List.length_cons, List.length_nil, Nat.zero_add, Nat.reduceAdd, Nat.reduceSub, List.replicate, List.cons_append, List.nil_append, List.append_nil, List.getElem?_cons_zero, kV_ok, Out.bind_ok, kOS_i, e1, noexc_ok, e_lc, i_of, kWalk, hwk, kWalk2_s, e2, newL]
    rw [if_pos (show 4 ≤ SZ from by decide)]
    rfl
  · have c1 : ∀ l : List Int, closeds 3 (l.map D.int) = true := fun l => by
      induction l with
      | nil => rfl
      | cons a l ih => simp [closeds, closed, ih]
    have c2 := closed_nats 3 (cut.map Int.natAbs)
    show S.all (closedO 3) = true
    simp only [S, List.all_cons, List.all_nil, closedO, c1, c2, bagO, Bool.and_true, Bool.true_and]
    rfl
theorem Gr.get {st s : Sto} {b m c i : Nat} {o : MO} (g : Gr st s b m c) (h : st[i]? = some o) (hb : i ≠ b) : s[i]? = some o := (g.at_ i (List.getElem?_eq_some_iff.mp h).1 hb).trans h
theorem Gr.trans {st s t : Sto} {b m c d : Nat} (g : Gr st s b m c) (h : Gr s t b m d) : Gr st t b m d :=
  ⟨h.wf, Nat.le_trans g.le h.le, fun i h1 h2 => (h.at_ i (Nat.lt_of_lt_of_le h1 g.le) h2).trans (g.at_ i h1 h2), h.bag, g.bl, g.ml⟩
end Lw
end

section
set_option Elab.async false
set_option linter.all false
set_option maxRecDepth 100000
set_option autoImplicit false
set_option maxHeartbeats 1000000
/-! M20: a turn's first half -/
namespace Lw
open PySem L2 Ev
theorem tab_get {fs : List (List D → Sto → Out D)} {i : Nat} {f : List D → Sto → Out D} (h : fs[i]? = some f) (ds : List D) (s : Sto) : kCall (Tab fs) i ds s = f ds s := by
  unfold kCall Tab
  rw [h]
  rfl
theorem tl_0 (ds : List D) (s : Sto) : kCall T_law 0 ds s = f__law_bag ds s := tab_get (by rfl) ds s
theorem tl_1 (ds : List D) (s : Sto) : kCall T_law 1 ds s = f__law_spots ds s := tab_get (by rfl) ds s
theorem tl_2 (ds : List D) (s : Sto) : kCall T_law 2 ds s = f__law_take ds s := tab_get (by rfl) ds s
theorem tl_4 (ds : List D) (s : Sto) : kCall T_law 4 ds s = f__law_net ds s := tab_get (by rfl) ds s
theorem tl_5 (ds : List D) (s : Sto) : kCall T_law 5 ds s = f__law_grades ds s := tab_get (by rfl) ds s
theorem tl_6 (ds : List D) (s : Sto) : kCall T_law 6 ds s = f__law_roads ds s := tab_get (by rfl) ds s
theorem tl_7 (ds : List D) (s : Sto) : kCall T_law 7 ds s = f__law_alike ds s := tab_get (by rfl) ds s
theorem tl_8 (ds : List D) (s : Sto) : kCall T_law 8 ds s = f__law_needles ds s := tab_get (by rfl) ds s
theorem tl_11 (ds : List D) (s : Sto) : kCall T_law 11 ds s = f_spots_of ds s := tab_get (by rfl) ds s
theorem tl_15 (ds : List D) (s : Sto) : kCall T_law 15 ds s = f_asked_of ds s := tab_get (by rfl) ds s
theorem tl_17 (ds : List D) (s : Sto) : kCall T_law 17 ds s = f_ways_of ds s := tab_get (by rfl) ds s
theorem tl_18 (ds : List D) (s : Sto) : kCall T_law 18 ds s = f_first_double ds s := tab_get (by rfl) ds s
theorem tl_19 (ds : List D) (s : Sto) : kCall T_law 19 ds s = f_are_single ds s := tab_get (by rfl) ds s
theorem tl_20 (ds : List D) (s : Sto) : kCall T_law 20 ds s = f_do_fit ds s := tab_get (by rfl) ds s
theorem kTup1 (a : D) (s : Sto) : kTup [a] s = .ok (.tup [a]) s := by
  unfold kTup
  exact if_pos (show 1 ≤ SZ from by decide)
theorem kTup2 (a b : D) (s : Sto) : kTup [a, b] s = .ok (.tup [a, b]) s := by
  unfold kTup
  exact if_pos (show 2 ≤ SZ from by decide)
theorem kLst0 (s : Sto) : kLst [] s = .ok (.ref s.length) (s ++ [.lst []]) := by
  unfold kLst newL
  exact if_pos (show 0 ≤ SZ from by decide)
theorem kLst1 (a : D) (s : Sto) : kLst [a] s = .ok (.ref s.length) (s ++ [.lst [a]]) := by
  unfold kLst newL
  exact if_pos (show 1 ≤ SZ from by decide)
theorem kLst2 (a b : D) (s : Sto) : kLst [a, b] s = .ok (.ref s.length) (s ++ [.lst [a, b]]) := by
  unfold kLst newL
  exact if_pos (show 2 ≤ SZ from by decide)
theorem i_r1_n {F : Fns} {e : E} {env : En} {s s1 : Sto} {j : Nat} (h : evE F e env s = .ok (natD j) s1) (hj : j < 4611686018427387904) : evI F (.r1 e) env s = .ok (rangeL 0 1 j, .free) s1 := by
  rw [i_r1, h, Out.bind_ok]
  exact kR1_n j s1 hj
structure Cx2 (s : Sto) (N : Net) (a n x : Bool) (g sp rd q : Nat) : Prop where
  sm : Small N (N.near a n x)
  V0 : 3 ≤ N.nodes.length
  T2 : N.told.length ≤ 2
  gr : s[g]? = some (grO a n x)
  spots : s[sp]? = some (.lst (N.sp.map spotD))
  rds : s[rd]? = some (.lst ((List.range N.nodes.length).map fun v => D.ref (q + v)))
  rows : ∀ v, v < N.nodes.length → ∃ kvs, s[q + v]? = some (.dct kvs) ∧ Row kvs (RR N.U (N.near a n x) v)
  ng : g ≠ 2
  ns : sp ≠ 2
  nr : rd ≠ 2
  nq : 3 ≤ q
theorem Cx2.step {s s' : Sto} {N : Net} {a n x : Bool} {g sp rd q m c : Nat} (C : Cx2 s N a n x g sp rd q) (G : Gr s s' 2 m c) : Cx2 s' N a n x g sp rd q :=
  ⟨C.sm, C.V0, C.T2, G.get C.gr C.ng, G.get C.spots C.ns, G.get C.rds C.nr, fun v hv => by
    obtain ⟨kvs, h1, h2⟩ := C.rows v hv
    exact ⟨kvs, G.get h1 (by have := C.nq; omega), h2⟩, C.ng, C.ns, C.nr, C.nq⟩
section
variable {s : Sto} {a0 x2 x3 x4 x5 x6 x7 x8 x9 x10 x11 x12 x13 x14 x15 x16 x17 x18 : Option D} {c : Nat}
theorem s1_ok (w : Wf s) (B : BagAt s 2 1 c) (hc : c < 500000000) : ∃ (N : Net) (a n x : Bool) (g : Nat) (s' : Sto), evS T_law (.set (.t (.cons (.n 3) (.cons (.n 4) (.nil)))) (.tup (.cons (.call 4 (.cons (.v 1) (.cons (.op .add (.k (.int 1)) (.call 2 (.cons (.v 1) (.cons (.k (.int 5)) (.nil))))) (.nil)))) (.cons (.call 5 (.cons (.v 1) (.nil))) (.nil))))) [a0, some (.ref 2), x2, x3, x4, x5, x6, x7, x8, x9, x10, x11, x12, x13, x14, x15, x16, x17, x18] s = .nx [a0, some (.ref 2), x2, some N.d, some (.ref g), x5, x6, x7, x8, x9, x10, x11, x12, x13, x14, x15, x16, x17, x18] s' ∧
    Gr s s' 2 1 (c + 50) ∧ s'[g]? = some (grO a n x) ∧ s.length ≤ g ∧ Small N (N.near a n x) ∧ 3 ≤ N.nodes.length ∧ N.told.length ≤ 2 := by
  have g0 := Gr.refl w B
  obtain ⟨k, s1, e1, hk, o1, g1⟩ := g0.take (many := 5) (by omega) (by omega) (by omega)
  have e1' : f__law_take [.ref 2, .int 5] s = .ok (natD k) s1 := e1
  have ha : evAdd (.int 1) (natD k) s1 = .ok (natD (1 + k)) s1 := addN 1 k
  obtain ⟨N, s2, e2, n1, n2, n3, n4, n5, o2, B2, w2⟩ := net_ok (many := 1 + k) g1.wf g1.bag (by omega) (by omega)
  obtain ⟨a, n, x, s3, e3, o3, B3, w3⟩ := grades_ok w2 B2 (by omega)
  have g2 := (g1.step o2 B2 w2).step o3 B3 w3
  have g3 : Gr s (s3 ++ [grO a n x]) 2 1 (c + 50) := (g2.app (j := [grO a n x]) (by rw [List.all_cons, List.all_nil, Bool.and_true]; rfl)).mono (by omega)
  have hl3 := o3.len
  have hl2 := o2.len
  have hle := g1.le
  refine ⟨N, a, n, x, s2.length, s3 ++ [grO a n x], ?_, g3, by rw [← hl3]; exact app_at _ _ _, by omega, small_of n1 (by omega) n2 n3 n4 n5, by omega, n3⟩
  simp -implicitDefEqProofs only [sl_cons, sl_nil, q_ex, q_set, q_p2, q_p3, q_si, q_au, q_ax, q_if, q_for, q_ret, q_retN, q_pass, q_raise, e_v, e_k, e_tup, e_lst, e_dct, e_op, e_cmp, e_isN, e_notN, e_and, e_or, e_not, e_ifx, e_call, e_bi, e_m0, e_m1, e_g1, e_g2, e_ix, e_sl, l_nil, l_cons, o_no, o_so, t_t, c_no, c_so, kTup1, kTup2, kLst0, kLst1, kLst2, kOp2, kOp1, kCmp2, kCmp1, kIsN, kNotN, kAnd, kOr, kTru, kNot, kM0, kM1b, kM1, kG1b, kG1, kG2c, kG2b, kG2, kIx2, kIx1, kSl3, kSl2, kSl1, kL2, kL1, kEx, kSet, kP2b, kP2, kP3c, kP3b, kP3, kSi3, kSi2, kSi1, kAu3, kAu2, kAx5, kAx4, kAx3, kAx2, kAx1, kRet, evOp, evCmp, bindG, bindGs, List.getElem?_cons_zero, List.getElem?_cons_succ, kV_ok, Out.bind_ok, tl_0, tl_1, tl_2, tl_4, tl_5, tl_6, tl_7, tl_8, tl_11, tl_15, tl_17, tl_18, tl_19, tl_20, e1', ha, noexc_ok, e2, e3, Out.sb_ok, List.set_cons_zero, List.set_cons_succ, kSet2_s]
theorem s2_ok {N : Net} {a n x : Bool} (w : Wf s) (S : Small N (N.near a n x)) (hT : N.told.length ≤ 2) : evS T_law (.set (.n 5) (.call 1 (.cons (.v 3) (.nil)))) [a0, some (.ref 2), x2, some N.d, x4, x5, x6, x7, x8, x9, x10, x11, x12, x13, x14, x15, x16, x17, x18] s = .nx [a0, some (.ref 2), x2, some N.d, x4, some (.ref s.length), x6, x7, x8, x9, x10, x11, x12, x13, x14, x15, x16, x17, x18] (s ++ [.lst (N.sp.map spotD)]) := by
  have h := lspots_ok N w (by have := S.V; omega) (by omega)
  simp -implicitDefEqProofs only [sl_cons, sl_nil, q_ex, q_set, q_p2, q_p3, q_si, q_au, q_ax, q_if, q_for, q_ret, q_retN, q_pass, q_raise, e_v, e_k, e_tup, e_lst, e_dct, e_op, e_cmp, e_isN, e_notN, e_and, e_or, e_not, e_ifx, e_call, e_bi, e_m0, e_m1, e_g1, e_g2, e_ix, e_sl, l_nil, l_cons, o_no, o_so, t_t, c_no, c_so, kTup1, kTup2, kLst0, kLst1, kLst2, kOp2, kOp1, kCmp2, kCmp1, kIsN, kNotN, kAnd, kOr, kTru, kNot, kM0, kM1b, kM1, kG1b, kG1, kG2c, kG2b, kG2, kIx2, kIx1, kSl3, kSl2, kSl1, kL2, kL1, kEx, kSet, kP2b, kP2, kP3c, kP3b, kP3, kSi3, kSi2, kSi1, kAu3, kAu2, kAx5, kAx4, kAx3, kAx2, kAx1, kRet, evOp, evCmp, bindG, bindGs, List.getElem?_cons_zero, List.getElem?_cons_succ, kV_ok, Out.bind_ok, tl_0, tl_1, tl_2, tl_4, tl_5, tl_6, tl_7, tl_8, tl_11, tl_15, tl_17, tl_18, tl_19, tl_20, h, Out.sb_ok, List.set_cons_zero, List.set_cons_succ, kSet2_s]
theorem s3_ok {N : Net} {a n x : Bool} {g sp : Nat} (w : Wf s) (B : BagAt s 2 1 c) (S : Small N (N.near a n x)) (hV : 3 ≤ N.nodes.length) (hT : N.told.length ≤ 2) (hg : s[g]? = some (grO a n x)) (hg2 : g ≠ 2) (hsp : s[sp]? = some (.lst (N.sp.map spotD))) (hs2 : sp ≠ 2) :
    ∃ (rd q : Nat) (x6' : Option D) (s' : Sto), evS T_law (.set (.n 7) (.lc (.call 6 (.cons (.v 3) (.cons (.v 4) (.cons (.v 6) (.nil))))) (.n 6) (.r1 (.bi .len (.ix (.v 3) (.k (.int 3))))) (.no) [6])) [a0, some (.ref 2), x2, some N.d, some (.ref g), x5, x6, x7, x8, x9, x10, x11, x12, x13, x14, x15, x16, x17, x18] s = .nx [a0, some (.ref 2), x2, some N.d, some (.ref g), x5, x6, some (.ref rd), x8, x9, x10, x11, x12, x13, x14, x15, x16, x17, x18] s' ∧ Gr s s' 2 1 c ∧ Cx2 s' N a n x g sp rd q := by
  have hVV := S.V
  have g0 := Gr.refl w B
  obtain ⟨ys, s1, e1, ds, rfl, d1, d2, rfl, gd⟩ := lcL_inv (bind := bindG (.n 6)) (t := fun env st => evC T_law .no env st) (f := fun env st => evE T_law (.call 6 (.cons (.v 3) (.cons (.v 4) (.cons (.v 6) (.nil))))) env st) (chk := Chk.free.ok) (env := wipeE [a0, some (.ref 2), x2, some N.d, some (.ref g), x5, x6, x7, x8, x9, x10, x11, x12, x13, x14, x15, x16, x17, x18] [6])
    (fun j ys s1 => ∃ ds : Sto, s1 = s ++ ds ∧ ds.length = j ∧ (∀ v, v < j → ∃ kvs, ds[v]? = some (.dct kvs) ∧ Row kvs (RR N.U (N.near a n x) v)) ∧ ys = (List.range j).map (fun v => D.ref (s.length + v)) ∧ Gr s s1 2 1 c) (xs := rangeL 0 1 N.nodes.length) (fun _ _ _ _ => rfl)
    (fun j ys s1 y h hy => by
      obtain ⟨ds, rfl, d1, d2, rfl, gd⟩ := h
      obtain ⟨hj, rfl⟩ := rangeL_get hy
      have ej : D.int (0 + (j : Int) * 1) = natD j := by unfold natD; congr 1; omega
      rw [ej]
      obtain ⟨kvs, r1, r2⟩ := roads_ok (v0 := j) gd.wf (gd.get hg hg2) S.V hT S.G hj
      refine ⟨_, s ++ ds, s ++ ds ++ [.dct kvs], .ref (s ++ ds).length, rfl, c_no _ _, ?_, ds ++ [.dct kvs], List.append_assoc _ _ _, by simp [d1], fun v hv => ?_, ?_, ?_⟩
      · simp -implicitDefEqProofs only [wipeE, List.set_cons_succ, List.set_cons_zero, sl_cons, sl_nil, q_ex, q_set, q_p2, q_p3, q_si, q_au, q_ax, q_if, q_for, q_ret, q_retN, q_pass, q_raise, e_v, e_k, e_tup, e_lst, e_dct, e_op, e_cmp, e_isN, e_notN, e_and, e_or, e_not, e_ifx, e_call, e_bi, e_m0, e_m1, e_g1, e_g2, e_ix, e_sl, l_nil, l_cons, o_no, o_so, t_t, c_no, c_so, kTup1, kTup2, kLst0, kLst1, kLst2, kOp2, kOp1, kCmp2, kCmp1, kIsN, kNotN, kAnd, kOr, kTru, kNot, kM0, kM1b, kM1, kG1b, kG1, kG2c, kG2b, kG2, kIx2, kIx1, kSl3, kSl2, kSl1, kL2, kL1, kEx, kSet, kP2b, kP2, kP3c, kP3b, kP3, kSi3, kSi2, kSi1, kAu3, kAu2, kAx5, kAx4, kAx3, kAx2, kAx1, kRet, evOp, evCmp, bindG, bindGs, List.getElem?_cons_zero, List.getElem?_cons_succ, kV_ok, Out.bind_ok, tl_0, tl_1, tl_2, tl_4, tl_5, tl_6, tl_7, tl_8, tl_11, tl_15, tl_17, tl_18, tl_19, tl_20, r1]
      · by_cases e : v = j
        · subst e
          exact ⟨kvs, by rw [List.getElem?_append_right (by omega), d1, Nat.sub_self]; rfl, r2⟩
        · obtain ⟨k2, q1, q2⟩ := d2 v (by omega)
          exact ⟨k2, app_low q1, q2⟩
      · rw [List.range_succ, List.map_append]
        simp [d1]
      · exact gd.app (by rw [List.all_cons, List.all_nil, Bool.and_true]; exact r2.closed _)) (st := s) ⟨[], by simp, rfl, fun v hv => by omega, rfl, by simpa using g0⟩
  have hlr : (rangeL 0 1 N.nodes.length).length = N.nodes.length := by simp [rangeL]
  rw [hlr] at e1 d1 d2
  let refs : List D := (List.range N.nodes.length).map fun v => D.ref (s.length + v)
  have hx : ∀ (l : List Nat) (m : Nat), (∀ v ∈ l, s.length + v < m) → closeds m (l.map fun v => D.ref (s.length + v)) = true := fun l m => by
    induction l with
    | nil => exact fun _ => rfl
    | cons v l ih =>
      intro h
      simp only [List.map_cons, closeds, Ev.closed, Bool.and_eq_true, decide_eq_true_eq]
      exact ⟨h v List.mem_cons_self, ih fun u hu => h u (List.mem_cons_of_mem _ hu)⟩
  have hcl : closedO ((s ++ ds).length + 1) (.lst refs) = true := hx _ _ fun v hv => by
    have := List.mem_range.mp hv
    rw [List.length_append]
    omega
  have g3 : Gr s (s ++ ds ++ [.lst refs]) 2 1 c := gd.app (by rw [List.all_cons, List.all_nil, Bool.and_true]; exact hcl)
  have hs3 : 2 < s.length := g0.bl
  have lcx : lcX T_law (.call 6 (.cons (.v 3) (.cons (.v 4) (.cons (.v 6) (.nil))))) (.n 6) .no [6] [a0, some (.ref 2), x2, some N.d, some (.ref g), x5, x6, x7, x8, x9, x10, x11, x12, x13, x14, x15, x16, x17, x18] .free (rangeL 0 1 N.nodes.length) s = .ok refs (s ++ ds) := e1
  have hlc : kLc1 T_law (.call 6 (.cons (.v 3) (.cons (.v 4) (.cons (.v 6) (.nil))))) (.n 6) .no [6] [a0, some (.ref 2), x2, some N.d, some (.ref g), x5, x6, x7, x8, x9, x10, x11, x12, x13, x14, x15, x16, x17, x18] (rangeL 0 1 N.nodes.length, .free) s = .ok (.ref (s ++ ds).length) (s ++ ds ++ [.lst refs]) := by
    unfold kLc1
    rw [if_pos (show (rangeL 0 1 N.nodes.length).length ≤ SZ from by rw [hlr]; exact Nat.le_trans hVV (show 8 ≤ SZ from by decide)), lcx]
    rfl
  have hlen : evE T_law (.bi .len (.ix (.v 3) (.k (.int 3)))) [a0, some (.ref 2), x2, some N.d, some (.ref g), x5, x6, x7, x8, x9, x10, x11, x12, x13, x14, x15, x16, x17, x18] s = .ok (natD N.nodes.length) s := by
    have hb : kBi .len s.length (.tup (N.nodes.map Nd.d)) s = .ok (.int N.nodes.length) s := bi_len 0 _ _ w (by simp [biLen])
    simp -implicitDefEqProofs only [sl_cons, sl_nil, q_ex, q_set, q_p2, q_p3, q_si, q_au, q_ax, q_if, q_for, q_ret, q_retN, q_pass, q_raise, e_v, e_k, e_tup, e_lst, e_dct, e_op, e_cmp, e_isN, e_notN, e_and, e_or, e_not, e_ifx, e_call, e_bi, e_m0, e_m1, e_g1, e_g2, e_ix, e_sl, l_nil, l_cons, o_no, o_so, t_t, c_no, c_so, kTup1, kTup2, kLst0, kLst1, kLst2, kOp2, kOp1, kCmp2, kCmp1, kIsN, kNotN, kAnd, kOr, kTru, kNot, kM0, kM1b, kM1, kG1b, kG1, kG2c, kG2b, kG2, kIx2, kIx1, kSl3, kSl2, kSl1, kL2, kL1, kEx, kSet, kP2b, kP2, kP3c, kP3b, kP3, kSi3, kSi2, kSi1, kAu3, kAu2, kAx5, kAx4, kAx3, kAx2, kAx1, kRet, evOp, evCmp, bindG, bindGs, List.getElem?_cons_zero, List.getElem?_cons_succ, kV_ok, Out.bind_ok, net3, noexc_ok, hb]
    rfl
  refine ⟨(s ++ ds).length, s.length, none, s ++ ds ++ [.lst refs], ?_, g3, ⟨S, hV, hT, g3.get hg hg2, g3.get hsp hs2, app_at _ _ _, fun v hv => ?_, hg2, hs2, by rw [List.length_append]; omega, by omega⟩⟩
  · rw [q_set, e_lc, i_r1_n hlen (by omega), Out.bind_ok, hlc, Out.sb_ok]
    rfl
  · obtain ⟨kvs, q1, q2⟩ := d2 v hv
    refine ⟨kvs, ?_, q2⟩
    rw [List.append_assoc, List.getElem?_append_right (by omega), show s.length + v - s.length = v from by omega, List.getElem?_append_left (by omega)]
    exact q1
end
end Lw
end

section
set_option Elab.async false
set_option linter.all false
set_option maxRecDepth 100000
set_option autoImplicit false
set_option maxHeartbeats 1000000
/-! M21: a turn's middle -/
namespace Lw
open PySem L2 Ev
section
variable {s : Sto} {a0 x2 x3 x4 x5 x6 x7 x8 x9 x10 x11 x12 x13 x14 x15 x16 x17 x18 : Option D} {c : Nat} {N : Net} {a n x : Bool} {g sp rd q : Nat}
theorem Cx2.out (C : Cx2 s N a n x g sp rd q) (v k : Nat) (h : N.sp.length ≤ k) : RR N.U (N.near a n x) v k = 0 := RR_out v k (by rw [U_len]; exact h)
theorem waysE {env : En} (w : Wf s) (C : Cx2 s N a n x g sp rd q) (h7 : env[7]? = some (some (.ref rd))) (hl : env.length = 19) : evE T_law (.bi .tuple (.lc (.bi .tuple (.bi .sortI (.v 8))) (.n 8) (.of (.v 7)) (.no) [8])) env s = .ok (waysD N (N.near a n x)) s := by
  have hV := C.sm.V
  have hL := C.sm.L
  have hwk : walkD (.ref rd) s = some ((List.range N.nodes.length).map (fun v => D.ref (q + v)), .at_ rd (.lst ((List.range N.nodes.length).map fun v => D.ref (q + v)))) := by simp only [walkD, C.rds]
  have lc := lc_map (F := T_law) (elt := .bi .tuple (.bi .sortI (.v 8))) (G := .n 8) (c := .no) (own := [8]) (env := env) (chk := .at_ rd (.lst ((List.range N.nodes.length).map fun v => D.ref (q + v)))) (st := s) (List.range N.nodes.length) (fun v => D.ref (q + v)) (fun v => .tup (rowD (RR N.U (N.near a n x) v) N.sp.length)) (by simp; omega) (decide_eq_true C.rds) (by
    intro v hv
    obtain ⟨kvs, q1, q2⟩ := C.rows v (List.mem_range.mp hv)
    refine ⟨_, rfl, c_no _ _, sorted_row w ?_ q1 q2 (C.out v) (by omega)⟩
    simp [wipeE, hl])
  have hz : ((List.range N.nodes.length).map fun v => D.tup (rowD (RR N.U (N.near a n x) v) N.sp.length)).length ≤ SZ := by
    rw [List.length_map, List.length_range]
    exact Nat.le_trans hV (show 8 ≤ SZ from by decide)
  have hb : biTuple (.ref s.length) (s ++ [.lst ((List.range N.nodes.length).map fun v => D.tup (rowD (RR N.U (N.near a n x) v) N.sp.length))]) = .ok (waysD N (N.near a n x)) (s ++ [.lst ((List.range N.nodes.length).map fun v => D.tup (rowD (RR N.U (N.near a n x) v) N.sp.length))]) := by
    simp only [biTuple, itemsD, app_at]
    rw [if_pos hz]
    rfl
  have hg := gc_old (js := [.lst ((List.range N.nodes.length).map fun v => D.tup (rowD (RR N.U (N.near a n x) v) N.sp.length))]) w (closed_ways s.length N (N.near a n x))
  rw [e_bi, e_lc, i_of, e_v, h7, kV_ok, Out.bind_ok]
  simp only [kWalk, hwk, kWalk2_s]
  rw [Out.bind_ok, lc, Out.bind_ok]
  simp only [kBi, evBi, evBi0, hb, Out.bind_ok, hg, noexc_ok]
theorem s4_ok (w : Wf s) (B : BagAt s 2 1 c) (C : Cx2 s N a n x g sp rd q) : ∃ s', evS T_law (.ife (.not (.call 7 (.cons (.lst (.cons (.call 11 (.cons (.v 3) (.nil))) (.cons (.call 17 (.cons (.v 3) (.cons (.v 4) (.nil)))) (.nil)))) (.cons (.lst (.cons (.v 5) (.cons (.bi .tuple (.lc (.bi .tuple (.bi .sortI (.v 8))) (.n 8) (.of (.v 7)) (.no) [8])) (.nil)))) (.nil))))) (.cons (.ret (.k (.bl false))) (.nil)) (.nil)) [a0, some (.ref 2), x2, some N.d, some (.ref g), some (.ref sp), x6, some (.ref rd), x8, x9, x10, x11, x12, x13, x14, x15, x16, x17, x18] s = .nx [a0, some (.ref 2), x2, some N.d, some (.ref g), some (.ref sp), x6, some (.ref rd), x8, x9, x10, x11, x12, x13, x14, x15, x16, x17, x18] s' ∧ Gr s s' 2 1 c := by
  have hV := C.sm.V
  have hT := C.T2
  have g0 := Gr.refl w B
  have h1 := spots_ok N w (by omega) (by omega)
  have g1 : Gr s (s ++ [.lst (N.sp.map spotD)]) 2 1 c := g0.app (by rw [List.all_cons, List.all_nil, Bool.and_true]; exact closed_spots _ _)
  have C1 := C.step g1
  have h2 := ways_ok g1.wf C1.gr (by omega) (by omega) C.sm.G C.sm.low
  have gsl := g0.le
  have cl2 : ∀ (l : Sto) (r : Nat), r < l.length → closedO (l.length + 1) (.lst [.ref r, waysD N (N.near a n x)]) = true := fun l r h => by
    show (decide (r < l.length + 1) && (closed (l.length + 1) (waysD N (N.near a n x)) && true)) = true
    rw [closed_ways, decide_eq_true (by omega)]
    rfl
  have g2 : Gr s (s ++ [.lst (N.sp.map spotD)] ++ [.lst [.ref s.length, waysD N (N.near a n x)]]) 2 1 c := g1.app (by rw [List.all_cons, List.all_nil, Bool.and_true]; exact cl2 _ _ (by simp))
  have C2 := C.step g2
  have h3 := waysE (env := [a0, some (.ref 2), x2, some N.d, some (.ref g), some (.ref sp), x6, some (.ref rd), x8, x9, x10, x11, x12, x13, x14, x15, x16, x17, x18]) g2.wf C2 rfl rfl
  have hspl := (List.getElem?_eq_some_iff.mp C2.spots).1
  have g3 : Gr s (s ++ [.lst (N.sp.map spotD)] ++ [.lst [.ref s.length, waysD N (N.near a n x)]] ++ [.lst [.ref sp, waysD N (N.near a n x)]]) 2 1 c := g2.app (by rw [List.all_cons, List.all_nil, Bool.and_true]; exact cl2 _ _ hspl)
  have hal := alike1 (nr := N.near a n x) (r1 := (s ++ [MO.lst (N.sp.map spotD)]).length) (s1 := s.length) (r2 := (s ++ [MO.lst (N.sp.map spotD)] ++ [MO.lst [.ref s.length, waysD N (N.near a n x)]]).length) (s2 := sp) C.sm g3.wf (by
    rw [List.append_assoc]
    exact app_at _ _ _) (by rw [List.append_assoc, List.append_assoc]; exact app_at _ _ _) (app_at _ _ _) (C.step g3).spots
  refine ⟨_, ?_, g3⟩
  simp -implicitDefEqProofs only [sl_cons, sl_nil, q_ex, q_set, q_p2, q_p3, q_si, q_au, q_ax, q_if, q_for, q_ret, q_retN, q_pass, q_raise, e_v, e_k, e_tup, e_lst, e_dct, e_op, e_cmp, e_isN, e_notN, e_and, e_or, e_not, e_ifx, e_call, e_bi, e_m0, e_m1, e_g1, e_g2, e_ix, e_sl, l_nil, l_cons, o_no, o_so, t_t, c_no, c_so, kTup1, kTup2, kLst0, kLst1, kLst2, kOp2, kOp1, kCmp2, kCmp1, kIsN, kNotN, kAnd, kOr, kTru, kNot, kM0, kM1b, kM1, kG1b, kG1, kG2c, kG2b, kG2, kIx2, kIx1, kSl3, kSl2, kSl1, kL2, kL1, kEx, kSet, kP2b, kP2, kP3c, kP3b, kP3, kSi3, kSi2, kSi1, kAu3, kAu2, kAx5, kAx4, kAx3, kAx2, kAx1, kRet, evOp, evCmp, bindG, bindGs, List.getElem?_cons_zero, List.getElem?_cons_succ, kV_ok, Out.bind_ok, Out.sb_ok, noexc_ok, List.set_cons_zero, List.set_cons_succ, kSet2_s, seq_nx, kTru2_s, truD, tl_0, tl_1, tl_2, tl_4, tl_5, tl_6, tl_7, tl_8, tl_11, tl_15, tl_17, tl_18, tl_19, tl_20, h1, h2, ↓h3, hal, Bool.not_true, kIfS_f]
theorem s5_ok (w : Wf s) (B : BagAt s 2 1 c) : evS T_law (.set (.n 9) (.lst (.nil))) [a0, some (.ref 2), x2, x3, x4, x5, x6, x7, x8, x9, x10, x11, x12, x13, x14, x15, x16, x17, x18] s = .nx [a0, some (.ref 2), x2, x3, x4, x5, x6, x7, x8, some (.ref s.length), x10, x11, x12, x13, x14, x15, x16, x17, x18] (s ++ [.lst []]) ∧ Gr s (s ++ [.lst []]) 2 1 c := by
  refine ⟨?_, (Gr.refl w B).app rfl⟩
  simp -implicitDefEqProofs only [sl_cons, sl_nil, q_ex, q_set, q_p2, q_p3, q_si, q_au, q_ax, q_if, q_for, q_ret, q_retN, q_pass, q_raise, e_v, e_k, e_tup, e_lst, e_dct, e_op, e_cmp, e_isN, e_notN, e_and, e_or, e_not, e_ifx, e_call, e_bi, e_m0, e_m1, e_g1, e_g2, e_ix, e_sl, l_nil, l_cons, o_no, o_so, t_t, c_no, c_so, kTup1, kTup2, kLst0, kLst1, kLst2, kOp2, kOp1, kCmp2, kCmp1, kIsN, kNotN, kAnd, kOr, kTru, kNot, kM0, kM1b, kM1, kG1b, kG1, kG2c, kG2b, kG2, kIx2, kIx1, kSl3, kSl2, kSl1, kL2, kL1, kEx, kSet, kP2b, kP2, kP3c, kP3b, kP3, kSi3, kSi2, kSi1, kAu3, kAu2, kAx5, kAx4, kAx3, kAx2, kAx1, kRet, evOp, evCmp, bindG, bindGs, List.getElem?_cons_zero, List.getElem?_cons_succ, kV_ok, Out.bind_ok, Out.sb_ok, noexc_ok, List.set_cons_zero, List.set_cons_succ, kSet2_s, seq_nx, kTru2_s, truD]
end
end Lw
end

section
set_option Elab.async false
set_option linter.all false
set_option maxRecDepth 100000
set_option autoImplicit false
set_option maxHeartbeats 1000000
/-! M22: the doubles of a turn -/
namespace Lw
open PySem L2 Ev
theorem lc_filt {F : Fns} {elt : E} {G : G} {c : EO} {own : List Nat} {env : En} {chk : Chk} {st : Sto} {α : Type} (ys : List α) (toD g : α → D) (p : α → Bool) (hl : ys.length ≤ 1000) (hc : chk.ok st = true)
    (h : ∀ y ∈ ys, ∃ env1, bindG G (toD y) (wipeE env own) = some env1 ∧ evC F c env1 st = .ok (p y) st ∧ (p y = true → evE F elt env1 st = .ok (g y) st)) : kLc1 F elt G c own env (ys.map toD, chk) st = .ok (.ref st.length) (st ++ [.lst ((ys.filter p).map g)]) := by
  unfold kLc1
  rw [if_pos (by simp [SZ]; omega)]
  have key : ∀ (zs : List α) (acc : List D), (∀ y ∈ zs, ∃ env1, bindG G (toD y) (wipeE env own) = some env1 ∧ evC F c env1 st = .ok (p y) st ∧ (p y = true → evE F elt env1 st = .ok (g y) st)) →
      lcL (bindG G) (fun env st => evC F c env st) (fun env st => evE F elt env st) chk.ok (wipeE env own) acc (zs.map toD) st = .ok (acc ++ (zs.filter p).map g) st := by
    intro zs
    induction zs with
    | nil => intro acc _; simp [lcL, hc]
    | cons z zs ih =>
      intro acc h
      obtain ⟨env1, h1, h2, h3⟩ := h z List.mem_cons_self
      have ih := fun acc => ih acc fun y hy => h y (List.mem_cons_of_mem _ hy)
      cases e : p z with
      | true =>
        rw [e] at h2
        simp only [List.map_cons, lcL, hc, if_true, h1, h2, noexc_ok, Out.bind_ok, h3 e, ih, List.filter_cons, e]
        simp
      | false =>
        rw [e] at h2
        simp only [List.map_cons, lcL, hc, if_true, h1, h2, noexc_ok, Out.bind_ok, ih, List.filter_cons, e]
        simp
  unfold lcX
  rw [key ys [] h]
  rfl
theorem ix_row {s : Sto} {r k : Nat} {kvs : List (Key × D)} {f : Nat → Nat} (h : s[r]? = some (.dct kvs)) (R : Row kvs f) (h0 : 0 < f k) : evIx (.ref r) (natD k) s = .ok (natD (f k)) s := by
  have := R.look1 k h0
  simp only [evIx, natD, itemsD, h, dictAt]
  unfold natD at this
  rw [this]
theorem gt_nat {s : Sto} (a b : Nat) : evGt (natD a) (natD b) s = .ok (.bl (decide (b < a))) s := by
  unfold evGt natD
  have : decide ((b : Int) < (a : Int)) = decide (b < a) := by
    by_cases h : b < a
    · rw [decide_eq_true h, decide_eq_true (by omega)]
    · rw [decide_eq_false h, decide_eq_false (by omega)]
  simp only [this]
section
variable {s : Sto} {a0 x2 x3 x4 x5 x6 x7 x8 x9 x10 x11 x12 x13 x14 x15 x16 x17 x18 : Option D} {c : Nat} {N : Net} {a n x : Bool} {g sp rd q : Nat}
def dblTo (N : Net) (nr : Nat → Bool) (j : Nat) : List (Nat × Nat) := (List.range j).flatMap fun v => (frow N nr v).map fun k => (v, k)
theorem dblTo_succ (nr : Nat → Bool) (j : Nat) : dblTo N nr (j + 1) = dblTo N nr j ++ (frow N nr j).map fun k => (j, k) := by
  unfold dblTo
  rw [List.range_succ, List.flatMap_append]
  simp
theorem frow_len (N : Net) (nr : Nat → Bool) (v : Nat) : (frow N nr v).length ≤ N.sp.length := by
  unfold frow
  exact Nat.le_trans (List.length_filter_le _ _) (ups_len _ _)
theorem dblTo_len (N : Net) (nr : Nat → Bool) (j : Nat) : (dblTo N nr j).length ≤ j * N.sp.length := by
  induction j with
  | zero => simp [dblTo]
  | succ j ih =>
    rw [dblTo_succ, List.length_append, List.length_map, Nat.succ_mul]
    have := frow_len N nr j
    omega
theorem closed_pairs (k : Nat) (ps : List (Nat × Nat)) : closeds k (ps.map pairD) = true := by
  induction ps with
  | nil => rfl
  | cons p ps ih =>
    show (closed k (pairD p) && closeds k (ps.map pairD)) = true
    rw [ih]
    rfl
/-- one row's doubles -/
theorem row_dbl {v db : Nat} (w : Wf s) (C : Cx2 s N a n x g sp rd q) (hv : v < N.nodes.length) : evE T_law (.lc (.tup (.cons (.v 6) (.cons (.v 16) (.nil)))) (.n 16) (.of (.bi .sortK (.v 8))) (.so (.and (.cmp .gt (.ix (.v 8) (.v 16)) (.k (.int 1))) (.cmp .ne (.ix (.ix (.ix (.v 3) (.k (.int 3))) (.v 6)) (.k (.int 0))) (.k (.str "bit"))))) [16]) [a0, some (.ref 2), x2, some N.d, some (.ref g), some (.ref sp), some (natD v), some (.ref rd), some (.ref (q + v)), x9, x10, x11, x12, x13, x14, x15, x16, x17, x18] s = .ok (.ref (s.length + 1)) (s ++ [.lst ((ups (RR N.U (N.near a n x) v) N.sp.length).map natD)] ++ [.lst (((frow N (N.near a n x) v).map fun k => (v, k)).map pairD)]) := by
  have hL := C.sm.L
  obtain ⟨kvs, q1, q2⟩ := C.rows v hv
  obtain ⟨m, hm⟩ : ∃ m, N.nodes[v]? = some m := ⟨_, List.getElem?_eq_getElem hv⟩
  have hb : biSortK (.ref (q + v)) s = .ok (.ref s.length) (s ++ [.lst ((ups (RR N.U (N.near a n x) v) N.sp.length).map natD)]) := q2.sortK q1 (C.out v) (by omega)
  have hg := gc_new (js := [MO.lst ((ups (RR N.U (N.near a n x) v) N.sp.length).map natD)]) (k := 0) w rfl (closed_nats s.length _)
  have q1' : (s ++ [MO.lst ((ups (RR N.U (N.near a n x) v) N.sp.length).map natD)])[q + v]? = some (.dct kvs) := app_low q1
  generalize hs : s ++ [MO.lst ((ups (RR N.U (N.near a n x) v) N.sp.length).map natD)] = s1 at *
  have hl1 : s1.length = s.length + 1 := by rw [← hs]; simp
  have hwk : walkD (.ref s.length) s1 = some ((ups (RR N.U (N.near a n x) v) N.sp.length).map natD, .at_ s.length (.lst ((ups (RR N.U (N.near a n x) v) N.sp.length).map natD))) := by
    rw [← hs]
    simp only [walkD, app_at]
  have e1 := nodes_at (st := s1) N v m hm
  have e2 := bit_ne (st := s1) hm
  have lc := lc_filt (F := T_law) (elt := (.tup (.cons (.v 6) (.cons (.v 16) (.nil))))) (G := .n 16) (c := (.so (.and (.cmp .gt (.ix (.v 8) (.v 16)) (.k (.int 1))) (.cmp .ne (.ix (.ix (.ix (.v 3) (.k (.int 3))) (.v 6)) (.k (.int 0))) (.k (.str "bit")))))) (own := [16]) (env := [a0, some (.ref 2), x2, some N.d, some (.ref g), some (.ref sp), some (natD v), some (.ref rd), some (.ref (q + v)), x9, x10, x11, x12, x13, x14, x15, x16, x17, x18]) (chk := .at_ s.length (.lst ((ups (RR N.U (N.near a n x) v) N.sp.length).map natD))) (st := s1) (ups (RR N.U (N.near a n x) v) N.sp.length) natD (fun k => pairD (v, k)) (isD N (N.near a n x) v) (by have := ups_len (RR N.U (N.near a n x) v) N.sp.length; omega) (decide_eq_true (by rw [← hs]; exact app_at _ _ _)) (by
    intro k hk
    have hk0 : 0 < RR N.U (N.near a n x) v k := by
      have := (List.mem_filter.mp hk).2
      simpa using this
    have e3 := ix_row q1' q2 hk0
    have e4 := gt_nat (s := s1) (RR N.U (N.near a n x) v k) 1
    refine ⟨[a0, some (.ref 2), x2, some N.d, some (.ref g), some (.ref sp), some (natD v), some (.ref rd), some (.ref (q + v)), x9, x10, x11, x12, x13, x14, x15, some (natD k), x17, x18], rfl, ?_, fun _ => ?_⟩
    · rw [show (D.int 1) = natD 1 from rfl]
      simp -implicitDefEqProofs only [sl_cons, sl_nil, q_ex, q_set, q_p2, q_p3, q_si, q_au, q_ax, q_if, q_for, q_ret, q_retN, q_pass, q_raise, e_v, e_k, e_tup, e_lst, e_dct, e_op, e_cmp, e_isN, e_notN, e_and, e_or, e_not, e_ifx, e_call, e_bi, e_m0, e_m1, e_g1, e_g2, e_ix, e_sl, l_nil, l_cons, o_no, o_so, t_t, c_no, c_so, kTup1, kTup2, kLst0, kLst1, kLst2, kOp2, kOp1, kCmp2, kCmp1, kIsN, kNotN, kAnd, kOr, kTru, kNot, kM0, kM1b, kM1, kG1b, kG1, kG2c, kG2b, kG2, kIx2, kIx1, kSl3, kSl2, kSl1, kL2, kL1, kEx, kSet, kP2b, kP2, kP3c, kP3b, kP3, kSi3, kSi2, kSi1, kAu3, kAu2, kAx5, kAx4, kAx3, kAx2, kAx1, kRet, evOp, evCmp, bindG, bindGs, List.getElem?_cons_zero, List.getElem?_cons_succ, kV_ok, Out.bind_ok, Out.sb_ok, noexc_ok, List.set_cons_zero, List.set_cons_succ, kSet2_s, seq_nx, kTru2_s, truD, wipeE, e3, e4]
      cases hd : decide (1 < RR N.U (N.near a n x) v k) with
      | true =>
        simp -implicitDefEqProofs only [sl_cons, sl_nil, q_ex, q_set, q_p2, q_p3, q_si, q_au, q_ax, q_if, q_for, q_ret, q_retN, q_pass, q_raise, e_v, e_k, e_tup, e_lst, e_dct, e_op, e_cmp, e_isN, e_notN, e_and, e_or, e_not, e_ifx, e_call, e_bi, e_m0, e_m1, e_g1, e_g2, e_ix, e_sl, l_nil, l_cons, o_no, o_so, t_t, c_no, c_so, kTup1, kTup2, kLst0, kLst1, kLst2, kOp2, kOp1, kCmp2, kCmp1, kIsN, kNotN, kAnd, kOr, kTru, kNot, kM0, kM1b, kM1, kG1b, kG1, kG2c, kG2b, kG2, kIx2, kIx1, kSl3, kSl2, kSl1, kL2, kL1, kEx, kSet, kP2b, kP2, kP3c, kP3b, kP3, kSi3, kSi2, kSi1, kAu3, kAu2, kAx5, kAx4, kAx3, kAx2, kAx1, kRet, evOp, evCmp, bindG, bindGs, List.getElem?_cons_zero, List.getElem?_cons_succ, kV_ok, Out.bind_ok, Out.sb_ok, noexc_ok, List.set_cons_zero, List.set_cons_succ, kSet2_s, seq_nx, kTru2_s, truD, wipeE, kAnd2_t, net3, e1, nd0, e2, isD, hd, Bool.true_and]
      | false =>
        simp -implicitDefEqProofs only [sl_cons, sl_nil, q_ex, q_set, q_p2, q_p3, q_si, q_au, q_ax, q_if, q_for, q_ret, q_retN, q_pass, q_raise, e_v, e_k, e_tup, e_lst, e_dct, e_op, e_cmp, e_isN, e_notN, e_and, e_or, e_not, e_ifx, e_call, e_bi, e_m0, e_m1, e_g1, e_g2, e_ix, e_sl, l_nil, l_cons, o_no, o_so, t_t, c_no, c_so, kTup1, kTup2, kLst0, kLst1, kLst2, kOp2, kOp1, kCmp2, kCmp1, kIsN, kNotN, kAnd, kOr, kTru, kNot, kM0, kM1b, kM1, kG1b, kG1, kG2c, kG2b, kG2, kIx2, kIx1, kSl3, kSl2, kSl1, kL2, kL1, kEx, kSet, kP2b, kP2, kP3c, kP3b, kP3, kSi3, kSi2, kSi1, kAu3, kAu2, kAx5, kAx4, kAx3, kAx2, kAx1, kRet, evOp, evCmp, bindG, bindGs, List.getElem?_cons_zero, List.getElem?_cons_succ, kV_ok, Out.bind_ok, Out.sb_ok, noexc_ok, List.set_cons_zero, List.set_cons_succ, kSet2_s, seq_nx, kTru2_s, truD, wipeE, kAnd2_f, isD, hd, Bool.false_and]
    · simp -implicitDefEqProofs only [sl_cons, sl_nil, q_ex, q_set, q_p2, q_p3, q_si, q_au, q_ax, q_if, q_for, q_ret, q_retN, q_pass, q_raise, e_v, e_k, e_tup, e_lst, e_dct, e_op, e_cmp, e_isN, e_notN, e_and, e_or, e_not, e_ifx, e_call, e_bi, e_m0, e_m1, e_g1, e_g2, e_ix, e_sl, l_nil, l_cons, o_no, o_so, t_t, c_no, c_so, kTup1, kTup2, kLst0, kLst1, kLst2, kOp2, kOp1, kCmp2, kCmp1, kIsN, kNotN, kAnd, kOr, kTru, kNot, kM0, kM1b, kM1, kG1b, kG1, kG2c, kG2b, kG2, kIx2, kIx1, kSl3, kSl2, kSl1, kL2, kL1, kEx, kSet, kP2b, kP2, kP3c, kP3b, kP3, kSi3, kSi2, kSi1, kAu3, kAu2, kAx5, kAx4, kAx3, kAx2, kAx1, kRet, evOp, evCmp, bindG, bindGs, List.getElem?_cons_zero, List.getElem?_cons_succ, kV_ok, Out.bind_ok, Out.sb_ok, noexc_ok, List.set_cons_zero, List.set_cons_succ, kSet2_s, seq_nx, kTru2_s, truD, wipeE, pairD])
  have h8 : ([a0, some (.ref 2), x2, some N.d, some (.ref g), some (.ref sp), some (natD v), some (.ref rd), some (.ref (q + v)), x9, x10, x11, x12, x13, x14, x15, x16, x17, x18] : En)[8]? = some (some (.ref (q + v))) := rfl
  rw [e_lc, i_of, e_bi, e_v, h8, kV_ok, Out.bind_ok]
  simp only [kBi, evBi, evBi0, hb, Out.bind_ok, hg, noexc_ok]
  rw [Nat.add_zero] at hg
  simp only [hg, noexc_ok, Out.bind_ok, kWalk, hwk, kWalk2_s]
  rw [lc, hl1, List.map_map]
  rfl
theorem s6_ok {db : Nat} {x6' : Option D} (w : Wf s) (B : BagAt s 2 1 c) (C : Cx2 s N a n x g sp rd q) (hd : s.length = db) :
    ∃ (x6' x8' : Option D) (s' : Sto), evS T_law (.forI (.t (.cons (.n 6) (.cons (.n 8) (.nil)))) (.en (.v 7)) (.cons (.ex (.mth1 .extend (.v 9) (.lc (.tup (.cons (.v 6) (.cons (.v 16) (.nil)))) (.n 16) (.of (.bi .sortK (.v 8))) (.so (.and (.cmp .gt (.ix (.v 8) (.v 16)) (.k (.int 1))) (.cmp .ne (.ix (.ix (.ix (.v 3) (.k (.int 3))) (.v 6)) (.k (.int 0))) (.k (.str "bit"))))) [16]))) (.nil))) [a0, some (.ref 2), x2, some N.d, some (.ref g), some (.ref sp), x6, some (.ref rd), x8, some (.ref db), x10, x11, x12, x13, x14, x15, x16, x17, x18] (s ++ [.lst []]) = .nx [a0, some (.ref 2), x2, some N.d, some (.ref g), some (.ref sp), x6', some (.ref rd), x8', some (.ref db), x10, x11, x12, x13, x14, x15, x16, x17, x18] s' ∧ Gr s s' 2 1 c ∧ s'[db]? = some (.lst ((dbl N (N.near a n x)).map pairD)) := by
  have hV := C.sm.V
  have hL := C.sm.L
  have loop := forL_inv (bind := bindG (.t (.cons (.n 6) (.cons (.n 8) (.nil))))) (body := fun env st => evSL T_law (.cons (.ex (.mth1 .extend (.v 9) (.lc (.tup (.cons (.v 6) (.cons (.v 16) (.nil)))) (.n 16) (.of (.bi .sortK (.v 8))) (.so (.and (.cmp .gt (.ix (.v 8) (.v 16)) (.k (.int 1))) (.cmp .ne (.ix (.ix (.ix (.v 3) (.k (.int 3))) (.v 6)) (.k (.int 0))) (.k (.str "bit"))))) [16]))) (.nil)) env st) (chk := (Chk.at_ rd (.lst ((List.range N.nodes.length).map fun v => D.ref (q + v)))).ok)
    (fun j env s' => (∃ x6' x8', env = [a0, some (.ref 2), x2, some N.d, some (.ref g), some (.ref sp), x6', some (.ref rd), x8', some (.ref db), x10, x11, x12, x13, x14, x15, x16, x17, x18]) ∧ Gr s s' 2 1 c ∧ s'[db]? = some (.lst ((dblTo N (N.near a n x) j).map pairD)))
    (xs := enumL ((List.range N.nodes.length).map fun v => D.ref (q + v))) (fun j env s' h => decide_eq_true (C.step h.2.1).rds)
    (fun j env s' y h hy => by
      obtain ⟨⟨x6', x8', rfl⟩, G', hdb⟩ := h
      obtain ⟨z, hz, rfl⟩ := enumL_get hy
      have hj : j < N.nodes.length := by
        have := (List.getElem?_eq_some_iff.mp hz).1
        rwa [List.length_map, List.length_range] at this
      rw [List.getElem?_map, List.getElem?_range hj] at hz
      cases hz
      have C' := C.step G'
      have r := row_dbl (db := db) (a0 := a0) (x2 := x2) (x9 := some (.ref db)) (x10 := x10) (x11 := x11) (x12 := x12) (x13 := x13) (x14 := x14) (x15 := x15) (x16 := x16) (x17 := x17) (x18 := x18) G'.wf C' hj
      have G2 : Gr s (s' ++ [MO.lst ((ups (RR N.U (N.near a n x) j) N.sp.length).map natD)] ++ [MO.lst (((frow N (N.near a n x) j).map fun k => (j, k)).map pairD)]) 2 1 c := (G'.app (j := [MO.lst ((ups (RR N.U (N.near a n x) j) N.sp.length).map natD)]) (by rw [List.all_cons, List.all_nil, Bool.and_true]; exact closed_nats _ _)).app (j := [MO.lst (((frow N (N.near a n x) j).map fun k => (j, k)).map pairD)]) (by rw [List.all_cons, List.all_nil, Bool.and_true]; exact closed_pairs _ _)
      have il : isL s' (.ref db) = true := by unfold isL; simp only [hdb]
      have i1 : (s' ++ [MO.lst ((ups (RR N.U (N.near a n x) j) N.sp.length).map natD)] ++ [MO.lst (((frow N (N.near a n x) j).map fun k => (j, k)).map pairD)])[db]? = some (.lst ((dblTo N (N.near a n x) j).map pairD)) := app_low (app_low hdb)
      have i2 : (s' ++ [MO.lst ((ups (RR N.U (N.near a n x) j) N.sp.length).map natD)] ++ [MO.lst (((frow N (N.near a n x) j).map fun k => (j, k)).map pairD)])[s'.length + 1]? = some (.lst (((frow N (N.near a n x) j).map fun k => (j, k)).map pairD)) := by
        have := app_at (s' ++ [MO.lst ((ups (RR N.U (N.near a n x) j) N.sp.length).map natD)]) [] (MO.lst (((frow N (N.near a n x) j).map fun k => (j, k)).map pairD))
        rwa [List.length_append] at this
      have hln : ((dblTo N (N.near a n x) j).map pairD).length + (((frow N (N.near a n x) j).map fun k => (j, k)).map pairD).length ≤ SZ := by
        rw [List.length_map, List.length_map, List.length_map]
        have h1 := dblTo_len N (N.near a n x) j
        have h2 := frow_len N (N.near a n x) j
        have h3 : j * N.sp.length ≤ 8 * 11 := Nat.mul_le_mul (by omega) (by omega)
        exact Nat.le_trans (show _ ≤ 100 by omega) (by decide)
      have hx : evMth1 .extend (.ref db) (.ref (s'.length + 1)) (s' ++ [MO.lst ((ups (RR N.U (N.near a n x) j) N.sp.length).map natD)] ++ [MO.lst (((frow N (N.near a n x) j).map fun k => (j, k)).map pairD)]) = .ok .non ((s' ++ [MO.lst ((ups (RR N.U (N.near a n x) j) N.sp.length).map natD)] ++ [MO.lst (((frow N (N.near a n x) j).map fun k => (j, k)).map pairD)]).set db (.lst ((dblTo N (N.near a n x) (j + 1)).map pairD))) := by
        simp only [evMth1, i1, i2]
        rw [if_pos hln, dblTo_succ, List.map_append]
      refine ⟨[a0, some (.ref 2), x2, some N.d, some (.ref g), some (.ref sp), some (natD j), some (.ref rd), some (.ref (q + j)), some (.ref db), x10, x11, x12, x13, x14, x15, x16, x17, x18], _, (s' ++ [MO.lst ((ups (RR N.U (N.near a n x) j) N.sp.length).map natD)] ++ [MO.lst (((frow N (N.near a n x) j).map fun k => (j, k)).map pairD)]).set db (.lst ((dblTo N (N.near a n x) (j + 1)).map pairD)), rfl, .inl ?_, ⟨some (natD j), some (.ref (q + j)), rfl⟩, G2.set (by omega) (closed_pairs _ _), ?_⟩
      · simp -implicitDefEqProofs only [sl_cons, sl_nil, q_ex, q_set, q_p2, q_p3, q_si, q_au, q_ax, q_if, q_for, q_ret, q_retN, q_pass, q_raise, e_v, e_k, e_tup, e_lst, e_dct, e_op, e_cmp, e_isN, e_notN, e_and, e_or, e_not, e_ifx, e_call, e_bi, e_m0, e_m1, e_g1, e_g2, e_ix, e_sl, l_nil, l_cons, o_no, o_so, t_t, c_no, c_so, kTup1, kTup2, kLst0, kLst1, kLst2, kOp2, kOp1, kCmp2, kCmp1, kIsN, kNotN, kAnd, kOr, kTru, kNot, kM0, kM1b, kM1, kG1b, kG1, kG2c, kG2b, kG2, kIx2, kIx1, kSl3, kSl2, kSl1, kL2, kL1, kEx, kSet, kP2b, kP2, kP3c, kP3b, kP3, kSi3, kSi2, kSi1, kAu3, kAu2, kAx5, kAx4, kAx3, kAx2, kAx1, kRet, evOp, evCmp, bindG, bindGs, List.getElem?_cons_zero, List.getElem?_cons_succ, kV_ok, Out.bind_ok, Out.sb_ok, noexc_ok, List.set_cons_zero, List.set_cons_succ, kSet2_s, seq_nx, kTru2_s, truD, wipeE, il, ↓r, hx, if_false, Bool.true_eq_false]
      · rw [List.getElem?_set_self (List.getElem?_eq_some_iff.mp i1).1])
    (env := [a0, some (.ref 2), x2, some N.d, some (.ref g), some (.ref sp), x6, some (.ref rd), x8, some (.ref db), x10, x11, x12, x13, x14, x15, x16, x17, x18]) (st := s ++ [.lst []]) ⟨⟨_, _, rfl⟩, (Gr.refl w B).app rfl, by rw [← hd]; exact app_at _ _ _⟩
  obtain ⟨env', s', e1, ⟨x6', x8', rfl⟩, G', hdb⟩ := loop
  rw [enumL_len, List.length_map, List.length_range] at hdb
  refine ⟨x6', x8', s', ?_, G', hdb⟩
  have hwk : walkD (.ref rd) (s ++ [.lst []]) = some ((List.range N.nodes.length).map (fun v => D.ref (q + v)), .at_ rd (.lst ((List.range N.nodes.length).map fun v => D.ref (q + v)))) := by simp only [walkD, app_low C.rds]
  have h7 : ([a0, some (.ref 2), x2, some N.d, some (.ref g), some (.ref sp), x6, some (.ref rd), x8, some (.ref db), x10, x11, x12, x13, x14, x15, x16, x17, x18] : En)[7]? = some (some (.ref rd)) := rfl
  rw [q_for, i_en, e_v, h7, kV_ok, Out.bind_ok]
  simp only [kEn, hwk, kEn2_s, Out.sb_ok]
  exact e1
end
end Lw
end

section
set_option Elab.async false
set_option linter.all false
set_option maxRecDepth 100000
set_option autoImplicit false
set_option maxHeartbeats 1000000
/-! M23: first double, single -/
namespace Lw
open PySem L2 Ev
def pairP (p : Nat × Nat) : PyData := .tuple [natP p.1, natP p.2]
theorem toP_pair (st : Sto) (n : Nat) (p : Nat × Nat) : toP st (n + 2) (pairD p) = some (pairP p) := toP_tup (by
  simp only [List.mapM_cons, List.mapM_nil, toP_nat]
  rfl)
theorem eq_nils {s : Sto} {r : Nat} {line : List (Nat × Nat)} (h : s[r]? = some (.lst (line.map pairD))) : eqD (s ++ [.lst []]) (.ref r) (.ref s.length) = some line.isEmpty := by
  have h1 : toP (s ++ [.lst []]) 64 (.ref r) = some (.list (line.map pairP)) := toP_lst (app_low h) (toP_map _ _ _ fun p _ => toP_pair _ _ p)
  have h2 : toP (s ++ [.lst []]) 64 (.ref s.length) = some (.list []) := toP_lst (app_at _ _ _) rfl
  unfold eqD
  simp only [h1, h2]
  cases line <;> rfl
theorem ne_nils {s : Sto} {r : Nat} {line : List (Nat × Nat)} (h : s[r]? = some (.lst (line.map pairD))) : evNe (.ref r) (.ref s.length) (s ++ [.lst []]) = .ok (.bl (!line.isEmpty)) (s ++ [.lst []]) := by
  simp only [evNe, eq_nils h]
theorem is_nils {s : Sto} {r : Nat} {line : List (Nat × Nat)} (h : s[r]? = some (.lst (line.map pairD))) : evEq (.ref r) (.ref s.length) (s ++ [.lst []]) = .ok (.bl line.isEmpty) (s ++ [.lst []]) := by
  simp only [evEq, eq_nils h]
section
variable {s : Sto} {a0 x2 x3 x4 x5 x6 x7 x8 x9 x10 x11 x12 x13 x14 x15 x16 x17 x18 : Option D} {c : Nat} {N : Net} {a n x : Bool} {g sp rd q : Nat}
theorem s7_ok {db : Nat} (w : Wf s) (B : BagAt s 2 1 c) (C : Cx2 s N a n x g sp rd q) (hdb : s[db]? = some (.lst ((dbl N (N.near a n x)).map pairD))) :
    ∃ s' : Sto, evS T_law (.ife (.not (.call 7 (.cons (.lst (.cons (.call 18 (.cons (.v 3) (.cons (.v 4) (.nil)))) (.cons (.call 19 (.cons (.v 3) (.cons (.v 4) (.nil)))) (.nil)))) (.cons (.lst (.cons (.ifx (.cmp .ne (.v 9) (.lst (.nil))) (.ix (.v 9) (.k (.int 0))) (.k .non)) (.cons (.cmp .eq (.v 9) (.lst (.nil))) (.nil)))) (.nil))))) (.cons (.ret (.k (.bl false))) (.nil)) (.nil)) [a0, some (.ref 2), x2, some N.d, some (.ref g), some (.ref sp), x6, some (.ref rd), x8, some (.ref db), x10, x11, x12, x13, x14, x15, x16, x17, x18] s = .nx [a0, some (.ref 2), x2, some N.d, some (.ref g), some (.ref sp), x6, some (.ref rd), x8, some (.ref db), x10, x11, x12, x13, x14, x15, x16, x17, x18] s' ∧ Gr s s' 2 1 c := by
  have hV := C.sm.V
  have hT := C.T2
  have h1 := first_ok w C.gr (by omega) (by omega) C.sm.G C.sm.low
  have h2 := single_ok w C.gr (by omega) (by omega) C.sm.G C.sm.low
  have cl : ∀ (k : Nat) (b : Bool), closedO k (.lst [firstD N (N.near a n x), .bl b]) = true := fun k b => by
    show (closed k (firstD N (N.near a n x)) && true) = true
    rw [Bool.and_true]
    unfold firstD
    split <;> rfl
  generalize hb : (dbl N (N.near a n x)).isEmpty = b at *
  have g0 := Gr.refl w B
  have g1 : Gr s (s ++ [.lst [firstD N (N.near a n x), .bl b]]) 2 1 c := g0.app (by rw [List.all_cons, List.all_nil, Bool.and_true]; exact cl _ _)
  have d1 : (s ++ [.lst [firstD N (N.near a n x), .bl b]])[db]? = some (.lst ((dbl N (N.near a n x)).map pairD)) := app_low hdb
  have n1 := ne_nils d1
  have k1 : (s ++ [MO.lst [firstD N (N.near a n x), .bl b]])[s.length]? = some (.lst [firstD N (N.near a n x), .bl b]) := app_at _ _ _
  rw [hb] at n1
  generalize hs1 : s ++ [MO.lst [firstD N (N.near a n x), .bl b]] = s1 at *
  have g2 : Gr s (s1 ++ [.lst []]) 2 1 c := g1.app rfl
  have d2 : (s1 ++ [.lst []])[db]? = some (.lst ((dbl N (N.near a n x)).map pairD)) := app_low d1
  have n2 := is_nils d2
  have k2 : (s1 ++ [.lst []])[s.length]? = some (.lst [firstD N (N.near a n x), .bl b]) := app_low k1
  rw [hb] at n2
  generalize hs2 : s1 ++ [MO.lst []] = s2 at *
  have g3 : Gr s (s2 ++ [.lst []]) 2 1 c := g2.app rfl
  have k3 : (s2 ++ [.lst []])[s.length]? = some (.lst [firstD N (N.near a n x), .bl b]) := app_low k2
  generalize hs3 : s2 ++ [MO.lst []] = s3 at *
  have g4 : Gr s (s3 ++ [.lst [firstD N (N.near a n x), .bl b]]) 2 1 c := g3.app (by rw [List.all_cons, List.all_nil, Bool.and_true]; exact cl _ _)
  have hal := alike2 (nr := N.near a n x) (b := b) (r1 := s.length) (r2 := s3.length) C.sm g4.wf (app_low k3) (app_at _ _ _)
  refine ⟨_, ?_, g4⟩
  cases b with
  | true =>
    have hf : firstD N (N.near a n x) = .non := by
      unfold firstD
      rw [List.isEmpty_iff.mp hb]
      rfl
    rw [hf] at h1 hs1 hal
    simp -implicitDefEqProofs only [sl_cons, sl_nil, q_ex, q_set, q_p2, q_p3, q_si, q_au, q_ax, q_if, q_for, q_ret, q_retN, q_pass, q_raise, e_v, e_k, e_tup, e_lst, e_dct, e_op, e_cmp, e_isN, e_notN, e_and, e_or, e_not, e_ifx, e_call, e_bi, e_m0, e_m1, e_g1, e_g2, e_ix, e_sl, l_nil, l_cons, o_no, o_so, t_t, c_no, c_so, kTup1, kTup2, kLst0, kLst1, kLst2, kOp2, kOp1, kCmp2, kCmp1, kIsN, kNotN, kAnd, kOr, kTru, kNot, kM0, kM1b, kM1, kG1b, kG1, kG2c, kG2b, kG2, kIx2, kIx1, kSl3, kSl2, kSl1, kL2, kL1, kEx, kSet, kP2b, kP2, kP3c, kP3b, kP3, kSi3, kSi2, kSi1, kAu3, kAu2, kAx5, kAx4, kAx3, kAx2, kAx1, kRet, evOp, evCmp, bindG, bindGs, List.getElem?_cons_zero, List.getElem?_cons_succ, kV_ok, Out.bind_ok, Out.sb_ok, noexc_ok, List.set_cons_zero, List.set_cons_succ, kSet2_s, seq_nx, kTru2_s, truD, wipeE, tl_0, tl_1, tl_2, tl_4, tl_5, tl_6, tl_7, tl_8, tl_11, tl_15, tl_17, tl_18, tl_19, tl_20, h1, h2, hs1, n1, hs2, Bool.not_true, kIf_f, n2, hs3, hf, hal, kIfS_f]
  | false =>
    have hf : evIx (.ref db) (.int 0) s2 = .ok (firstD N (N.near a n x)) s2 := by
      simp only [evIx, itemsD, d2]
      unfold firstD
      cases hd : dbl N (N.near a n x) with
      | nil => rw [hd] at hb; cases hb
      | cons p ps => simp
    simp -implicitDefEqProofs only [sl_cons, sl_nil, q_ex, q_set, q_p2, q_p3, q_si, q_au, q_ax, q_if, q_for, q_ret, q_retN, q_pass, q_raise, e_v, e_k, e_tup, e_lst, e_dct, e_op, e_cmp, e_isN, e_notN, e_and, e_or, e_not, e_ifx, e_call, e_bi, e_m0, e_m1, e_g1, e_g2, e_ix, e_sl, l_nil, l_cons, o_no, o_so, t_t, c_no, c_so, kTup1, kTup2, kLst0, kLst1, kLst2, kOp2, kOp1, kCmp2, kCmp1, kIsN, kNotN, kAnd, kOr, kTru, kNot, kM0, kM1b, kM1, kG1b, kG1, kG2c, kG2b, kG2, kIx2, kIx1, kSl3, kSl2, kSl1, kL2, kL1, kEx, kSet, kP2b, kP2, kP3c, kP3b, kP3, kSi3, kSi2, kSi1, kAu3, kAu2, kAx5, kAx4, kAx3, kAx2, kAx1, kRet, evOp, evCmp, bindG, bindGs, List.getElem?_cons_zero, List.getElem?_cons_succ, kV_ok, Out.bind_ok, Out.sb_ok, noexc_ok, List.set_cons_zero, List.set_cons_succ, kSet2_s, seq_nx, kTru2_s, truD, wipeE, tl_0, tl_1, tl_2, tl_4, tl_5, tl_6, tl_7, tl_8, tl_11, tl_15, tl_17, tl_18, tl_19, tl_20, h1, h2, hs1, n1, hs2, Bool.not_false, Bool.not_true, kIf_t, n2, hs3, hf, hal, kIfS_f]
end
end Lw
end

section
set_option Elab.async false
set_option linter.all false
set_option maxRecDepth 100000
set_option autoImplicit false
set_option maxHeartbeats 1000000
/-! M24: one needle: what is asked, and whether it fits -/
namespace Lw
open PySem L2 Ev
theorem ints_nat {α : Type} (h : α → Nat) (l : List α) : intsD (l.map fun i => natD (h i)) = some (l.map fun i => (h i : Int)) := by
  induction l with
  | nil => rfl
  | cons i l ih => simp [intsD, natD] at ih ⊢; simp [ih]
theorem sum_range (h : Nat → Nat) (L : Nat) : ((List.range L).map fun i => (h i : Int)).sum = ((sumTo h L : Nat) : Int) := by
  induction L with
  | zero => rfl
  | succ L ih =>
    rw [List.range_succ, List.map_append, List.sum_append, ih]
    simp [sumTo]
theorem eq_nil {s : Sto} {r : Nat} {line : List Nat} (h : s[r]? = some (.lst (line.map natD))) : evEq (.ref r) (.ref s.length) (s ++ [.lst []]) = .ok (.bl line.isEmpty) (s ++ [.lst []]) := by
  have h1 : toP (s ++ [.lst []]) 64 (.ref r) = some (.list (line.map natP)) := toP_lst (app_low h) (toP_map _ _ _ fun p _ => toP_nat _ p)
  have h2 : toP (s ++ [.lst []]) 64 (.ref s.length) = some (.list []) := toP_lst (app_at _ _ _) rfl
  have e : eqD (s ++ [.lst []]) (.ref r) (.ref s.length) = some line.isEmpty := by
    unfold eqD
    simp only [h1, h2]
    cases line <;> rfl
  simp only [evEq, e]
theorem enum_vec (V : Nat) (A : Nat → Nat) : enumL (vecD V A) = (List.range V).map fun v => D.tup [natD v, natD (A v)] := by
  apply List.ext_getElem?
  intro i
  by_cases h : i < V
  · simp [enumL, vecD, h, natD]
  · simp [enumL, vecD, h]
theorem fit_filter (N : Net) (nr : Nat → Bool) (nd : Nat → Nat) (o : Nat) : ((List.range N.nodes.length).filter fun v => !N.isBit v && decide (o < wsum N.U nd (RR N.U nr v) + nd v)).isEmpty = fitB N nr nd o := by
  unfold fitB
  generalize List.range N.nodes.length = l
  induction l with
  | nil => rfl
  | cons v l ih =>
    rw [List.filter_cons, List.all_cons, ← ih]
    cases hb : N.isBit v with
    | true => simp
    | false =>
      by_cases h : o < wsum N.U nd (RR N.U nr v) + nd v
      · have h2 : ¬ (wsum N.U nd (RR N.U nr v) + nd v ≤ o) := by omega
        simp [h, h2]
      · have h2 : (wsum N.U nd (RR N.U nr v) + nd v ≤ o) := by omega
        simp [h, h2]
section
variable {s : Sto} {a0 x2 x3 x4 x5 x6 x7 x8 x9 x10 x11 x12 x13 x14 x15 x16 x17 x18 : Option D} {c : Nat} {N : Net} {a n x : Bool} {g sp rd q : Nat}
theorem row_sum {v : Nat} {nd : Nat → Nat} (w : Wf s) (C : Cx2 s N a n x g sp rd q) (hv : v < N.nodes.length) (hnd : ∀ k, nd k ≤ 2) : evE T_law (.bi .sum (.lc (.op .mul (.get2 (.v 8) (.v 16) (.k (.int 0))) (.ix (.v 12) (.v 16))) (.n 16) (.r1 (.bi .len (.v 5))) (.no) [16])) [a0, some (.ref 2), x2, some N.d, some (.ref g), some (.ref sp), x6, some (.ref rd), some (.ref (q + v)), x9, x10, x11, some (needD N.sp.length nd), x13, x14, x15, x16, x17, x18] s = .ok (natD (wsum N.U nd (RR N.U (N.near a n x) v))) s := by
  have hL := C.sm.L
  obtain ⟨kvs, q1, q2⟩ := C.rows v hv
  have hlen : evE T_law (.bi .len (.v 5)) [a0, some (.ref 2), x2, some N.d, some (.ref g), some (.ref sp), x6, some (.ref rd), some (.ref (q + v)), x9, x10, x11, some (needD N.sp.length nd), x13, x14, x15, x16, x17, x18] s = .ok (natD N.sp.length) s := by
    have h := bi_len (st := s) s.length (.ref sp) N.sp.length w (by simp only [biLen, itemsD, C.spots]; simp)
    have h5 : ([a0, some (.ref 2), x2, some N.d, some (.ref g), some (.ref sp), x6, some (.ref rd), some (.ref (q + v)), x9, x10, x11, some (needD N.sp.length nd), x13, x14, x15, x16, x17, x18] : En)[5]? = some (some (.ref sp)) := rfl
    rw [e_bi, e_v, h5, kV_ok, Out.bind_ok]
    exact h
  have lc := lc_map (F := T_law) (elt := (.op .mul (.get2 (.v 8) (.v 16) (.k (.int 0))) (.ix (.v 12) (.v 16)))) (G := .n 16) (c := .no) (own := [16]) (env := [a0, some (.ref 2), x2, some N.d, some (.ref g), some (.ref sp), x6, some (.ref rd), some (.ref (q + v)), x9, x10, x11, some (needD N.sp.length nd), x13, x14, x15, x16, x17, x18]) (chk := .free) (st := s) (List.range N.sp.length) (fun i => D.int (0 + (i : Int) * 1)) (fun i => natD (RR N.U (N.near a n x) v i * nd i)) (by rw [List.length_range]; omega) rfl (by
    intro i hi
    have hi := List.mem_range.mp hi
    have e0 : D.int (0 + (i : Int) * 1) = natD i := by unfold natD; congr 1; omega
    have e1 := get_row (i := i) q1 q2
    have e2 := int_nat (st := s) nd N.sp.length i hi
    have hr := C.sm.rr v i
    have h2 := hnd i
    have e3 := mul_nat (st := s) (RR N.U (N.near a n x) v i) (nd i) (Nat.lt_trans hr (by decide +kernel)) (Nat.lt_of_le_of_lt h2 (by decide +kernel))
    have hdc := dc_at q1
    refine ⟨[a0, some (.ref 2), x2, some N.d, some (.ref g), some (.ref sp), x6, some (.ref rd), some (.ref (q + v)), x9, x10, x11, some (needD N.sp.length nd), x13, x14, x15, some (natD i), x17, x18], by rw [e0]; rfl, c_no _ _, ?_⟩
    simp -implicitDefEqProofs only [sl_cons, sl_nil, q_ex, q_set, q_p2, q_p3, q_si, q_au, q_ax, q_if, q_for, q_ret, q_retN, q_pass, q_raise, e_v, e_k, e_tup, e_lst, e_dct, e_op, e_cmp, e_isN, e_notN, e_and, e_or, e_not, e_ifx, e_call, e_bi, e_m0, e_m1, e_g1, e_g2, e_ix, e_sl, l_nil, l_cons, o_no, o_so, t_t, c_no, c_so, kTup1, kTup2, kLst0, kLst1, kLst2, kOp2, kOp1, kCmp2, kCmp1, kIsN, kNotN, kAnd, kOr, kTru, kNot, kM0, kM1b, kM1, kG1b, kG1, kG2c, kG2b, kG2, kIx2, kIx1, kSl3, kSl2, kSl1, kL2, kL1, kEx, kSet, kP2b, kP2, kP3c, kP3b, kP3, kSi3, kSi2, kSi1, kAu3, kAu2, kAx5, kAx4, kAx3, kAx2, kAx1, kRet, evOp, evCmp, bindG, bindGs, List.getElem?_cons_zero, List.getElem?_cons_succ, kV_ok, Out.bind_ok, Out.sb_ok, noexc_ok, List.set_cons_zero, List.set_cons_succ, kSet2_s, seq_nx, kTru2_s, truD, wipeE, needD, hdc, e1, e2, e3, if_false, Bool.true_eq_false])
  have hb : biSum (.ref s.length) (s ++ [.lst ((List.range N.sp.length).map fun i => natD (RR N.U (N.near a n x) v i * nd i))]) = .ok (natD (wsum N.U nd (RR N.U (N.near a n x) v))) (s ++ [.lst ((List.range N.sp.length).map fun i => natD (RR N.U (N.near a n x) v i * nd i))]) := by
    simp only [biSum, app_at, ints_nat, sum_range]
    unfold wsum
    rw [U_len]
    rfl
  have hg := gc_old (js := [.lst ((List.range N.sp.length).map fun i => natD (RR N.U (N.near a n x) v i * nd i))]) (d := natD (wsum N.U nd (RR N.U (N.near a n x) v))) w rfl
  rw [e_bi, e_lc, i_r1_n hlen (by omega), Out.bind_ok]
  unfold rangeL
  rw [lc, Out.bind_ok]
  simp only [kBi, evBi, evBi0, hb, Out.bind_ok, hg, noexc_ok]
theorem ns1_ok {nd : Nat → Nat} (w : Wf s) (B : BagAt s 2 1 c) (C : Cx2 s N a n x g sp rd q) (hnd : ∀ k, nd k ≤ 2) : evS T_law (.set (.n 13) (.lc (.bi .sum (.lc (.op .mul (.get2 (.v 8) (.v 16) (.k (.int 0))) (.ix (.v 12) (.v 16))) (.n 16) (.r1 (.bi .len (.v 5))) (.no) [16])) (.n 8) (.of (.v 7)) (.no) [8])) [a0, some (.ref 2), x2, some N.d, some (.ref g), some (.ref sp), x6, some (.ref rd), x8, x9, x10, x11, some (needD N.sp.length nd), x13, x14, x15, x16, x17, x18] s = .nx [a0, some (.ref 2), x2, some N.d, some (.ref g), some (.ref sp), x6, some (.ref rd), x8, x9, x10, x11, some (needD N.sp.length nd), some (.ref s.length), x14, x15, x16, x17, x18] (s ++ [.lst (vecD N.nodes.length fun v => wsum N.U nd (RR N.U (N.near a n x) v))]) ∧ Gr s (s ++ [.lst (vecD N.nodes.length fun v => wsum N.U nd (RR N.U (N.near a n x) v))]) 2 1 c := by
  have hV := C.sm.V
  refine ⟨?_, (Gr.refl w B).app (by rw [List.all_cons, List.all_nil, Bool.and_true]; exact closed_vec _ _ _)⟩
  have hwk : walkD (.ref rd) s = some ((List.range N.nodes.length).map (fun v => D.ref (q + v)), .at_ rd (.lst ((List.range N.nodes.length).map fun v => D.ref (q + v)))) := by simp only [walkD, C.rds]
  have lc := lc_map (F := T_law) (elt := (.bi .sum (.lc (.op .mul (.get2 (.v 8) (.v 16) (.k (.int 0))) (.ix (.v 12) (.v 16))) (.n 16) (.r1 (.bi .len (.v 5))) (.no) [16]))) (G := .n 8) (c := .no) (own := [8]) (env := [a0, some (.ref 2), x2, some N.d, some (.ref g), some (.ref sp), x6, some (.ref rd), x8, x9, x10, x11, some (needD N.sp.length nd), x13, x14, x15, x16, x17, x18]) (chk := .at_ rd (.lst ((List.range N.nodes.length).map fun v => D.ref (q + v)))) (st := s) (List.range N.nodes.length) (fun v => D.ref (q + v)) (fun v => natD (wsum N.U nd (RR N.U (N.near a n x) v))) (by rw [List.length_range]; omega) (decide_eq_true C.rds) (by
    intro v hv
    exact ⟨[a0, some (.ref 2), x2, some N.d, some (.ref g), some (.ref sp), x6, some (.ref rd), some (.ref (q + v)), x9, x10, x11, some (needD N.sp.length nd), x13, x14, x15, x16, x17, x18], rfl, c_no _ _, row_sum w C (List.mem_range.mp hv) hnd⟩)
  have h7 : ([a0, some (.ref 2), x2, some N.d, some (.ref g), some (.ref sp), x6, some (.ref rd), x8, x9, x10, x11, some (needD N.sp.length nd), x13, x14, x15, x16, x17, x18] : En)[7]? = some (some (.ref rd)) := rfl
  rw [q_set, e_lc, i_of, e_v, h7, kV_ok, Out.bind_ok]
  simp only [kWalk, hwk, kWalk2_s]
  rw [Out.bind_ok, lc, Out.sb_ok]
  rfl
theorem ns2_ok {o r : Nat} {nd : Nat → Nat} (w : Wf s) (B : BagAt s 2 1 c) (C : Cx2 s N a n x g sp rd q) (hr : s[r]? = some (.lst (vecD N.nodes.length fun v => wsum N.U nd (RR N.U (N.near a n x) v)))) : ∃ s' : Sto, evS T_law (.set (.n 14) (.cmp .eq (.lc (.v 17) (.t (.cons (.n 17) (.cons (.n 18) (.nil)))) (.en (.v 13)) (.so (.and (.cmp .ne (.ix (.ix (.ix (.v 3) (.k (.int 3))) (.v 17)) (.k (.int 0))) (.k (.str "bit"))) (.cmp .gt (.op .add (.v 18) (.ix (.v 12) (.v 17))) (.v 10)))) [17, 18]) (.lst (.nil)))) [a0, some (.ref 2), x2, some N.d, some (.ref g), some (.ref sp), x6, some (.ref rd), x8, x9, some (natD o), x11, some (needD N.sp.length nd), some (.ref r), x14, x15, x16, x17, x18] s = .nx [a0, some (.ref 2), x2, some N.d, some (.ref g), some (.ref sp), x6, some (.ref rd), x8, x9, some (natD o), x11, some (needD N.sp.length nd), some (.ref r), some (.bl (fitB N (N.near a n x) nd o)), x15, x16, x17, x18] s' ∧ Gr s s' 2 1 c := by
  have hV := C.sm.V
  have hspl := sp_len N
  have lc := lc_filt (F := T_law) (elt := .v 17) (G := .t (.cons (.n 17) (.cons (.n 18) (.nil)))) (c := (.so (.and (.cmp .ne (.ix (.ix (.ix (.v 3) (.k (.int 3))) (.v 17)) (.k (.int 0))) (.k (.str "bit"))) (.cmp .gt (.op .add (.v 18) (.ix (.v 12) (.v 17))) (.v 10))))) (own := [17, 18]) (env := [a0, some (.ref 2), x2, some N.d, some (.ref g), some (.ref sp), x6, some (.ref rd), x8, x9, some (natD o), x11, some (needD N.sp.length nd), some (.ref r), x14, x15, x16, x17, x18]) (chk := .at_ r (.lst (vecD N.nodes.length fun v => wsum N.U nd (RR N.U (N.near a n x) v)))) (st := s) (List.range N.nodes.length) (fun v => D.tup [natD v, natD (wsum N.U nd (RR N.U (N.near a n x) v))]) natD (fun v => !N.isBit v && decide (o < wsum N.U nd (RR N.U (N.near a n x) v) + nd v)) (by rw [List.length_range]; omega) (decide_eq_true hr) (by
    intro v hv
    have hv := List.mem_range.mp hv
    obtain ⟨m, hm⟩ : ∃ m, N.nodes[v]? = some m := ⟨_, List.getElem?_eq_getElem hv⟩
    have e1 := nodes_at (st := s) N v m hm
    have e2 := bit_ne (st := s) hm
    have e3 := int_nat (st := s) nd N.sp.length v (by omega)
    have e4 := gt_nat (s := s) (wsum N.U nd (RR N.U (N.near a n x) v) + nd v) o
    refine ⟨[a0, some (.ref 2), x2, some N.d, some (.ref g), some (.ref sp), x6, some (.ref rd), x8, x9, some (natD o), x11, some (needD N.sp.length nd), some (.ref r), x14, x15, x16, some (natD v), some (natD (wsum N.U nd (RR N.U (N.near a n x) v)))], rfl, ?_, fun _ => ?_⟩
    · cases hb : N.isBit v with
      | true =>
        rw [hb] at e2
        simp -implicitDefEqProofs only [sl_cons, sl_nil, q_ex, q_set, q_p2, q_p3, q_si, q_au, q_ax, q_if, q_for, q_ret, q_retN, q_pass, q_raise, e_v, e_k, e_tup, e_lst, e_dct, e_op, e_cmp, e_isN, e_notN, e_and, e_or, e_not, e_ifx, e_call, e_bi, e_m0, e_m1, e_g1, e_g2, e_ix, e_sl, l_nil, l_cons, o_no, o_so, t_t, c_no, c_so, kTup1, kTup2, kLst0, kLst1, kLst2, kOp2, kOp1, kCmp2, kCmp1, kIsN, kNotN, kAnd, kOr, kTru, kNot, kM0, kM1b, kM1, kG1b, kG1, kG2c, kG2b, kG2, kIx2, kIx1, kSl3, kSl2, kSl1, kL2, kL1, kEx, kSet, kP2b, kP2, kP3c, kP3b, kP3, kSi3, kSi2, kSi1, kAu3, kAu2, kAx5, kAx4, kAx3, kAx2, kAx1, kRet, evOp, evCmp, bindG, bindGs, List.getElem?_cons_zero, List.getElem?_cons_succ, kV_ok, Out.bind_ok, Out.sb_ok, noexc_ok, List.set_cons_zero, List.set_cons_succ, kSet2_s, seq_nx, kTru2_s, truD, wipeE, net3, e1, nd0, e2, Bool.not_true, kAnd2_f, Bool.false_and]
      | false =>
        rw [hb] at e2
        simp -implicitDefEqProofs only [sl_cons, sl_nil, q_ex, q_set, q_p2, q_p3, q_si, q_au, q_ax, q_if, q_for, q_ret, q_retN, q_pass, q_raise, e_v, e_k, e_tup, e_lst, e_dct, e_op, e_cmp, e_isN, e_notN, e_and, e_or, e_not, e_ifx, e_call, e_bi, e_m0, e_m1, e_g1, e_g2, e_ix, e_sl, l_nil, l_cons, o_no, o_so, t_t, c_no, c_so, kTup1, kTup2, kLst0, kLst1, kLst2, kOp2, kOp1, kCmp2, kCmp1, kIsN, kNotN, kAnd, kOr, kTru, kNot, kM0, kM1b, kM1, kG1b, kG1, kG2c, kG2b, kG2, kIx2, kIx1, kSl3, kSl2, kSl1, kL2, kL1, kEx, kSet, kP2b, kP2, kP3c, kP3b, kP3, kSi3, kSi2, kSi1, kAu3, kAu2, kAx5, kAx4, kAx3, kAx2, kAx1, kRet, evOp, evCmp, bindG, bindGs, List.getElem?_cons_zero, List.getElem?_cons_succ, kV_ok, Out.bind_ok, Out.sb_ok, noexc_ok, List.set_cons_zero, List.set_cons_succ, kSet2_s, seq_nx, kTru2_s, truD, wipeE, net3, e1, nd0, e2, Bool.not_false, kAnd2_t, Bool.true_and, needD, e3, add_nat, e4]
    · simp -implicitDefEqProofs only [sl_cons, sl_nil, q_ex, q_set, q_p2, q_p3, q_si, q_au, q_ax, q_if, q_for, q_ret, q_retN, q_pass, q_raise, e_v, e_k, e_tup, e_lst, e_dct, e_op, e_cmp, e_isN, e_notN, e_and, e_or, e_not, e_ifx, e_call, e_bi, e_m0, e_m1, e_g1, e_g2, e_ix, e_sl, l_nil, l_cons, o_no, o_so, t_t, c_no, c_so, kTup1, kTup2, kLst0, kLst1, kLst2, kOp2, kOp1, kCmp2, kCmp1, kIsN, kNotN, kAnd, kOr, kTru, kNot, kM0, kM1b, kM1, kG1b, kG1, kG2c, kG2b, kG2, kIx2, kIx1, kSl3, kSl2, kSl1, kL2, kL1, kEx, kSet, kP2b, kP2, kP3c, kP3b, kP3, kSi3, kSi2, kSi1, kAu3, kAu2, kAx5, kAx4, kAx3, kAx2, kAx1, kRet, evOp, evCmp, bindG, bindGs, List.getElem?_cons_zero, List.getElem?_cons_succ, kV_ok, Out.bind_ok, Out.sb_ok, noexc_ok, List.set_cons_zero, List.set_cons_succ, kSet2_s, seq_nx, kTru2_s, truD, wipeE])
  have hwk : walkD (.ref r) s = some (vecD N.nodes.length (fun v => wsum N.U nd (RR N.U (N.near a n x) v)), .at_ r (.lst (vecD N.nodes.length fun v => wsum N.U nd (RR N.U (N.near a n x) v)))) := by simp only [walkD, hr]
  have h13 : ([a0, some (.ref 2), x2, some N.d, some (.ref g), some (.ref sp), x6, some (.ref rd), x8, x9, some (natD o), x11, some (needD N.sp.length nd), some (.ref r), x14, x15, x16, x17, x18] : En)[13]? = some (some (.ref r)) := rfl
  have e : evE T_law (.lc (.v 17) (.t (.cons (.n 17) (.cons (.n 18) (.nil)))) (.en (.v 13)) (.so (.and (.cmp .ne (.ix (.ix (.ix (.v 3) (.k (.int 3))) (.v 17)) (.k (.int 0))) (.k (.str "bit"))) (.cmp .gt (.op .add (.v 18) (.ix (.v 12) (.v 17))) (.v 10)))) [17, 18]) [a0, some (.ref 2), x2, some N.d, some (.ref g), some (.ref sp), x6, some (.ref rd), x8, x9, some (natD o), x11, some (needD N.sp.length nd), some (.ref r), x14, x15, x16, x17, x18] s = .ok (.ref s.length) (s ++ [.lst (((List.range N.nodes.length).filter fun v => !N.isBit v && decide (o < wsum N.U nd (RR N.U (N.near a n x) v) + nd v)).map natD)]) := by
    rw [e_lc, i_en, e_v, h13, kV_ok, Out.bind_ok]
    simp only [kEn, hwk, kEn2_s]
    rw [Out.bind_ok, enum_vec, lc]
  have hq := eq_nil (app_at s [] (.lst (((List.range N.nodes.length).filter fun v => !N.isBit v && decide (o < wsum N.U nd (RR N.U (N.near a n x) v) + nd v)).map natD)))
  rw [fit_filter] at hq
  have G1 : Gr s (s ++ [.lst (((List.range N.nodes.length).filter fun v => !N.isBit v && decide (o < wsum N.U nd (RR N.U (N.near a n x) v) + nd v)).map natD)]) 2 1 c := (Gr.refl w B).app (by rw [List.all_cons, List.all_nil, Bool.and_true]; exact closed_nats _ _)
  refine ⟨_, ?_, G1.app (j := [.lst []]) rfl⟩
  rw [q_set, e_cmp, e, Out.bind_ok]
  simp -implicitDefEqProofs only [sl_cons, sl_nil, q_ex, q_set, q_p2, q_p3, q_si, q_au, q_ax, q_if, q_for, q_ret, q_retN, q_pass, q_raise, e_v, e_k, e_tup, e_lst, e_dct, e_op, e_cmp, e_isN, e_notN, e_and, e_or, e_not, e_ifx, e_call, e_bi, e_m0, e_m1, e_g1, e_g2, e_ix, e_sl, l_nil, l_cons, o_no, o_so, t_t, c_no, c_so, kTup1, kTup2, kLst0, kLst1, kLst2, kOp2, kOp1, kCmp2, kCmp1, kIsN, kNotN, kAnd, kOr, kTru, kNot, kM0, kM1b, kM1, kG1b, kG1, kG2c, kG2b, kG2, kIx2, kIx1, kSl3, kSl2, kSl1, kL2, kL1, kEx, kSet, kP2b, kP2, kP3c, kP3b, kP3, kSi3, kSi2, kSi1, kAu3, kAu2, kAx5, kAx4, kAx3, kAx2, kAx1, kRet, evOp, evCmp, bindG, bindGs, List.getElem?_cons_zero, List.getElem?_cons_succ, kV_ok, Out.bind_ok, Out.sb_ok, noexc_ok, List.set_cons_zero, List.set_cons_succ, kSet2_s, seq_nx, kTru2_s, truD, wipeE, hq]
end
end Lw
end

section
set_option Elab.async false
set_option linter.all false
set_option maxRecDepth 100000
set_option autoImplicit false
set_option maxHeartbeats 1000000
/-! M25: one needle: the answers -/
namespace Lw
open PySem L2 Ev
theorem eq_zero {s : Sto} (v : Nat) : evEq (natD v) (.int 0) s = .ok (.bl (decide (v = 0))) s := by
  unfold evEq eqD natD
  have : ((v : Int) == 0) = decide (v = 0) := by
    by_cases h : v = 0
    · subst h; rfl
    · rw [decide_eq_false h, beq_eq_false_iff_ne]; omega
  simp only [this]
section
variable {s : Sto} {a0 x2 x3 x4 x5 x6 x7 x8 x9 x10 x11 x12 x13 x14 x15 x16 x17 x18 : Option D} {c : Nat} {N : Net} {a n x : Bool} {g sp rd q : Nat}
theorem ns3_ok {r : Nat} {nd : Nat → Nat} (w : Wf s) (B : BagAt s 2 1 c) (hc : c < 900000000) (C : Cx2 s N a n x g sp rd q) (hnd : ∀ k, nd k ≤ 2) (hr : s[r]? = some (.lst (vecD N.nodes.length fun v => wsum N.U nd (RR N.U (N.near a n x) v)))) (hr2 : r ≠ 2) : ∃ s' : Sto, evS T_law (.ife (.and (.cmp .eq (.call 2 (.cons (.v 1) (.cons (.k (.int 8)) (.nil)))) (.k (.int 0))) (.not (.call 7 (.cons (.call 15 (.cons (.v 3) (.cons (.v 4) (.cons (.v 12) (.nil))))) (.cons (.bi .tuple (.v 13)) (.nil)))))) (.cons (.ret (.k (.bl false))) (.nil)) (.nil)) [a0, some (.ref 2), x2, some N.d, some (.ref g), some (.ref sp), x6, some (.ref rd), x8, x9, x10, x11, some (needD N.sp.length nd), some (.ref r), x14, x15, x16, x17, x18] s = .nx [a0, some (.ref 2), x2, some N.d, some (.ref g), some (.ref sp), x6, some (.ref rd), x8, x9, x10, x11, some (needD N.sp.length nd), some (.ref r), x14, x15, x16, x17, x18] s' ∧ Gr s s' 2 1 (c + 1) := by
  have hV := C.sm.V
  have hT := C.T2
  obtain ⟨k, s1, e1, hk, o1, g1⟩ := (Gr.refl w B).take (many := 8) (by omega) (by omega) (by omega)
  have e1' : f__law_take [.ref 2, .int 8] s = .ok (natD k) s1 := e1
  have C1 := C.step g1
  have ez := eq_zero (s := s1) k
  refine ⟨s1, ?_, g1⟩
  cases hk0 : decide (k = 0) with
  | false =>
    rw [hk0] at ez
    simp -implicitDefEqProofs only [sl_cons, sl_nil, q_ex, q_set, q_p2, q_p3, q_si, q_au, q_ax, q_if, q_for, q_ret, q_retN, q_pass, q_raise, e_v, e_k, e_tup, e_lst, e_dct, e_op, e_cmp, e_isN, e_notN, e_and, e_or, e_not, e_ifx, e_call, e_bi, e_m0, e_m1, e_g1, e_g2, e_ix, e_sl, l_nil, l_cons, o_no, o_so, t_t, c_no, c_so, kTup1, kTup2, kLst0, kLst1, kLst2, kOp2, kOp1, kCmp2, kCmp1, kIsN, kNotN, kAnd, kOr, kTru, kNot, kM0, kM1b, kM1, kG1b, kG1, kG2c, kG2b, kG2, kIx2, kIx1, kSl3, kSl2, kSl1, kL2, kL1, kEx, kSet, kP2b, kP2, kP3c, kP3b, kP3, kSi3, kSi2, kSi1, kAu3, kAu2, kAx5, kAx4, kAx3, kAx2, kAx1, kRet, evOp, evCmp, bindG, bindGs, List.getElem?_cons_zero, List.getElem?_cons_succ, kV_ok, Out.bind_ok, Out.sb_ok, noexc_ok, List.set_cons_zero, List.set_cons_succ, kSet2_s, seq_nx, kTru2_s, truD, wipeE, tl_0, tl_1, tl_2, tl_4, tl_5, tl_6, tl_7, tl_8, tl_11, tl_15, tl_17, tl_18, tl_19, tl_20, e1', ez, kAnd2_f, kIfS_f]
  | true =>
    rw [hk0] at ez
    have ha := asked_ok (nd := nd) g1.wf C1.gr (by omega) (by omega) C1.sm.G C1.sm.low
    have hal := alike3 (st := s1) C1.sm g1.wf hnd
    have hb : biTuple (.ref r) s1 = .ok (askD N (N.near a n x) nd) s1 := by
      simp only [biTuple, itemsD, g1.get hr hr2]
      rw [if_pos (by rw [vec_len]; exact Nat.le_trans hV (show 8 ≤ SZ from by decide))]
      rfl
    have hg := gc_old0 g1.wf (closed_ask s1.length N (N.near a n x) nd)
    simp -implicitDefEqProofs only [sl_cons, sl_nil, q_ex, q_set, q_p2, q_p3, q_si, q_au, q_ax, q_if, q_for, q_ret, q_retN, q_pass, q_raise, e_v, e_k, e_tup, e_lst, e_dct, e_op, e_cmp, e_isN, e_notN, e_and, e_or, e_not, e_ifx, e_call, e_bi, e_m0, e_m1, e_g1, e_g2, e_ix, e_sl, l_nil, l_cons, o_no, o_so, t_t, c_no, c_so, kTup1, kTup2, kLst0, kLst1, kLst2, kOp2, kOp1, kCmp2, kCmp1, kIsN, kNotN, kAnd, kOr, kTru, kNot, kM0, kM1b, kM1, kG1b, kG1, kG2c, kG2b, kG2, kIx2, kIx1, kSl3, kSl2, kSl1, kL2, kL1, kEx, kSet, kP2b, kP2, kP3c, kP3b, kP3, kSi3, kSi2, kSi1, kAu3, kAu2, kAx5, kAx4, kAx3, kAx2, kAx1, kRet, evOp, evCmp, bindG, bindGs, List.getElem?_cons_zero, List.getElem?_cons_succ, kV_ok, Out.bind_ok, Out.sb_ok, noexc_ok, List.set_cons_zero, List.set_cons_succ, kSet2_s, seq_nx, kTru2_s, truD, wipeE, tl_0, tl_1, tl_2, tl_4, tl_5, tl_6, tl_7, tl_8, tl_11, tl_15, tl_17, tl_18, tl_19, tl_20, e1', ez, kAnd2_t, ha, kBi, evBi, evBi0, hb, hg, hal, Bool.not_true, kIfS_f]
theorem ns4_ok {o r : Nat} {nd : Nat → Nat} (w : Wf s) (B : BagAt s 2 1 c) (hc : c < 900000000) (C : Cx2 s N a n x g sp rd q) : ∃ s' : Sto, evS T_law (.ife (.and (.cmp .eq (.call 2 (.cons (.v 1) (.cons (.k (.int 4)) (.nil)))) (.k (.int 0))) (.not (.call 7 (.cons (.call 20 (.cons (.v 3) (.cons (.v 4) (.cons (.v 10) (.cons (.v 12) (.nil)))))) (.cons (.v 14) (.nil)))))) (.cons (.ret (.k (.bl false))) (.nil)) (.nil)) [a0, some (.ref 2), x2, some N.d, some (.ref g), some (.ref sp), x6, some (.ref rd), x8, x9, some (natD o), x11, some (needD N.sp.length nd), some (.ref r), some (.bl (fitB N (N.near a n x) nd o)), x15, x16, x17, x18] s = .nx [a0, some (.ref 2), x2, some N.d, some (.ref g), some (.ref sp), x6, some (.ref rd), x8, x9, some (natD o), x11, some (needD N.sp.length nd), some (.ref r), some (.bl (fitB N (N.near a n x) nd o)), x15, x16, x17, x18] s' ∧ Gr s s' 2 1 (c + 1) := by
  have hV := C.sm.V
  have hT := C.T2
  obtain ⟨k, s1, e1, hk, o1, g1⟩ := (Gr.refl w B).take (many := 4) (by omega) (by omega) (by omega)
  have e1' : f__law_take [.ref 2, .int 4] s = .ok (natD k) s1 := e1
  have C1 := C.step g1
  have ez := eq_zero (s := s1) k
  refine ⟨s1, ?_, g1⟩
  cases hk0 : decide (k = 0) with
  | false =>
    rw [hk0] at ez
    simp -implicitDefEqProofs only [sl_cons, sl_nil, q_ex, q_set, q_p2, q_p3, q_si, q_au, q_ax, q_if, q_for, q_ret, q_retN, q_pass, q_raise, e_v, e_k, e_tup, e_lst, e_dct, e_op, e_cmp, e_isN, e_notN, e_and, e_or, e_not, e_ifx, e_call, e_bi, e_m0, e_m1, e_g1, e_g2, e_ix, e_sl, l_nil, l_cons, o_no, o_so, t_t, c_no, c_so, kTup1, kTup2, kLst0, kLst1, kLst2, kOp2, kOp1, kCmp2, kCmp1, kIsN, kNotN, kAnd, kOr, kTru, kNot, kM0, kM1b, kM1, kG1b, kG1, kG2c, kG2b, kG2, kIx2, kIx1, kSl3, kSl2, kSl1, kL2, kL1, kEx, kSet, kP2b, kP2, kP3c, kP3b, kP3, kSi3, kSi2, kSi1, kAu3, kAu2, kAx5, kAx4, kAx3, kAx2, kAx1, kRet, evOp, evCmp, bindG, bindGs, List.getElem?_cons_zero, List.getElem?_cons_succ, kV_ok, Out.bind_ok, Out.sb_ok, noexc_ok, List.set_cons_zero, List.set_cons_succ, kSet2_s, seq_nx, kTru2_s, truD, wipeE, tl_0, tl_1, tl_2, tl_4, tl_5, tl_6, tl_7, tl_8, tl_11, tl_15, tl_17, tl_18, tl_19, tl_20, e1', ez, kAnd2_f, kIfS_f]
  | true =>
    rw [hk0] at ez
    have ha := fit_ok (o := o) (nd := nd) g1.wf C1.gr (by omega) (by omega) C1.sm.G C1.sm.low
    have hal := alike4 (st := s1) (b := fitB N (N.near a n x) nd o) g1.wf
    simp -implicitDefEqProofs only [sl_cons, sl_nil, q_ex, q_set, q_p2, q_p3, q_si, q_au, q_ax, q_if, q_for, q_ret, q_retN, q_pass, q_raise, e_v, e_k, e_tup, e_lst, e_dct, e_op, e_cmp, e_isN, e_notN, e_and, e_or, e_not, e_ifx, e_call, e_bi, e_m0, e_m1, e_g1, e_g2, e_ix, e_sl, l_nil, l_cons, o_no, o_so, t_t, c_no, c_so, kTup1, kTup2, kLst0, kLst1, kLst2, kOp2, kOp1, kCmp2, kCmp1, kIsN, kNotN, kAnd, kOr, kTru, kNot, kM0, kM1b, kM1, kG1b, kG1, kG2c, kG2b, kG2, kIx2, kIx1, kSl3, kSl2, kSl1, kL2, kL1, kEx, kSet, kP2b, kP2, kP3c, kP3b, kP3, kSi3, kSi2, kSi1, kAu3, kAu2, kAx5, kAx4, kAx3, kAx2, kAx1, kRet, evOp, evCmp, bindG, bindGs, List.getElem?_cons_zero, List.getElem?_cons_succ, kV_ok, Out.bind_ok, Out.sb_ok, noexc_ok, List.set_cons_zero, List.set_cons_succ, kSet2_s, seq_nx, kTru2_s, truD, wipeE, tl_0, tl_1, tl_2, tl_4, tl_5, tl_6, tl_7, tl_8, tl_11, tl_15, tl_17, tl_18, tl_19, tl_20, e1', ez, kAnd2_t, ha, hal, Bool.not_true, kIfS_f]
theorem ns5_ok {b d : Bool} {x1 : Option D} : evS T_law (.set (.n 11) (.and (.v 11) (.v 14))) [a0, x1, x2, x3, x4, x5, x6, x7, x8, x9, x10, some (.bl b), x12, x13, some (.bl d), x15, x16, x17, x18] s = .nx [a0, x1, x2, x3, x4, x5, x6, x7, x8, x9, x10, some (.bl (b && d)), x12, x13, some (.bl d), x15, x16, x17, x18] s := by
  cases b <;> simp -implicitDefEqProofs only [sl_cons, sl_nil, q_ex, q_set, q_p2, q_p3, q_si, q_au, q_ax, q_if, q_for, q_ret, q_retN, q_pass, q_raise, e_v, e_k, e_tup, e_lst, e_dct, e_op, e_cmp, e_isN, e_notN, e_and, e_or, e_not, e_ifx, e_call, e_bi, e_m0, e_m1, e_g1, e_g2, e_ix, e_sl, l_nil, l_cons, o_no, o_so, t_t, c_no, c_so, kTup1, kTup2, kLst0, kLst1, kLst2, kOp2, kOp1, kCmp2, kCmp1, kIsN, kNotN, kAnd, kOr, kTru, kNot, kM0, kM1b, kM1, kG1b, kG1, kG2c, kG2b, kG2, kIx2, kIx1, kSl3, kSl2, kSl1, kL2, kL1, kEx, kSet, kP2b, kP2, kP3c, kP3b, kP3, kSi3, kSi2, kSi1, kAu3, kAu2, kAx5, kAx4, kAx3, kAx2, kAx1, kRet, evOp, evCmp, bindG, bindGs, List.getElem?_cons_zero, List.getElem?_cons_succ, kV_ok, Out.bind_ok, Out.sb_ok, noexc_ok, List.set_cons_zero, List.set_cons_succ, kSet2_s, seq_nx, kTru2_s, truD, wipeE, kAnd2_t, kAnd2_f, Bool.true_and, Bool.false_and]
theorem need_step {o : Nat} {nd : Nat → Nat} {b : Bool} (w : Wf s) (B : BagAt s 2 1 c) (hc : c < 800000000) (C : Cx2 s N a n x g sp rd q) (hnd : ∀ k, nd k ≤ 2) : ∃ (y13 y14 : Option D) (s' : Sto), evSL T_law (.cons (.set (.n 13) (.lc (.bi .sum (.lc (.op .mul (.get2 (.v 8) (.v 16) (.k (.int 0))) (.ix (.v 12) (.v 16))) (.n 16) (.r1 (.bi .len (.v 5))) (.no) [16])) (.n 8) (.of (.v 7)) (.no) [8])) (.cons (.set (.n 14) (.cmp .eq (.lc (.v 17) (.t (.cons (.n 17) (.cons (.n 18) (.nil)))) (.en (.v 13)) (.so (.and (.cmp .ne (.ix (.ix (.ix (.v 3) (.k (.int 3))) (.v 17)) (.k (.int 0))) (.k (.str "bit"))) (.cmp .gt (.op .add (.v 18) (.ix (.v 12) (.v 17))) (.v 10)))) [17, 18]) (.lst (.nil)))) (.cons (.ife (.and (.cmp .eq (.call 2 (.cons (.v 1) (.cons (.k (.int 8)) (.nil)))) (.k (.int 0))) (.not (.call 7 (.cons (.call 15 (.cons (.v 3) (.cons (.v 4) (.cons (.v 12) (.nil))))) (.cons (.bi .tuple (.v 13)) (.nil)))))) (.cons (.ret (.k (.bl false))) (.nil)) (.nil)) (.cons (.ife (.and (.cmp .eq (.call 2 (.cons (.v 1) (.cons (.k (.int 4)) (.nil)))) (.k (.int 0))) (.not (.call 7 (.cons (.call 20 (.cons (.v 3) (.cons (.v 4) (.cons (.v 10) (.cons (.v 12) (.nil)))))) (.cons (.v 14) (.nil)))))) (.cons (.ret (.k (.bl false))) (.nil)) (.nil)) (.cons (.set (.n 11) (.and (.v 11) (.v 14))) (.nil)))))) [a0, some (.ref 2), x2, some N.d, some (.ref g), some (.ref sp), x6, some (.ref rd), x8, x9, some (natD o), some (.bl b), some (needD N.sp.length nd), x13, x14, x15, x16, x17, x18] s = .nx [a0, some (.ref 2), x2, some N.d, some (.ref g), some (.ref sp), x6, some (.ref rd), x8, x9, some (natD o), some (.bl (b && fitB N (N.near a n x) nd o)), some (needD N.sp.length nd), y13, y14, x15, x16, x17, x18] s' ∧ Gr s s' 2 1 (c + 2) := by
  have hlt : 2 < s.length := (Gr.refl w B).bl
  obtain ⟨p1, g1⟩ := ns1_ok (a0 := a0) (x2 := x2) (x6 := x6) (x8 := x8) (x9 := x9) (x10 := some (natD o)) (x11 := some (.bl b)) (x13 := x13) (x14 := x14) (x15 := x15) (x16 := x16) (x17 := x17) (x18 := x18) w B C hnd
  have C1 := C.step g1
  have k1 : (s ++ [MO.lst (vecD N.nodes.length fun v => wsum N.U nd (RR N.U (N.near a n x) v))])[s.length]? = some (.lst (vecD N.nodes.length fun v => wsum N.U nd (RR N.U (N.near a n x) v))) := app_at _ _ _
  generalize hs1 : s ++ [MO.lst (vecD N.nodes.length fun v => wsum N.U nd (RR N.U (N.near a n x) v))] = s1 at *
  obtain ⟨s2, p2, g2⟩ := ns2_ok (o := o) (a0 := a0) (x2 := x2) (x6 := x6) (x8 := x8) (x9 := x9) (x11 := some (.bl b)) (x14 := x14) (x15 := x15) (x16 := x16) (x17 := x17) (x18 := x18) g1.wf g1.bag C1 k1
  have C2 := C1.step g2
  obtain ⟨s3, p3, g3⟩ := ns3_ok (a0 := a0) (x2 := x2) (x6 := x6) (x8 := x8) (x9 := x9) (x10 := some (natD o)) (x11 := some (.bl b)) (x14 := some (.bl (fitB N (N.near a n x) nd o))) (x15 := x15) (x16 := x16) (x17 := x17) (x18 := x18) g2.wf g2.bag (by omega) C2 hnd (g2.get k1 (by omega)) (by omega)
  have C3 := C2.step g3
  obtain ⟨s4, p4, g4⟩ := ns4_ok (o := o) (nd := nd) (r := s.length) (a0 := a0) (x2 := x2) (x6 := x6) (x8 := x8) (x9 := x9) (x11 := some (.bl b)) (x15 := x15) (x16 := x16) (x17 := x17) (x18 := x18) g3.wf g3.bag (by omega) C3
  refine ⟨some (.ref s.length), some (.bl (fitB N (N.near a n x) nd o)), s4, ?_, ((g1.trans g2).trans g3).trans g4⟩
  rw [sl_cons, p1, seq_nx, sl_cons, p2, seq_nx, sl_cons, p3, seq_nx, sl_cons, p4, seq_nx, sl_cons, ns5_ok, seq_nx, sl_nil]
end
end Lw
end

section
set_option Elab.async false
set_option linter.all false
set_option maxRecDepth 100000
set_option autoImplicit false
set_option maxHeartbeats 1000000
/-! M26: the needles of an order, and the two orders -/
namespace Lw
open PySem L2 Ev
theorem rows2_len (L : Nat) : (rows2 L).length = (L + 1) * (L + 1) := by
  have h1 : (rows1 L).length = L + 1 := by simp [rows1]
  have h : ∀ l : List (Nat → Nat), (l.flatMap fun a => (rows1 L).map fun b => fun i => a i + b i).length = l.length * (L + 1) := fun l => by
    induction l with
    | nil => simp
    | cons a l ih =>
      rw [List.flatMap_cons, List.length_append, ih, List.length_map, h1, List.length_cons, Nat.succ_mul]
      omega
  unfold rows2
  rw [h, h1]
section
variable {s : Sto} {a0 x2 x3 x4 x5 x6 x7 x8 x9 x10 x11 x12 x13 x14 x15 x16 x17 x18 : Option D} {c : Nat} {N : Net} {a n x : Bool} {g sp rd q : Nat}
theorem len_sp {env : En} (w : Wf s) (C : Cx2 s N a n x g sp rd q) (h5 : env[5]? = some (some (.ref sp))) : evE T_law (.bi .len (.v 5)) env s = .ok (natD N.sp.length) s := by
  have h := bi_len (st := s) s.length (.ref sp) N.sp.length w (by simp only [biLen, itemsD, C.spots]; simp)
  rw [e_bi, e_v, h5, kV_ok, Out.bind_ok]
  exact h
theorem need_loop {o : Nat} {rows : List (Nat → Nat)} (w : Wf s) (B : BagAt s 2 1 c) (hc : c < 700000000) (C : Cx2 s N a n x g sp rd q) (hrows : f__law_needles [natD N.sp.length, natD o] s = .ok (.ref s.length) (s ++ [.lst (rows.map (needD N.sp.length))])) (hle : ∀ nd ∈ rows, ∀ k, nd k ≤ 2) (hln : rows.length ≤ 200) :
    ∃ (y12 y13 y14 : Option D) (s' : Sto), evS T_law (.forI (.n 12) (.of (.call 8 (.cons (.bi .len (.v 5)) (.cons (.v 10) (.nil))))) (.cons (.set (.n 13) (.lc (.bi .sum (.lc (.op .mul (.get2 (.v 8) (.v 16) (.k (.int 0))) (.ix (.v 12) (.v 16))) (.n 16) (.r1 (.bi .len (.v 5))) (.no) [16])) (.n 8) (.of (.v 7)) (.no) [8])) (.cons (.set (.n 14) (.cmp .eq (.lc (.v 17) (.t (.cons (.n 17) (.cons (.n 18) (.nil)))) (.en (.v 13)) (.so (.and (.cmp .ne (.ix (.ix (.ix (.v 3) (.k (.int 3))) (.v 17)) (.k (.int 0))) (.k (.str "bit"))) (.cmp .gt (.op .add (.v 18) (.ix (.v 12) (.v 17))) (.v 10)))) [17, 18]) (.lst (.nil)))) (.cons (.ife (.and (.cmp .eq (.call 2 (.cons (.v 1) (.cons (.k (.int 8)) (.nil)))) (.k (.int 0))) (.not (.call 7 (.cons (.call 15 (.cons (.v 3) (.cons (.v 4) (.cons (.v 12) (.nil))))) (.cons (.bi .tuple (.v 13)) (.nil)))))) (.cons (.ret (.k (.bl false))) (.nil)) (.nil)) (.cons (.ife (.and (.cmp .eq (.call 2 (.cons (.v 1) (.cons (.k (.int 4)) (.nil)))) (.k (.int 0))) (.not (.call 7 (.cons (.call 20 (.cons (.v 3) (.cons (.v 4) (.cons (.v 10) (.cons (.v 12) (.nil)))))) (.cons (.v 14) (.nil)))))) (.cons (.ret (.k (.bl false))) (.nil)) (.nil)) (.cons (.set (.n 11) (.and (.v 11) (.v 14))) (.nil))))))) [a0, some (.ref 2), x2, some N.d, some (.ref g), some (.ref sp), x6, some (.ref rd), x8, x9, some (natD o), some (.bl true), x12, x13, x14, x15, x16, x17, x18] s = .nx [a0, some (.ref 2), x2, some N.d, some (.ref g), some (.ref sp), x6, some (.ref rd), x8, x9, some (natD o), some (.bl (rows.all fun nd => fitB N (N.near a n x) nd o)), y12, y13, y14, x15, x16, x17, x18] s' ∧ Gr s s' 2 1 (c + 400) := by
  have g1 : Gr s (s ++ [.lst (rows.map (needD N.sp.length))]) 2 1 c := (Gr.refl w B).app (by rw [List.all_cons, List.all_nil, Bool.and_true]; exact closed_needs _ _ _)
  have hlt : 2 < s.length := (Gr.refl w B).bl
  have C1 := C.step g1
  have k1 : (s ++ [MO.lst (rows.map (needD N.sp.length))])[s.length]? = some (.lst (rows.map (needD N.sp.length))) := app_at _ _ _
  have hl := len_sp (env := [a0, some (.ref 2), x2, some N.d, some (.ref g), some (.ref sp), x6, some (.ref rd), x8, x9, some (natD o), some (.bl true), x12, x13, x14, x15, x16, x17, x18]) w C rfl
  have he : evE T_law (.call 8 (.cons (.bi .len (.v 5)) (.cons (.v 10) (.nil)))) [a0, some (.ref 2), x2, some N.d, some (.ref g), some (.ref sp), x6, some (.ref rd), x8, x9, some (natD o), some (.bl true), x12, x13, x14, x15, x16, x17, x18] s = .ok (.ref s.length) (s ++ [.lst (rows.map (needD N.sp.length))]) := by
    rw [e_call, l_cons, hl, Out.bind_ok]
    simp -implicitDefEqProofs only [sl_cons, sl_nil, q_ex, q_set, q_p2, q_p3, q_si, q_au, q_ax, q_if, q_for, q_ret, q_retN, q_pass, q_raise, e_v, e_k, e_tup, e_lst, e_dct, e_op, e_cmp, e_isN, e_notN, e_and, e_or, e_not, e_ifx, e_call, e_bi, e_m0, e_m1, e_g1, e_g2, e_ix, e_sl, l_nil, l_cons, o_no, o_so, t_t, c_no, c_so, kTup1, kTup2, kLst0, kLst1, kLst2, kOp2, kOp1, kCmp2, kCmp1, kIsN, kNotN, kAnd, kOr, kTru, kNot, kM0, kM1b, kM1, kG1b, kG1, kG2c, kG2b, kG2, kIx2, kIx1, kSl3, kSl2, kSl1, kL2, kL1, kEx, kSet, kP2b, kP2, kP3c, kP3b, kP3, kSi3, kSi2, kSi1, kAu3, kAu2, kAx5, kAx4, kAx3, kAx2, kAx1, kRet, evOp, evCmp, bindG, bindGs, List.getElem?_cons_zero, List.getElem?_cons_succ, kV_ok, Out.bind_ok, Out.sb_ok, noexc_ok, List.set_cons_zero, List.set_cons_succ, kSet2_s, seq_nx, kTru2_s, truD, wipeE, tl_0, tl_1, tl_2, tl_4, tl_5, tl_6, tl_7, tl_8, tl_11, tl_15, tl_17, tl_18, tl_19, tl_20, hrows]
  generalize hs1 : s ++ [MO.lst (rows.map (needD N.sp.length))] = s1 at *
  have g0 := Gr.refl g1.wf g1.bag
  have loop := forL_inv (bind := bindG (.n 12)) (body := fun env st => evSL T_law (.cons (.set (.n 13) (.lc (.bi .sum (.lc (.op .mul (.get2 (.v 8) (.v 16) (.k (.int 0))) (.ix (.v 12) (.v 16))) (.n 16) (.r1 (.bi .len (.v 5))) (.no) [16])) (.n 8) (.of (.v 7)) (.no) [8])) (.cons (.set (.n 14) (.cmp .eq (.lc (.v 17) (.t (.cons (.n 17) (.cons (.n 18) (.nil)))) (.en (.v 13)) (.so (.and (.cmp .ne (.ix (.ix (.ix (.v 3) (.k (.int 3))) (.v 17)) (.k (.int 0))) (.k (.str "bit"))) (.cmp .gt (.op .add (.v 18) (.ix (.v 12) (.v 17))) (.v 10)))) [17, 18]) (.lst (.nil)))) (.cons (.ife (.and (.cmp .eq (.call 2 (.cons (.v 1) (.cons (.k (.int 8)) (.nil)))) (.k (.int 0))) (.not (.call 7 (.cons (.call 15 (.cons (.v 3) (.cons (.v 4) (.cons (.v 12) (.nil))))) (.cons (.bi .tuple (.v 13)) (.nil)))))) (.cons (.ret (.k (.bl false))) (.nil)) (.nil)) (.cons (.ife (.and (.cmp .eq (.call 2 (.cons (.v 1) (.cons (.k (.int 4)) (.nil)))) (.k (.int 0))) (.not (.call 7 (.cons (.call 20 (.cons (.v 3) (.cons (.v 4) (.cons (.v 10) (.cons (.v 12) (.nil)))))) (.cons (.v 14) (.nil)))))) (.cons (.ret (.k (.bl false))) (.nil)) (.nil)) (.cons (.set (.n 11) (.and (.v 11) (.v 14))) (.nil)))))) env st) (chk := (Chk.at_ s.length (.lst (rows.map (needD N.sp.length)))).ok)
    (fun j env s' => (∃ y12 y13 y14, env = [a0, some (.ref 2), x2, some N.d, some (.ref g), some (.ref sp), x6, some (.ref rd), x8, x9, some (natD o), some (.bl ((rows.take j).all fun nd => fitB N (N.near a n x) nd o)), y12, y13, y14, x15, x16, x17, x18]) ∧ Gr s1 s' 2 1 (c + 2 * j))
    (xs := rows.map (needD N.sp.length)) (fun j env s' h => decide_eq_true (h.2.get k1 (by omega)))
    (fun j env s' y h hy => by
      obtain ⟨⟨y12, y13, y14, rfl⟩, G'⟩ := h
      rw [List.getElem?_map] at hy
      cases hz : rows[j]? with
      | none => rw [hz] at hy; cases hy
      | some nd =>
        rw [hz] at hy
        cases hy
        have hjl := (List.getElem?_eq_some_iff.mp hz).1
        obtain ⟨y13', y14', s2, p, g2⟩ := need_step (o := o) (nd := nd) (b := (rows.take j).all fun nd => fitB N (N.near a n x) nd o) (a0 := a0) (x2 := x2) (x6 := x6) (x8 := x8) (x9 := x9) (x13 := y13) (x14 := y14) (x15 := x15) (x16 := x16) (x17 := x17) (x18 := x18) G'.wf G'.bag (by omega) (C1.step G') (hle nd (List.mem_of_getElem? hz))
        refine ⟨_, _, s2, rfl, .inl p, ⟨some (needD N.sp.length nd), y13', y14', ?_⟩, ?_⟩
        · rw [List.take_add_one, hz, List.all_append]
          simp
        · have := G'.trans g2
          rwa [show c + 2 * j + 2 = c + 2 * (j + 1) from by omega] at this)
    (env := [a0, some (.ref 2), x2, some N.d, some (.ref g), some (.ref sp), x6, some (.ref rd), x8, x9, some (natD o), some (.bl true), x12, x13, x14, x15, x16, x17, x18]) (st := s1) ⟨⟨_, _, _, rfl⟩, g0⟩
  obtain ⟨env', s', e1, ⟨y12, y13, y14, rfl⟩, G'⟩ := loop
  rw [List.length_map, List.take_length] at e1
  rw [List.length_map] at G'
  have hwk : walkD (.ref s.length) s1 = some (rows.map (needD N.sp.length), .at_ s.length (.lst (rows.map (needD N.sp.length)))) := by simp only [walkD, k1]
  refine ⟨y12, y13, y14, s', ?_, (g1.trans G').mono (by omega)⟩
  rw [q_for, i_of, he, Out.bind_ok]
  simp only [kWalk, hwk, kWalk2_s, Out.sb_ok]
  exact e1
theorem order_step {o db : Nat} (ho : o = 1 ∨ o = 2) (w : Wf s) (B : BagAt s 2 1 c) (hc : c < 600000000) (C : Cx2 s N a n x g sp rd q) (hdb : s[db]? = some (.lst ((dbl N (N.near a n x)).map pairD))) (hd2 : db ≠ 2) :
    ∃ (y11 y12 y13 y14 : Option D) (s' : Sto), evSL T_law (.cons (.set (.n 11) (.k (.bl true))) (.cons (.forI (.n 12) (.of (.call 8 (.cons (.bi .len (.v 5)) (.cons (.v 10) (.nil))))) (.cons (.set (.n 13) (.lc (.bi .sum (.lc (.op .mul (.get2 (.v 8) (.v 16) (.k (.int 0))) (.ix (.v 12) (.v 16))) (.n 16) (.r1 (.bi .len (.v 5))) (.no) [16])) (.n 8) (.of (.v 7)) (.no) [8])) (.cons (.set (.n 14) (.cmp .eq (.lc (.v 17) (.t (.cons (.n 17) (.cons (.n 18) (.nil)))) (.en (.v 13)) (.so (.and (.cmp .ne (.ix (.ix (.ix (.v 3) (.k (.int 3))) (.v 17)) (.k (.int 0))) (.k (.str "bit"))) (.cmp .gt (.op .add (.v 18) (.ix (.v 12) (.v 17))) (.v 10)))) [17, 18]) (.lst (.nil)))) (.cons (.ife (.and (.cmp .eq (.call 2 (.cons (.v 1) (.cons (.k (.int 8)) (.nil)))) (.k (.int 0))) (.not (.call 7 (.cons (.call 15 (.cons (.v 3) (.cons (.v 4) (.cons (.v 12) (.nil))))) (.cons (.bi .tuple (.v 13)) (.nil)))))) (.cons (.ret (.k (.bl false))) (.nil)) (.nil)) (.cons (.ife (.and (.cmp .eq (.call 2 (.cons (.v 1) (.cons (.k (.int 4)) (.nil)))) (.k (.int 0))) (.not (.call 7 (.cons (.call 20 (.cons (.v 3) (.cons (.v 4) (.cons (.v 10) (.cons (.v 12) (.nil)))))) (.cons (.v 14) (.nil)))))) (.cons (.ret (.k (.bl false))) (.nil)) (.nil)) (.cons (.set (.n 11) (.and (.v 11) (.v 14))) (.nil))))))) (.cons (.ife (.cmp .ne (.v 11) (.cmp .eq (.v 9) (.lst (.nil)))) (.cons (.ret (.k (.bl false))) (.nil)) (.nil)) (.nil)))) [a0, some (.ref 2), x2, some N.d, some (.ref g), some (.ref sp), x6, some (.ref rd), x8, some (.ref db), some (natD o), x11, x12, x13, x14, x15, x16, x17, x18] s = .nx [a0, some (.ref 2), x2, some N.d, some (.ref g), some (.ref sp), x6, some (.ref rd), x8, some (.ref db), some (natD o), y11, y12, y13, y14, x15, x16, x17, x18] s' ∧ Gr s s' 2 1 (c + 400) := by
  have hL := C.sm.L
  have p1 : evS T_law (.set (.n 11) (.k (.bl true))) [a0, some (.ref 2), x2, some N.d, some (.ref g), some (.ref sp), x6, some (.ref rd), x8, some (.ref db), some (natD o), x11, x12, x13, x14, x15, x16, x17, x18] s = .nx [a0, some (.ref 2), x2, some N.d, some (.ref g), some (.ref sp), x6, some (.ref rd), x8, some (.ref db), some (natD o), some (.bl true), x12, x13, x14, x15, x16, x17, x18] s := by
    simp -implicitDefEqProofs only [sl_cons, sl_nil, q_ex, q_set, q_p2, q_p3, q_si, q_au, q_ax, q_if, q_for, q_ret, q_retN, q_pass, q_raise, e_v, e_k, e_tup, e_lst, e_dct, e_op, e_cmp, e_isN, e_notN, e_and, e_or, e_not, e_ifx, e_call, e_bi, e_m0, e_m1, e_g1, e_g2, e_ix, e_sl, l_nil, l_cons, o_no, o_so, t_t, c_no, c_so, kTup1, kTup2, kLst0, kLst1, kLst2, kOp2, kOp1, kCmp2, kCmp1, kIsN, kNotN, kAnd, kOr, kTru, kNot, kM0, kM1b, kM1, kG1b, kG1, kG2c, kG2b, kG2, kIx2, kIx1, kSl3, kSl2, kSl1, kL2, kL1, kEx, kSet, kP2b, kP2, kP3c, kP3b, kP3, kSi3, kSi2, kSi1, kAu3, kAu2, kAx5, kAx4, kAx3, kAx2, kAx1, kRet, evOp, evCmp, bindG, bindGs, List.getElem?_cons_zero, List.getElem?_cons_succ, kV_ok, Out.bind_ok, Out.sb_ok, noexc_ok, List.set_cons_zero, List.set_cons_succ, kSet2_s, seq_nx, kTru2_s, truD, wipeE]
  have hrows := needles_ok (o := o) w (show N.sp.length ≤ 50 by omega) ho
  have h1 : (rows1 N.sp.length).length = N.sp.length + 1 := by simp [rows1]
  have h2 : (rows2 N.sp.length).length ≤ 144 := by
    rw [rows2_len]
    exact Nat.mul_le_mul (show N.sp.length + 1 ≤ 12 by omega) (show N.sp.length + 1 ≤ 12 by omega)
  have hfit : ((if o = 1 then rows1 N.sp.length else rows2 N.sp.length).all fun nd => fitB N (N.near a n x) nd o) = (dbl N (N.near a n x)).isEmpty := by
    rcases ho with rfl | rfl
    · exact fits1 C.sm
    · exact fits2 C.sm
  obtain ⟨y12, y13, y14, s1, p2, g1⟩ := need_loop (a0 := a0) (x2 := x2) (x6 := x6) (x8 := x8) (x9 := some (.ref db)) (x12 := x12) (x13 := x13) (x14 := x14) (x15 := x15) (x16 := x16) (x17 := x17) (x18 := x18) w B (by omega) C hrows (by
    intro nd hnd k
    split at hnd
    · exact Nat.le_trans (rows1_2 hnd k) (by omega)
    · exact rows2_2 hnd k) (by split <;> omega)
  rw [hfit] at p2
  have n1 := is_nils (g1.get hdb hd2)
  have n2 : ∀ (b : Bool) (s : Sto), evNe (.bl b) (.bl b) s = .ok (.bl false) s := fun b s => by
    simp [evNe, eqD]
  refine ⟨some (.bl (dbl N (N.near a n x)).isEmpty), y12, y13, y14, s1 ++ [.lst []], ?_, g1.app rfl⟩
  rw [sl_cons, p1, seq_nx, sl_cons, p2, seq_nx]
  simp -implicitDefEqProofs only [sl_cons, sl_nil, q_ex, q_set, q_p2, q_p3, q_si, q_au, q_ax, q_if, q_for, q_ret, q_retN, q_pass, q_raise, e_v, e_k, e_tup, e_lst, e_dct, e_op, e_cmp, e_isN, e_notN, e_and, e_or, e_not, e_ifx, e_call, e_bi, e_m0, e_m1, e_g1, e_g2, e_ix, e_sl, l_nil, l_cons, o_no, o_so, t_t, c_no, c_so, kTup1, kTup2, kLst0, kLst1, kLst2, kOp2, kOp1, kCmp2, kCmp1, kIsN, kNotN, kAnd, kOr, kTru, kNot, kM0, kM1b, kM1, kG1b, kG1, kG2c, kG2b, kG2, kIx2, kIx1, kSl3, kSl2, kSl1, kL2, kL1, kEx, kSet, kP2b, kP2, kP3c, kP3b, kP3, kSi3, kSi2, kSi1, kAu3, kAu2, kAx5, kAx4, kAx3, kAx2, kAx1, kRet, evOp, evCmp, bindG, bindGs, List.getElem?_cons_zero, List.getElem?_cons_succ, kV_ok, Out.bind_ok, Out.sb_ok, noexc_ok, List.set_cons_zero, List.set_cons_succ, kSet2_s, seq_nx, kTru2_s, truD, wipeE, n1, n2, kIfS_f]
theorem s8_ok {db : Nat} (w : Wf s) (B : BagAt s 2 1 c) (hc : c < 500000000) (C : Cx2 s N a n x g sp rd q) (hdb : s[db]? = some (.lst ((dbl N (N.near a n x)).map pairD))) (hd2 : db ≠ 2) :
    ∃ (y10 y11 y12 y13 y14 : Option D) (s' : Sto), evS T_law (.forI (.n 10) (.of (.tup (.cons (.k (.int 1)) (.cons (.k (.int 2)) (.nil))))) (.cons (.set (.n 11) (.k (.bl true))) (.cons (.forI (.n 12) (.of (.call 8 (.cons (.bi .len (.v 5)) (.cons (.v 10) (.nil))))) (.cons (.set (.n 13) (.lc (.bi .sum (.lc (.op .mul (.get2 (.v 8) (.v 16) (.k (.int 0))) (.ix (.v 12) (.v 16))) (.n 16) (.r1 (.bi .len (.v 5))) (.no) [16])) (.n 8) (.of (.v 7)) (.no) [8])) (.cons (.set (.n 14) (.cmp .eq (.lc (.v 17) (.t (.cons (.n 17) (.cons (.n 18) (.nil)))) (.en (.v 13)) (.so (.and (.cmp .ne (.ix (.ix (.ix (.v 3) (.k (.int 3))) (.v 17)) (.k (.int 0))) (.k (.str "bit"))) (.cmp .gt (.op .add (.v 18) (.ix (.v 12) (.v 17))) (.v 10)))) [17, 18]) (.lst (.nil)))) (.cons (.ife (.and (.cmp .eq (.call 2 (.cons (.v 1) (.cons (.k (.int 8)) (.nil)))) (.k (.int 0))) (.not (.call 7 (.cons (.call 15 (.cons (.v 3) (.cons (.v 4) (.cons (.v 12) (.nil))))) (.cons (.bi .tuple (.v 13)) (.nil)))))) (.cons (.ret (.k (.bl false))) (.nil)) (.nil)) (.cons (.ife (.and (.cmp .eq (.call 2 (.cons (.v 1) (.cons (.k (.int 4)) (.nil)))) (.k (.int 0))) (.not (.call 7 (.cons (.call 20 (.cons (.v 3) (.cons (.v 4) (.cons (.v 10) (.cons (.v 12) (.nil)))))) (.cons (.v 14) (.nil)))))) (.cons (.ret (.k (.bl false))) (.nil)) (.nil)) (.cons (.set (.n 11) (.and (.v 11) (.v 14))) (.nil))))))) (.cons (.ife (.cmp .ne (.v 11) (.cmp .eq (.v 9) (.lst (.nil)))) (.cons (.ret (.k (.bl false))) (.nil)) (.nil)) (.nil))))) [a0, some (.ref 2), x2, some N.d, some (.ref g), some (.ref sp), x6, some (.ref rd), x8, some (.ref db), x10, x11, x12, x13, x14, x15, x16, x17, x18] s = .nx [a0, some (.ref 2), x2, some N.d, some (.ref g), some (.ref sp), x6, some (.ref rd), x8, some (.ref db), y10, y11, y12, y13, y14, x15, x16, x17, x18] s' ∧ Gr s s' 2 1 (c + 800) := by
  obtain ⟨y11, y12, y13, y14, s1, p1, g1⟩ := order_step (o := 1) (a0 := a0) (x2 := x2) (x6 := x6) (x8 := x8) (x11 := x11) (x12 := x12) (x13 := x13) (x14 := x14) (x15 := x15) (x16 := x16) (x17 := x17) (x18 := x18) (.inl rfl) w B (by omega) C hdb hd2
  obtain ⟨z11, z12, z13, z14, s2, p2, g2⟩ := order_step (o := 2) (a0 := a0) (x2 := x2) (x6 := x6) (x8 := x8) (x11 := y11) (x12 := y12) (x13 := y13) (x14 := y14) (x15 := x15) (x16 := x16) (x17 := x17) (x18 := x18) (.inr rfl) g1.wf g1.bag (by omega) (C.step g1) (g1.get hdb hd2) hd2
  refine ⟨some (natD 2), z11, z12, z13, z14, s2, ?_, g1.trans g2⟩
  rw [q_for]
  simp -implicitDefEqProofs only [sl_cons, sl_nil, q_ex, q_set, q_p2, q_p3, q_si, q_au, q_ax, q_if, q_for, q_ret, q_retN, q_pass, q_raise, e_v, e_k, e_tup, e_lst, e_dct, e_op, e_cmp, e_isN, e_notN, e_and, e_or, e_not, e_ifx, e_call, e_bi, e_m0, e_m1, e_g1, e_g2, e_ix, e_sl, l_nil, l_cons, o_no, o_so, t_t, c_no, c_so, kTup1, kTup2, kLst0, kLst1, kLst2, kOp2, kOp1, kCmp2, kCmp1, kIsN, kNotN, kAnd, kOr, kTru, kNot, kM0, kM1b, kM1, kG1b, kG1, kG2c, kG2b, kG2, kIx2, kIx1, kSl3, kSl2, kSl1, kL2, kL1, kEx, kSet, kP2b, kP2, kP3c, kP3b, kP3, kSi3, kSi2, kSi1, kAu3, kAu2, kAx5, kAx4, kAx3, kAx2, kAx1, kRet, evOp, evCmp, bindG, bindGs, List.getElem?_cons_zero, List.getElem?_cons_succ, kV_ok, Out.bind_ok, Out.sb_ok, noexc_ok, List.set_cons_zero, List.set_cons_succ, kSet2_s, seq_nx, kTru2_s, truD, wipeE, i_of, kWalk, walkD, kWalk2_s, kFor]
  show forL (bindG (.n 10)) (fun env st => evSL T_law (.cons (.set (.n 11) (.k (.bl true))) (.cons (.forI (.n 12) (.of (.call 8 (.cons (.bi .len (.v 5)) (.cons (.v 10) (.nil))))) (.cons (.set (.n 13) (.lc (.bi .sum (.lc (.op .mul (.get2 (.v 8) (.v 16) (.k (.int 0))) (.ix (.v 12) (.v 16))) (.n 16) (.r1 (.bi .len (.v 5))) (.no) [16])) (.n 8) (.of (.v 7)) (.no) [8])) (.cons (.set (.n 14) (.cmp .eq (.lc (.v 17) (.t (.cons (.n 17) (.cons (.n 18) (.nil)))) (.en (.v 13)) (.so (.and (.cmp .ne (.ix (.ix (.ix (.v 3) (.k (.int 3))) (.v 17)) (.k (.int 0))) (.k (.str "bit"))) (.cmp .gt (.op .add (.v 18) (.ix (.v 12) (.v 17))) (.v 10)))) [17, 18]) (.lst (.nil)))) (.cons (.ife (.and (.cmp .eq (.call 2 (.cons (.v 1) (.cons (.k (.int 8)) (.nil)))) (.k (.int 0))) (.not (.call 7 (.cons (.call 15 (.cons (.v 3) (.cons (.v 4) (.cons (.v 12) (.nil))))) (.cons (.bi .tuple (.v 13)) (.nil)))))) (.cons (.ret (.k (.bl false))) (.nil)) (.nil)) (.cons (.ife (.and (.cmp .eq (.call 2 (.cons (.v 1) (.cons (.k (.int 4)) (.nil)))) (.k (.int 0))) (.not (.call 7 (.cons (.call 20 (.cons (.v 3) (.cons (.v 4) (.cons (.v 10) (.cons (.v 12) (.nil)))))) (.cons (.v 14) (.nil)))))) (.cons (.ret (.k (.bl false))) (.nil)) (.nil)) (.cons (.set (.n 11) (.and (.v 11) (.v 14))) (.nil))))))) (.cons (.ife (.cmp .ne (.v 11) (.cmp .eq (.v 9) (.lst (.nil)))) (.cons (.ret (.k (.bl false))) (.nil)) (.nil)) (.nil)))) env st) Chk.free.ok [natD 1, natD 2] [a0, some (.ref 2), x2, some N.d, some (.ref g), some (.ref sp), x6, some (.ref rd), x8, some (.ref db), x10, x11, x12, x13, x14, x15, x16, x17, x18] s = _
  have b1 : bindG (.n 10) (natD 1) [a0, some (.ref 2), x2, some N.d, some (.ref g), some (.ref sp), x6, some (.ref rd), x8, some (.ref db), x10, x11, x12, x13, x14, x15, x16, x17, x18] = some [a0, some (.ref 2), x2, some N.d, some (.ref g), some (.ref sp), x6, some (.ref rd), x8, some (.ref db), some (natD 1), x11, x12, x13, x14, x15, x16, x17, x18] := rfl
  have b2 : bindG (.n 10) (natD 2) [a0, some (.ref 2), x2, some N.d, some (.ref g), some (.ref sp), x6, some (.ref rd), x8, some (.ref db), some (natD 1), y11, y12, y13, y14, x15, x16, x17, x18] = some [a0, some (.ref 2), x2, some N.d, some (.ref g), some (.ref sp), x6, some (.ref rd), x8, some (.ref db), some (natD 2), y11, y12, y13, y14, x15, x16, x17, x18] := rfl
  have hck : ∀ s, Chk.free.ok s = true := fun _ => rfl
  simp -implicitDefEqProofs only [forL, hck, if_true, b1, p1, b2, p2]
end
end Lw
end

section
set_option Elab.async false
set_option linter.all false
set_option maxRecDepth 100000
set_option autoImplicit false
set_option maxHeartbeats 1000000
/-! M27: needles that are none -/
namespace Lw
open PySem L2 Ev
theorem kTup4 (a b c d : D) (s : Sto) : kTup [a, b, c, d] s = .ok (.tup [a, b, c, d]) s := by
  unfold kTup
  exact if_pos (show 4 ≤ SZ from by decide)
theorem mul_list {s : Sto} {r k : Nat} {x : D} (hr : s[r]? = some (.lst [x])) (h : k ≤ 500) : evMul (.ref r) (natD k) s = .ok (.ref s.length) (s ++ [.lst (List.replicate k x)]) := by
  simp only [evMul, natD, hr]
  rw [if_pos ⟨by omega, by omega, by simp⟩, Int.toNat_natCast, rep_one]
  unfold newL
  rw [if_pos (by rw [List.length_replicate]; exact Nat.le_trans h (by decide))]
theorem closed_rep (k j : Nat) : closeds k (List.replicate j (D.int 0)) = true := by
  induction j with
  | zero => rfl
  | succ j ih => rw [List.replicate_succ]; exact ih
section
variable {s : Sto} {a0 x2 x3 x4 x5 x6 x7 x8 x9 x10 x11 x12 x13 x14 x15 x16 x17 x18 : Option D} {c : Nat} {N : Net} {a n x : Bool} {g sp rd q : Nat}
theorem try_bad {b : D} (h : f_asked_of [N.d, .ref g, b] s = .exc 0 s) : evSL T_law (.cons (.try_ (.cons (.ex (.call 15 (.cons (.v 3) (.cons (.v 4) (.cons (.v 15) (.nil)))))) (.cons (.ret (.k (.bl false))) (.nil))) 0 (.cons (.pass) (.nil))) (.nil)) [a0, some (.ref 2), x2, some N.d, some (.ref g), x5, x6, x7, x8, x9, x10, x11, x12, x13, x14, some b, x16, x17, x18] s = .nx [a0, some (.ref 2), x2, some N.d, some (.ref g), x5, x6, x7, x8, x9, x10, x11, x12, x13, x14, some b, x16, x17, x18] s := by
  have e : evE T_law (.call 15 (.cons (.v 3) (.cons (.v 4) (.cons (.v 15) (.nil))))) [a0, some (.ref 2), x2, some N.d, some (.ref g), x5, x6, x7, x8, x9, x10, x11, x12, x13, x14, some b, x16, x17, x18] s = .exc 0 s := by
    simp -implicitDefEqProofs only [sl_cons, sl_nil, q_ex, q_set, q_p2, q_p3, q_si, q_au, q_ax, q_if, q_for, q_ret, q_retN, q_pass, q_raise, e_v, e_k, e_tup, e_lst, e_dct, e_op, e_cmp, e_isN, e_notN, e_and, e_or, e_not, e_ifx, e_call, e_bi, e_m0, e_m1, e_g1, e_g2, e_ix, e_sl, l_nil, l_cons, o_no, o_so, t_t, c_no, c_so, kTup1, kTup2, kLst0, kLst1, kLst2, kOp2, kOp1, kCmp2, kCmp1, kIsN, kNotN, kAnd, kOr, kTru, kNot, kM0, kM1b, kM1, kG1b, kG1, kG2c, kG2b, kG2, kIx2, kIx1, kSl3, kSl2, kSl1, kL2, kL1, kEx, kSet, kP2b, kP2, kP3c, kP3b, kP3, kSi3, kSi2, kSi1, kAu3, kAu2, kAx5, kAx4, kAx3, kAx2, kAx1, kRet, evOp, evCmp, bindG, bindGs, List.getElem?_cons_zero, List.getElem?_cons_succ, kV_ok, Out.bind_ok, Out.sb_ok, noexc_ok, List.set_cons_zero, List.set_cons_succ, kSet2_s, seq_nx, kTru2_s, truD, wipeE, tl_0, tl_1, tl_2, tl_4, tl_5, tl_6, tl_7, tl_8, tl_11, tl_15, tl_17, tl_18, tl_19, tl_20, h]
  have e2 : evSL T_law (.cons (.ex (.call 15 (.cons (.v 3) (.cons (.v 4) (.cons (.v 15) (.nil)))))) (.cons (.ret (.k (.bl false))) (.nil))) [a0, some (.ref 2), x2, some N.d, some (.ref g), x5, x6, x7, x8, x9, x10, x11, x12, x13, x14, some b, x16, x17, x18] s = .exc 0 [a0, some (.ref 2), x2, some N.d, some (.ref g), x5, x6, x7, x8, x9, x10, x11, x12, x13, x14, some b, x16, x17, x18] s := by
    rw [sl_cons, q_ex, e]
    rfl
  rw [sl_cons, q_try, e2]
  simp only [kTry, if_true, sl_cons, q_pass, seq_nx, sl_nil]
theorem bads_ok (w : Wf s) (B : BagAt s 2 1 c) (C : Cx2 s N a n x g sp rd q) :
    ∃ (r : Nat) (s' : Sto), evE T_law (.tup (.cons (.k .non) (.cons (.op .mul (.tup (.cons (.k (.int 0)) (.nil))) (.op .add (.bi .len (.v 5)) (.k (.int 1)))) (.cons (.op .mul (.lst (.cons (.k (.int 0)) (.nil))) (.bi .len (.v 5))) (.cons (.op .mul (.tup (.cons (.k (.int (-1))) (.nil))) (.bi .len (.v 5))) (.nil)))))) [a0, some (.ref 2), x2, some N.d, some (.ref g), some (.ref sp), x6, some (.ref rd), x8, x9, x10, x11, x12, x13, x14, x15, x16, x17, x18] s = .ok (.tup [.non, .tup (List.replicate (N.sp.length + 1) (.int 0)), .ref r, .tup (List.replicate N.sp.length (.int (-1)))]) s' ∧ Gr s s' 2 1 c ∧ s'[r]? = some (.lst (List.replicate N.sp.length (.int 0))) := by
  have hL := C.sm.L
  have g0 := Gr.refl w B
  have h0 := len_sp (env := [a0, some (.ref 2), x2, some N.d, some (.ref g), some (.ref sp), x6, some (.ref rd), x8, x9, x10, x11, x12, x13, x14, x15, x16, x17, x18]) w C rfl
  have g1 : Gr s (s ++ [.lst [.int 0]]) 2 1 c := g0.app rfl
  have C1 := C.step g1
  have h1 := len_sp (env := [a0, some (.ref 2), x2, some N.d, some (.ref g), some (.ref sp), x6, some (.ref rd), x8, x9, x10, x11, x12, x13, x14, x15, x16, x17, x18]) g1.wf C1 rfl
  have k1 : (s ++ [MO.lst [.int 0]])[s.length]? = some (.lst [.int 0]) := app_at _ _ _
  generalize hs1 : s ++ [MO.lst [.int 0]] = s1 at *
  have g2 : Gr s (s1 ++ [.lst (List.replicate N.sp.length (.int 0))]) 2 1 c := g1.app (by rw [List.all_cons, List.all_nil, Bool.and_true]; exact closed_rep _ _)
  have C2 := C.step g2
  have h2 := len_sp (env := [a0, some (.ref 2), x2, some N.d, some (.ref g), some (.ref sp), x6, some (.ref rd), x8, x9, x10, x11, x12, x13, x14, x15, x16, x17, x18]) g2.wf C2 rfl
  have m0 := mul_zeros (st := s) (N.sp.length + 1) (.int 0) (by omega)
  have m1 := mul_list (k := N.sp.length) k1 (by omega)
  have m2 := mul_zeros (st := s1 ++ [.lst (List.replicate N.sp.length (.int 0))]) N.sp.length (.int (-1)) (by omega)
  have ad := add_one (st := s) N.sp.length
  refine ⟨s1.length, _, ?_, g2, app_at _ _ _⟩
  simp -implicitDefEqProofs only [sl_cons, sl_nil, q_ex, q_set, q_p2, q_p3, q_si, q_au, q_ax, q_if, q_for, q_ret, q_retN, q_pass, q_raise, e_v, e_k, e_tup, e_lst, e_dct, e_op, e_cmp, e_isN, e_notN, e_and, e_or, e_not, e_ifx, e_call, e_bi, e_m0, e_m1, e_g1, e_g2, e_ix, e_sl, l_nil, l_cons, o_no, o_so, t_t, c_no, c_so, kTup1, kTup2, kLst0, kLst1, kLst2, kOp2, kOp1, kCmp2, kCmp1, kIsN, kNotN, kAnd, kOr, kTru, kNot, kM0, kM1b, kM1, kG1b, kG1, kG2c, kG2b, kG2, kIx2, kIx1, kSl3, kSl2, kSl1, kL2, kL1, kEx, kSet, kP2b, kP2, kP3c, kP3b, kP3, kSi3, kSi2, kSi1, kAu3, kAu2, kAx5, kAx4, kAx3, kAx2, kAx1, kRet, evOp, evCmp, bindG, bindGs, kTup4, List.getElem?_cons_zero, List.getElem?_cons_succ, kV_ok, Out.bind_ok, Out.sb_ok, noexc_ok, List.set_cons_zero, List.set_cons_succ, kSet2_s, seq_nx, kTru2_s, truD, wipeE, ↓h0, ↓h1, ↓h2, hs1, m0, m1, m2, ad]
theorem s9_ok (w : Wf s) (B : BagAt s 2 1 c) (C : Cx2 s N a n x g sp rd q) :
    ∃ (y15 : Option D) (s' : Sto), evS T_law (.forI (.n 15) (.of (.tup (.cons (.k .non) (.cons (.op .mul (.tup (.cons (.k (.int 0)) (.nil))) (.op .add (.bi .len (.v 5)) (.k (.int 1)))) (.cons (.op .mul (.lst (.cons (.k (.int 0)) (.nil))) (.bi .len (.v 5))) (.cons (.op .mul (.tup (.cons (.k (.int (-1))) (.nil))) (.bi .len (.v 5))) (.nil))))))) (.cons (.try_ (.cons (.ex (.call 15 (.cons (.v 3) (.cons (.v 4) (.cons (.v 15) (.nil)))))) (.cons (.ret (.k (.bl false))) (.nil))) 0 (.cons (.pass) (.nil))) (.nil))) [a0, some (.ref 2), x2, some N.d, some (.ref g), some (.ref sp), x6, some (.ref rd), x8, x9, x10, x11, x12, x13, x14, x15, x16, x17, x18] s = .nx [a0, some (.ref 2), x2, some N.d, some (.ref g), some (.ref sp), x6, some (.ref rd), x8, x9, x10, x11, x12, x13, x14, y15, x16, x17, x18] s' ∧ Gr s s' 2 1 c := by
  have hL := C.sm.L
  have hV := C.sm.V
  have hT := C.T2
  have hsp := sp_len N
  obtain ⟨r, s1, he, g1, hr⟩ := bads_ok (a0 := a0) (x2 := x2) (x6 := x6) (x8 := x8) (x9 := x9) (x10 := x10) (x11 := x11) (x12 := x12) (x13 := x13) (x14 := x14) (x15 := x15) (x16 := x16) (x17 := x17) (x18 := x18) w B C
  have t1 := bad_non (g := g) (N := N) g1.wf (by omega) (by omega)
  have t2 := bad_tup (g := g) (N := N) (is := List.replicate (N.sp.length + 1) 0) g1.wf (by omega) (by omega) (by rw [List.length_replicate]; omega) (.inl (by rw [List.length_replicate]; omega))
  have t3 := bad_lst (g := g) (N := N) g1.wf (by omega) (by omega) hr
  have t4 := bad_tup (g := g) (N := N) (is := List.replicate N.sp.length (-1)) g1.wf (by omega) (by omega) (by rw [List.length_replicate]; omega) (.inr (by
    rw [show N.sp.length = (N.sp.length - 1) + 1 from by omega, List.replicate_succ, List.all_cons]
    rfl))
  rw [List.map_replicate] at t2 t4
  refine ⟨some (.tup (List.replicate N.sp.length (.int (-1)))), s1, ?_, g1⟩
  have p1 := try_bad (a0 := a0) (x2 := x2) (x5 := some (.ref sp)) (x6 := x6) (x7 := some (.ref rd)) (x8 := x8) (x9 := x9) (x10 := x10) (x11 := x11) (x12 := x12) (x13 := x13) (x14 := x14) (x16 := x16) (x17 := x17) (x18 := x18) t1
  have p2 := try_bad (a0 := a0) (x2 := x2) (x5 := some (.ref sp)) (x6 := x6) (x7 := some (.ref rd)) (x8 := x8) (x9 := x9) (x10 := x10) (x11 := x11) (x12 := x12) (x13 := x13) (x14 := x14) (x16 := x16) (x17 := x17) (x18 := x18) t2
  have p3 := try_bad (a0 := a0) (x2 := x2) (x5 := some (.ref sp)) (x6 := x6) (x7 := some (.ref rd)) (x8 := x8) (x9 := x9) (x10 := x10) (x11 := x11) (x12 := x12) (x13 := x13) (x14 := x14) (x16 := x16) (x17 := x17) (x18 := x18) t3
  have p4 := try_bad (a0 := a0) (x2 := x2) (x5 := some (.ref sp)) (x6 := x6) (x7 := some (.ref rd)) (x8 := x8) (x9 := x9) (x10 := x10) (x11 := x11) (x12 := x12) (x13 := x13) (x14 := x14) (x16 := x16) (x17 := x17) (x18 := x18) t4
  have hck : ∀ s, Chk.free.ok s = true := fun _ => rfl
  rw [q_for, i_of, he, Out.bind_ok]
  simp only [kWalk, walkD, kWalk2_s, Out.sb_ok]
  show forL (bindG (.n 15)) (fun env st => evSL T_law (.cons (.try_ (.cons (.ex (.call 15 (.cons (.v 3) (.cons (.v 4) (.cons (.v 15) (.nil)))))) (.cons (.ret (.k (.bl false))) (.nil))) 0 (.cons (.pass) (.nil))) (.nil)) env st) Chk.free.ok [.non, .tup (List.replicate (N.sp.length + 1) (.int 0)), .ref r, .tup (List.replicate N.sp.length (.int (-1)))] [a0, some (.ref 2), x2, some N.d, some (.ref g), some (.ref sp), x6, some (.ref rd), x8, x9, x10, x11, x12, x13, x14, x15, x16, x17, x18] s1 = _
  have b : ∀ (d : D) (x15 : Option D), bindG (.n 15) d [a0, some (.ref 2), x2, some N.d, some (.ref g), some (.ref sp), x6, some (.ref rd), x8, x9, x10, x11, x12, x13, x14, x15, x16, x17, x18] = some [a0, some (.ref 2), x2, some N.d, some (.ref g), some (.ref sp), x6, some (.ref rd), x8, x9, x10, x11, x12, x13, x14, some d, x16, x17, x18] := fun _ _ => rfl
  simp -implicitDefEqProofs only [forL, hck, if_true, b, p1, p2, p3, p4]
end
end Lw
end

section
set_option Elab.async false
set_option linter.all false
set_option maxRecDepth 100000
set_option autoImplicit false
set_option maxHeartbeats 1000000
/-! M28: a whole turn -/
namespace Lw
open PySem L2 Ev
section
variable {s : Sto} {a0 x2 x3 x4 x5 x6 x7 x8 x9 x10 x11 x12 x13 x14 x15 x16 x17 x18 : Option D} {c : Nat} {N : Net} {a n x : Bool} {g sp rd q : Nat}
theorem turn_ok (w : Wf s) (B : BagAt s 2 1 c) (hc : c < 400000000) :
    ∃ (y3 y4 y5 y6 y7 y8 y9 y10 y11 y12 y13 y14 y15 : Option D) (s' : Sto), evSL T_law (.cons (.set (.t (.cons (.n 3) (.cons (.n 4) (.nil)))) (.tup (.cons (.call 4 (.cons (.v 1) (.cons (.op .add (.k (.int 1)) (.call 2 (.cons (.v 1) (.cons (.k (.int 5)) (.nil))))) (.nil)))) (.cons (.call 5 (.cons (.v 1) (.nil))) (.nil))))) (.cons (.set (.n 5) (.call 1 (.cons (.v 3) (.nil)))) (.cons (.set (.n 7) (.lc (.call 6 (.cons (.v 3) (.cons (.v 4) (.cons (.v 6) (.nil))))) (.n 6) (.r1 (.bi .len (.ix (.v 3) (.k (.int 3))))) (.no) [6])) (.cons (.ife (.not (.call 7 (.cons (.lst (.cons (.call 11 (.cons (.v 3) (.nil))) (.cons (.call 17 (.cons (.v 3) (.cons (.v 4) (.nil)))) (.nil)))) (.cons (.lst (.cons (.v 5) (.cons (.bi .tuple (.lc (.bi .tuple (.bi .sortI (.v 8))) (.n 8) (.of (.v 7)) (.no) [8])) (.nil)))) (.nil))))) (.cons (.ret (.k (.bl false))) (.nil)) (.nil)) (.cons (.set (.n 9) (.lst (.nil))) (.cons (.forI (.t (.cons (.n 6) (.cons (.n 8) (.nil)))) (.en (.v 7)) (.cons (.ex (.mth1 .extend (.v 9) (.lc (.tup (.cons (.v 6) (.cons (.v 16) (.nil)))) (.n 16) (.of (.bi .sortK (.v 8))) (.so (.and (.cmp .gt (.ix (.v 8) (.v 16)) (.k (.int 1))) (.cmp .ne (.ix (.ix (.ix (.v 3) (.k (.int 3))) (.v 6)) (.k (.int 0))) (.k (.str "bit"))))) [16]))) (.nil))) (.cons (.ife (.not (.call 7 (.cons (.lst (.cons (.call 18 (.cons (.v 3) (.cons (.v 4) (.nil)))) (.cons (.call 19 (.cons (.v 3) (.cons (.v 4) (.nil)))) (.nil)))) (.cons (.lst (.cons (.ifx (.cmp .ne (.v 9) (.lst (.nil))) (.ix (.v 9) (.k (.int 0))) (.k .non)) (.cons (.cmp .eq (.v 9) (.lst (.nil))) (.nil)))) (.nil))))) (.cons (.ret (.k (.bl false))) (.nil)) (.nil)) (.cons (.forI (.n 10) (.of (.tup (.cons (.k (.int 1)) (.cons (.k (.int 2)) (.nil))))) (.cons (.set (.n 11) (.k (.bl true))) (.cons (.forI (.n 12) (.of (.call 8 (.cons (.bi .len (.v 5)) (.cons (.v 10) (.nil))))) (.cons (.set (.n 13) (.lc (.bi .sum (.lc (.op .mul (.get2 (.v 8) (.v 16) (.k (.int 0))) (.ix (.v 12) (.v 16))) (.n 16) (.r1 (.bi .len (.v 5))) (.no) [16])) (.n 8) (.of (.v 7)) (.no) [8])) (.cons (.set (.n 14) (.cmp .eq (.lc (.v 17) (.t (.cons (.n 17) (.cons (.n 18) (.nil)))) (.en (.v 13)) (.so (.and (.cmp .ne (.ix (.ix (.ix (.v 3) (.k (.int 3))) (.v 17)) (.k (.int 0))) (.k (.str "bit"))) (.cmp .gt (.op .add (.v 18) (.ix (.v 12) (.v 17))) (.v 10)))) [17, 18]) (.lst (.nil)))) (.cons (.ife (.and (.cmp .eq (.call 2 (.cons (.v 1) (.cons (.k (.int 8)) (.nil)))) (.k (.int 0))) (.not (.call 7 (.cons (.call 15 (.cons (.v 3) (.cons (.v 4) (.cons (.v 12) (.nil))))) (.cons (.bi .tuple (.v 13)) (.nil)))))) (.cons (.ret (.k (.bl false))) (.nil)) (.nil)) (.cons (.ife (.and (.cmp .eq (.call 2 (.cons (.v 1) (.cons (.k (.int 4)) (.nil)))) (.k (.int 0))) (.not (.call 7 (.cons (.call 20 (.cons (.v 3) (.cons (.v 4) (.cons (.v 10) (.cons (.v 12) (.nil)))))) (.cons (.v 14) (.nil)))))) (.cons (.ret (.k (.bl false))) (.nil)) (.nil)) (.cons (.set (.n 11) (.and (.v 11) (.v 14))) (.nil))))))) (.cons (.ife (.cmp .ne (.v 11) (.cmp .eq (.v 9) (.lst (.nil)))) (.cons (.ret (.k (.bl false))) (.nil)) (.nil)) (.nil))))) (.cons (.forI (.n 15) (.of (.tup (.cons (.k .non) (.cons (.op .mul (.tup (.cons (.k (.int 0)) (.nil))) (.op .add (.bi .len (.v 5)) (.k (.int 1)))) (.cons (.op .mul (.lst (.cons (.k (.int 0)) (.nil))) (.bi .len (.v 5))) (.cons (.op .mul (.tup (.cons (.k (.int (-1))) (.nil))) (.bi .len (.v 5))) (.nil))))))) (.cons (.try_ (.cons (.ex (.call 15 (.cons (.v 3) (.cons (.v 4) (.cons (.v 15) (.nil)))))) (.cons (.ret (.k (.bl false))) (.nil))) 0 (.cons (.pass) (.nil))) (.nil))) (.nil)))))))))) [a0, some (.ref 2), x2, x3, x4, x5, x6, x7, x8, x9, x10, x11, x12, x13, x14, x15, x16, x17, x18] s = .nx [a0, some (.ref 2), x2, y3, y4, y5, y6, y7, y8, y9, y10, y11, y12, y13, y14, y15, x16, x17, x18] s' ∧ Wf s' ∧ BagAt s' 2 1 (c + 1000) := by
  have hl0 := (Gr.refl w B).bl
  obtain ⟨N, a, n, x, g, s1, p1, g1, hg, hgl, sm, hV, hT⟩ := s1_ok (a0 := a0) (x2 := x2) (x3 := x3) (x4 := x4) (x5 := x5) (x6 := x6) (x7 := x7) (x8 := x8) (x9 := x9) (x10 := x10) (x11 := x11) (x12 := x12) (x13 := x13) (x14 := x14) (x15 := x15) (x16 := x16) (x17 := x17) (x18 := x18) w B (by omega)
  have hl1 := g1.le
  have hl2 := g1.bl
  have p2 := s2_ok (a := a) (n := n) (x := x) (a0 := a0) (x2 := x2) (x4 := some (.ref g)) (x6 := x6) (x7 := x7) (x8 := x8) (x9 := x9) (x10 := x10) (x11 := x11) (x12 := x12) (x13 := x13) (x14 := x14) (x15 := x15) (x16 := x16) (x17 := x17) (x18 := x18) (x5 := x5) g1.wf sm hT
  have g2 : Gr s1 (s1 ++ [.lst (N.sp.map spotD)]) 2 1 (c + 50) := (Gr.refl g1.wf g1.bag).app (by rw [List.all_cons, List.all_nil, Bool.and_true]; exact closed_spots _ _)
  have k2 : (s1 ++ [MO.lst (N.sp.map spotD)])[s1.length]? = some (.lst (N.sp.map spotD)) := app_at _ _ _
  generalize hsp : s1.length = sp at *
  generalize hs2 : s1 ++ [MO.lst (N.sp.map spotD)] = s2 at *
  obtain ⟨rd, q, _, s3, p3, g3, C3⟩ := s3_ok (sp := sp) (a0 := a0) (x2 := x2) (x5 := some (.ref sp)) (x6 := x6) (x7 := x7) (x8 := x8) (x9 := x9) (x10 := x10) (x11 := x11) (x12 := x12) (x13 := x13) (x14 := x14) (x15 := x15) (x16 := x16) (x17 := x17) (x18 := x18) g2.wf g2.bag sm hV hT (g2.get hg (by omega)) (by omega) k2 (by omega)
  obtain ⟨s4, p4, g4⟩ := s4_ok (a0 := a0) (x2 := x2) (x6 := x6) (x8 := x8) (x9 := x9) (x10 := x10) (x11 := x11) (x12 := x12) (x13 := x13) (x14 := x14) (x15 := x15) (x16 := x16) (x17 := x17) (x18 := x18) g3.wf g3.bag C3
  have C4 := C3.step g4
  obtain ⟨p5, g5⟩ := s5_ok (a0 := a0) (x2 := x2) (x3 := some N.d) (x4 := some (.ref g)) (x5 := some (.ref sp)) (x6 := x6) (x7 := some (.ref rd)) (x8 := x8) (x9 := x9) (x10 := x10) (x11 := x11) (x12 := x12) (x13 := x13) (x14 := x14) (x15 := x15) (x16 := x16) (x17 := x17) (x18 := x18) g4.wf g4.bag
  have hl4 : 2 < s4.length := (Gr.refl g4.wf g4.bag).bl
  obtain ⟨y6, y8, s6, p6, g6, d6⟩ := s6_ok (x6' := none) (a0 := a0) (x2 := x2) (x6 := x6) (x8 := x8) (x10 := x10) (x11 := x11) (x12 := x12) (x13 := x13) (x14 := x14) (x15 := x15) (x16 := x16) (x17 := x17) (x18 := x18) g4.wf g4.bag C4 rfl
  have C6 := C4.step g6
  obtain ⟨s7, p7, g7⟩ := s7_ok (a0 := a0) (x2 := x2) (x6 := y6) (x8 := y8) (x10 := x10) (x11 := x11) (x12 := x12) (x13 := x13) (x14 := x14) (x15 := x15) (x16 := x16) (x17 := x17) (x18 := x18) g6.wf g6.bag C6 d6
  have C7 := C6.step g7
  obtain ⟨y10, y11, y12, y13, y14, s8, p8, g8⟩ := s8_ok (a0 := a0) (x2 := x2) (x6 := y6) (x8 := y8) (x10 := x10) (x11 := x11) (x12 := x12) (x13 := x13) (x14 := x14) (x15 := x15) (x16 := x16) (x17 := x17) (x18 := x18) g7.wf g7.bag (by omega) C7 (g7.get d6 (by omega)) (by omega)
  have C8 := C7.step g8
  obtain ⟨y15, s9, p9, g9⟩ := s9_ok (a0 := a0) (x2 := x2) (x6 := y6) (x8 := y8) (x9 := some (.ref s4.length)) (x10 := y10) (x11 := y11) (x12 := y12) (x13 := y13) (x14 := y14) (x15 := x15) (x16 := x16) (x17 := x17) (x18 := x18) g8.wf g8.bag C8
  refine ⟨some N.d, some (.ref g), some (.ref sp), y6, some (.ref rd), y8, some (.ref s4.length), y10, y11, y12, y13, y14, y15, s9, ?_, g9.wf, g9.bag.le (by omega)⟩
  rw [sl_cons, p1, seq_nx, sl_cons, p2, seq_nx, sl_cons, p3, seq_nx, sl_cons, p4, seq_nx, sl_cons, p5, seq_nx, sl_cons, p6, seq_nx, sl_cons, p7, seq_nx, sl_cons, p8, seq_nx, sl_cons, p9, seq_nx, sl_nil]
end
theorem law_all (ns : List Int) (h : ns.length ≤ 63) : ∃ st, f_law [.rol (ns.map D.int)] [] = .ok (.bl true) st := by
  obtain ⟨s0, e0, B0, w0⟩ := bag_ok ns h
  have loop := forL_inv (bind := bindG (.n 2)) (body := fun env st => evSL T_law (.cons (.set (.t (.cons (.n 3) (.cons (.n 4) (.nil)))) (.tup (.cons (.call 4 (.cons (.v 1) (.cons (.op .add (.k (.int 1)) (.call 2 (.cons (.v 1) (.cons (.k (.int 5)) (.nil))))) (.nil)))) (.cons (.call 5 (.cons (.v 1) (.nil))) (.nil))))) (.cons (.set (.n 5) (.call 1 (.cons (.v 3) (.nil)))) (.cons (.set (.n 7) (.lc (.call 6 (.cons (.v 3) (.cons (.v 4) (.cons (.v 6) (.nil))))) (.n 6) (.r1 (.bi .len (.ix (.v 3) (.k (.int 3))))) (.no) [6])) (.cons (.ife (.not (.call 7 (.cons (.lst (.cons (.call 11 (.cons (.v 3) (.nil))) (.cons (.call 17 (.cons (.v 3) (.cons (.v 4) (.nil)))) (.nil)))) (.cons (.lst (.cons (.v 5) (.cons (.bi .tuple (.lc (.bi .tuple (.bi .sortI (.v 8))) (.n 8) (.of (.v 7)) (.no) [8])) (.nil)))) (.nil))))) (.cons (.ret (.k (.bl false))) (.nil)) (.nil)) (.cons (.set (.n 9) (.lst (.nil))) (.cons (.forI (.t (.cons (.n 6) (.cons (.n 8) (.nil)))) (.en (.v 7)) (.cons (.ex (.mth1 .extend (.v 9) (.lc (.tup (.cons (.v 6) (.cons (.v 16) (.nil)))) (.n 16) (.of (.bi .sortK (.v 8))) (.so (.and (.cmp .gt (.ix (.v 8) (.v 16)) (.k (.int 1))) (.cmp .ne (.ix (.ix (.ix (.v 3) (.k (.int 3))) (.v 6)) (.k (.int 0))) (.k (.str "bit"))))) [16]))) (.nil))) (.cons (.ife (.not (.call 7 (.cons (.lst (.cons (.call 18 (.cons (.v 3) (.cons (.v 4) (.nil)))) (.cons (.call 19 (.cons (.v 3) (.cons (.v 4) (.nil)))) (.nil)))) (.cons (.lst (.cons (.ifx (.cmp .ne (.v 9) (.lst (.nil))) (.ix (.v 9) (.k (.int 0))) (.k .non)) (.cons (.cmp .eq (.v 9) (.lst (.nil))) (.nil)))) (.nil))))) (.cons (.ret (.k (.bl false))) (.nil)) (.nil)) (.cons (.forI (.n 10) (.of (.tup (.cons (.k (.int 1)) (.cons (.k (.int 2)) (.nil))))) (.cons (.set (.n 11) (.k (.bl true))) (.cons (.forI (.n 12) (.of (.call 8 (.cons (.bi .len (.v 5)) (.cons (.v 10) (.nil))))) (.cons (.set (.n 13) (.lc (.bi .sum (.lc (.op .mul (.get2 (.v 8) (.v 16) (.k (.int 0))) (.ix (.v 12) (.v 16))) (.n 16) (.r1 (.bi .len (.v 5))) (.no) [16])) (.n 8) (.of (.v 7)) (.no) [8])) (.cons (.set (.n 14) (.cmp .eq (.lc (.v 17) (.t (.cons (.n 17) (.cons (.n 18) (.nil)))) (.en (.v 13)) (.so (.and (.cmp .ne (.ix (.ix (.ix (.v 3) (.k (.int 3))) (.v 17)) (.k (.int 0))) (.k (.str "bit"))) (.cmp .gt (.op .add (.v 18) (.ix (.v 12) (.v 17))) (.v 10)))) [17, 18]) (.lst (.nil)))) (.cons (.ife (.and (.cmp .eq (.call 2 (.cons (.v 1) (.cons (.k (.int 8)) (.nil)))) (.k (.int 0))) (.not (.call 7 (.cons (.call 15 (.cons (.v 3) (.cons (.v 4) (.cons (.v 12) (.nil))))) (.cons (.bi .tuple (.v 13)) (.nil)))))) (.cons (.ret (.k (.bl false))) (.nil)) (.nil)) (.cons (.ife (.and (.cmp .eq (.call 2 (.cons (.v 1) (.cons (.k (.int 4)) (.nil)))) (.k (.int 0))) (.not (.call 7 (.cons (.call 20 (.cons (.v 3) (.cons (.v 4) (.cons (.v 10) (.cons (.v 12) (.nil)))))) (.cons (.v 14) (.nil)))))) (.cons (.ret (.k (.bl false))) (.nil)) (.nil)) (.cons (.set (.n 11) (.and (.v 11) (.v 14))) (.nil))))))) (.cons (.ife (.cmp .ne (.v 11) (.cmp .eq (.v 9) (.lst (.nil)))) (.cons (.ret (.k (.bl false))) (.nil)) (.nil)) (.nil))))) (.cons (.forI (.n 15) (.of (.tup (.cons (.k .non) (.cons (.op .mul (.tup (.cons (.k (.int 0)) (.nil))) (.op .add (.bi .len (.v 5)) (.k (.int 1)))) (.cons (.op .mul (.lst (.cons (.k (.int 0)) (.nil))) (.bi .len (.v 5))) (.cons (.op .mul (.tup (.cons (.k (.int (-1))) (.nil))) (.bi .len (.v 5))) (.nil))))))) (.cons (.try_ (.cons (.ex (.call 15 (.cons (.v 3) (.cons (.v 4) (.cons (.v 15) (.nil)))))) (.cons (.ret (.k (.bl false))) (.nil))) 0 (.cons (.pass) (.nil))) (.nil))) (.nil)))))))))) env st) (chk := Chk.free.ok)
    (fun j env s => (∃ y2 y3 y4 y5 y6 y7 y8 y9 y10 y11 y12 y13 y14 y15 y16 y17 y18, env = [some (.rol (ns.map D.int)), some (.ref 2), y2, y3, y4, y5, y6, y7, y8, y9, y10, y11, y12, y13, y14, y15, y16, y17, y18]) ∧ Wf s ∧ BagAt s 2 1 (j * 1000))
    (xs := rangeL 0 1 3) (fun _ _ _ _ => rfl)
    (fun j env s y hi hy => by
      obtain ⟨⟨y2, y3, y4, y5, y6, y7, y8, y9, y10, y11, y12, y13, y14, y15, y16, y17, y18, rfl⟩, w, B⟩ := hi
      obtain ⟨hj, rfl⟩ := rangeL_get hy
      obtain ⟨z3, z4, z5, z6, z7, z8, z9, z10, z11, z12, z13, z14, z15, s', p, w', B'⟩ := turn_ok (a0 := some (.rol (ns.map D.int))) (x2 := some (.int (0 + (j : Int) * 1))) (x3 := y3) (x4 := y4) (x5 := y5) (x6 := y6) (x7 := y7) (x8 := y8) (x9 := y9) (x10 := y10) (x11 := y11) (x12 := y12) (x13 := y13) (x14 := y14) (x15 := y15) (x16 := y16) (x17 := y17) (x18 := y18) w B (by omega)
      refine ⟨_, _, s', rfl, .inl p, ⟨_, z3, z4, z5, z6, z7, z8, z9, z10, z11, z12, z13, z14, z15, _, _, _, rfl⟩, w', ?_⟩
      rw [Nat.succ_mul]
      exact B')
    (env := [some (.rol (ns.map D.int)), some (.ref 2), none, none, none, none, none, none, none, none, none, none, none, none, none, none, none, none, none]) (st := s0) ⟨⟨_, _, _, _, _, _, _, _, _, _, _, _, _, _, _, _, _, rfl⟩, w0, by simpa using B0⟩
  obtain ⟨env', s', e1, ⟨y2, y3, y4, y5, y6, y7, y8, y9, y10, y11, y12, y13, y14, y15, y16, y17, y18, rfl⟩, w', B'⟩ := loop
  have p1 : evS T_law (.set (.n 1) (.call 0 (.cons (.v 0) (.nil)))) [some (.rol (ns.map D.int)), none, none, none, none, none, none, none, none, none, none, none, none, none, none, none, none, none, none] [] = .nx [some (.rol (ns.map D.int)), some (.ref 2), none, none, none, none, none, none, none, none, none, none, none, none, none, none, none, none, none] s0 := by
    simp -implicitDefEqProofs only [sl_cons, sl_nil, q_ex, q_set, q_p2, q_p3, q_si, q_au, q_ax, q_if, q_for, q_ret, q_retN, q_pass, q_raise, e_v, e_k, e_tup, e_lst, e_dct, e_op, e_cmp, e_isN, e_notN, e_and, e_or, e_not, e_ifx, e_call, e_bi, e_m0, e_m1, e_g1, e_g2, e_ix, e_sl, l_nil, l_cons, o_no, o_so, t_t, c_no, c_so, kTup1, kTup2, kLst0, kLst1, kLst2, kOp2, kOp1, kCmp2, kCmp1, kIsN, kNotN, kAnd, kOr, kTru, kNot, kM0, kM1b, kM1, kG1b, kG1, kG2c, kG2b, kG2, kIx2, kIx1, kSl3, kSl2, kSl1, kL2, kL1, kEx, kSet, kP2b, kP2, kP3c, kP3b, kP3, kSi3, kSi2, kSi1, kAu3, kAu2, kAx5, kAx4, kAx3, kAx2, kAx1, kRet, evOp, evCmp, bindG, bindGs, List.getElem?_cons_zero, List.getElem?_cons_succ, kV_ok, Out.bind_ok, Out.sb_ok, noexc_ok, List.set_cons_zero, List.set_cons_succ, kSet2_s, seq_nx, kTru2_s, truD, wipeE, tl_0, tl_1, tl_2, tl_4, tl_5, tl_6, tl_7, tl_8, tl_11, tl_15, tl_17, tl_18, tl_19, tl_20, e0]
  have hgc : gc ([] : Sto).length (.bl true) s' = .ok (.bl true) (s'.take 0) := gc_oldW (st := []) (by rfl) (by simp) rfl
  refine ⟨s'.take 0, ?_⟩
  unfold f_law c_law
  rw [evF_fin]
  show fin ([] : Sto).length (evSL T_law _ [some (.rol (ns.map D.int)), none, none, none, none, none, none, none, none, none, none, none, none, none, none, none, none, none, none] []) = _
  rw [sl_cons, p1, seq_nx, sl_cons, q_for_n (e := .k (.int 3)) (j := 3) (show evE T_law (.k (.int 3)) _ _ = .ok (natD 3) _ from e_k _ _ _) (by decide)]
  have e2 : forF T_law (.n 2) (.cons (.set (.t (.cons (.n 3) (.cons (.n 4) (.nil)))) (.tup (.cons (.call 4 (.cons (.v 1) (.cons (.op .add (.k (.int 1)) (.call 2 (.cons (.v 1) (.cons (.k (.int 5)) (.nil))))) (.nil)))) (.cons (.call 5 (.cons (.v 1) (.nil))) (.nil))))) (.cons (.set (.n 5) (.call 1 (.cons (.v 3) (.nil)))) (.cons (.set (.n 7) (.lc (.call 6 (.cons (.v 3) (.cons (.v 4) (.cons (.v 6) (.nil))))) (.n 6) (.r1 (.bi .len (.ix (.v 3) (.k (.int 3))))) (.no) [6])) (.cons (.ife (.not (.call 7 (.cons (.lst (.cons (.call 11 (.cons (.v 3) (.nil))) (.cons (.call 17 (.cons (.v 3) (.cons (.v 4) (.nil)))) (.nil)))) (.cons (.lst (.cons (.v 5) (.cons (.bi .tuple (.lc (.bi .tuple (.bi .sortI (.v 8))) (.n 8) (.of (.v 7)) (.no) [8])) (.nil)))) (.nil))))) (.cons (.ret (.k (.bl false))) (.nil)) (.nil)) (.cons (.set (.n 9) (.lst (.nil))) (.cons (.forI (.t (.cons (.n 6) (.cons (.n 8) (.nil)))) (.en (.v 7)) (.cons (.ex (.mth1 .extend (.v 9) (.lc (.tup (.cons (.v 6) (.cons (.v 16) (.nil)))) (.n 16) (.of (.bi .sortK (.v 8))) (.so (.and (.cmp .gt (.ix (.v 8) (.v 16)) (.k (.int 1))) (.cmp .ne (.ix (.ix (.ix (.v 3) (.k (.int 3))) (.v 6)) (.k (.int 0))) (.k (.str "bit"))))) [16]))) (.nil))) (.cons (.ife (.not (.call 7 (.cons (.lst (.cons (.call 18 (.cons (.v 3) (.cons (.v 4) (.nil)))) (.cons (.call 19 (.cons (.v 3) (.cons (.v 4) (.nil)))) (.nil)))) (.cons (.lst (.cons (.ifx (.cmp .ne (.v 9) (.lst (.nil))) (.ix (.v 9) (.k (.int 0))) (.k .non)) (.cons (.cmp .eq (.v 9) (.lst (.nil))) (.nil)))) (.nil))))) (.cons (.ret (.k (.bl false))) (.nil)) (.nil)) (.cons (.forI (.n 10) (.of (.tup (.cons (.k (.int 1)) (.cons (.k (.int 2)) (.nil))))) (.cons (.set (.n 11) (.k (.bl true))) (.cons (.forI (.n 12) (.of (.call 8 (.cons (.bi .len (.v 5)) (.cons (.v 10) (.nil))))) (.cons (.set (.n 13) (.lc (.bi .sum (.lc (.op .mul (.get2 (.v 8) (.v 16) (.k (.int 0))) (.ix (.v 12) (.v 16))) (.n 16) (.r1 (.bi .len (.v 5))) (.no) [16])) (.n 8) (.of (.v 7)) (.no) [8])) (.cons (.set (.n 14) (.cmp .eq (.lc (.v 17) (.t (.cons (.n 17) (.cons (.n 18) (.nil)))) (.en (.v 13)) (.so (.and (.cmp .ne (.ix (.ix (.ix (.v 3) (.k (.int 3))) (.v 17)) (.k (.int 0))) (.k (.str "bit"))) (.cmp .gt (.op .add (.v 18) (.ix (.v 12) (.v 17))) (.v 10)))) [17, 18]) (.lst (.nil)))) (.cons (.ife (.and (.cmp .eq (.call 2 (.cons (.v 1) (.cons (.k (.int 8)) (.nil)))) (.k (.int 0))) (.not (.call 7 (.cons (.call 15 (.cons (.v 3) (.cons (.v 4) (.cons (.v 12) (.nil))))) (.cons (.bi .tuple (.v 13)) (.nil)))))) (.cons (.ret (.k (.bl false))) (.nil)) (.nil)) (.cons (.ife (.and (.cmp .eq (.call 2 (.cons (.v 1) (.cons (.k (.int 4)) (.nil)))) (.k (.int 0))) (.not (.call 7 (.cons (.call 20 (.cons (.v 3) (.cons (.v 4) (.cons (.v 10) (.cons (.v 12) (.nil)))))) (.cons (.v 14) (.nil)))))) (.cons (.ret (.k (.bl false))) (.nil)) (.nil)) (.cons (.set (.n 11) (.and (.v 11) (.v 14))) (.nil))))))) (.cons (.ife (.cmp .ne (.v 11) (.cmp .eq (.v 9) (.lst (.nil)))) (.cons (.ret (.k (.bl false))) (.nil)) (.nil)) (.nil))))) (.cons (.forI (.n 15) (.of (.tup (.cons (.k .non) (.cons (.op .mul (.tup (.cons (.k (.int 0)) (.nil))) (.op .add (.bi .len (.v 5)) (.k (.int 1)))) (.cons (.op .mul (.lst (.cons (.k (.int 0)) (.nil))) (.bi .len (.v 5))) (.cons (.op .mul (.tup (.cons (.k (.int (-1))) (.nil))) (.bi .len (.v 5))) (.nil))))))) (.cons (.try_ (.cons (.ex (.call 15 (.cons (.v 3) (.cons (.v 4) (.cons (.v 15) (.nil)))))) (.cons (.ret (.k (.bl false))) (.nil))) 0 (.cons (.pass) (.nil))) (.nil))) (.nil)))))))))) .free (rangeL 0 1 3) [some (.rol (ns.map D.int)), some (.ref 2), none, none, none, none, none, none, none, none, none, none, none, none, none, none, none, none, none] s0 = _ := e1
  rw [e2, seq_nx]
  simp -implicitDefEqProofs only [sl_cons, sl_nil, q_ex, q_set, q_p2, q_p3, q_si, q_au, q_ax, q_if, q_for, q_ret, q_retN, q_pass, q_raise, e_v, e_k, e_tup, e_lst, e_dct, e_op, e_cmp, e_isN, e_notN, e_and, e_or, e_not, e_ifx, e_call, e_bi, e_m0, e_m1, e_g1, e_g2, e_ix, e_sl, l_nil, l_cons, o_no, o_so, t_t, c_no, c_so, kTup1, kTup2, kLst0, kLst1, kLst2, kOp2, kOp1, kCmp2, kCmp1, kIsN, kNotN, kAnd, kOr, kTru, kNot, kM0, kM1b, kM1, kG1b, kG1, kG2c, kG2b, kG2, kIx2, kIx1, kSl3, kSl2, kSl1, kL2, kL1, kEx, kSet, kP2b, kP2, kP3c, kP3b, kP3, kSi3, kSi2, kSi1, kAu3, kAu2, kAx5, kAx4, kAx3, kAx2, kAx1, kRet, evOp, evCmp, bindG, bindGs, List.getElem?_cons_zero, List.getElem?_cons_succ, kV_ok, Out.bind_ok, Out.sb_ok, noexc_ok, List.set_cons_zero, List.set_cons_succ, kSet2_s, seq_nx, kTru2_s, truD, wipeE, seq_rt]
  exact hgc
end Lw
end

theorem PySem.Challenge.cw_maskwright_k33_whole_ways_and_what_is_as_holds : PySem.Challenge.rw_maskwright_k33_whole_ways_and_what_is_as.Holds := by
  exact Lw.holds Lw.law_all
