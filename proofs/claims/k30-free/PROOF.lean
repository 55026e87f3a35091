import PyProof.Rows.All
import Wide.All
import OpenK.AllK
import Wide.FinOn
import HandS.ForMost
import HandS.Wide
import HandS.IsInst
import HandS.Flow
import HandS.Zip
import HandS.Style
import HandS.WideBits
import HandS.SortInts
import HandS.Conv
import HandS.SetFor
import HandS.Strs
import HandS.TupSets
import KE.SortData
import HandS.Rev
import HandS.NoneIn
import HandS.TupMul
import HandS.Dict
import HandS.Iter
import HandS.SetKeys
import HandS.Exc
import HandS.ExcOwn
import HandS.ExcIs
import HandS.WordsExc
import HandS.DictTup
import PySem.Challenge.RW_farcords_k30_free
set_option Elab.async false
set_option linter.all false
set_option maxRecDepth 100000
set_option maxHeartbeats 4000000
/-! FA: plain values and a plain store over the hand layer: tuples are values, lists are cells of a store that grows at its end. -/
namespace F3
open PySem PySem.Spec PyProof.Rows L2

/-- a value: tuples are told by their items, a list that may change by its number in the store, a list that never changes by its items -/
inductive D where
  | non
  | bl (b : Bool)
  | int (i : Int)
  | str (x : Str)
  | tup (xs : List D)
  | fl (xs : List D)
  | ref (n : Nat)
  | ty (n : String)
  | adr (a : Addr)

inductive Cell where
  | lst (xs : List D)
  | dK (kvs : List (Key × D))
  | dT (kvs : List (List Key × D))
  | zK (o : Obj) (ws : List (Key × V)) (kvs : List (Key × D))
  | zT (o : Obj) (ws : List (List Key × V)) (kvs : List (List Key × D))
  | ins (C : Addr) (fs : List (Str × D))

abbrev Sto := List Cell
abbrev S3 := List (Option D)
abbrev DK := D → Sto → Prop

/-- a list that never changes -/
def SqF (K : PySem.W.Frag) (H : Hp) (a : Addr) (xs : List V) : Prop :=
  (∃ o, H a = some (.frz o (.lst xs))) ∨
    ∃ (o : Obj) (its : Array Value) (n : Nat), K.lookup a = some o ∧ o.cls = .type "list" ∧ o.dict = none ∧ o.data = .seq its n ∧ its.size ≤ sizeLine ∧ Vals xs its.toList
theorem SqF.sq {K : PySem.W.Frag} {H : Hp} {a : Addr} {xs : List V} (h : SqF K H a xs) : SqL K H a xs := h.elim (fun q => .inl (.inr q)) .inr
mutual
inductive RelD (K : PySem.W.Frag) (m : List Addr) (H : Hp) : D → V → Prop
  | non : RelD K m H .non .non
  | bl (b : Bool) : RelD K m H (.bl b) (.bl b)
  | int (i : Int) : RelD K m H (.int i) (.int i)
  | str (x : Str) : RelD K m H (.str x) (.str x)
  | ty (n : String) : RelD K m H (.ty n) (.ty n)
  | adr (a : Addr) : RelD K m H (.adr a) (.ref a)
  | ref {n : Nat} {a : Addr} : m[n]? = some a → RelD K m H (.ref n) (.ref a)
  | tup {xs : List D} {a : Addr} {vs : List V} : H a = some (.tup vs) → RelDs K m H xs vs → RelD K m H (.tup xs) (.ref a)
  | fl {xs : List D} {a : Addr} {vs : List V} : SqF K H a vs → RelDs K m H xs vs → RelD K m H (.fl xs) (.ref a)
inductive RelDs (K : PySem.W.Frag) (m : List Addr) (H : Hp) : List D → List V → Prop
  | nil : RelDs K m H [] []
  | cons {d : D} {v : V} {ds : List D} {vs : List V} : RelD K m H d v → RelDs K m H ds vs → RelDs K m H (d :: ds) (v :: vs)
end

section
variable {K : PySem.W.Frag} {m m' : List Addr} {H H' : Hp}
mutual
theorem RelD.mono (hm : ∀ (n : Nat) (a : Addr), m[n]? = some a → m'[n]? = some a) (ht : ∀ (a : Addr) (xs : List V), H a = some (.tup xs) → H' a = some (.tup xs)) (hf : ∀ (a : Addr) (xs : List V), SqF K H a xs → SqF K H' a xs) : ∀ {d : D} {v : V}, RelD K m H d v → RelD K m' H' d v
  | _, _, .non => .non
  | _, _, .bl b => .bl b
  | _, _, .int b => .int b
  | _, _, .str b => .str b
  | _, _, .ty b => .ty b
  | _, _, .adr b => .adr b
  | _, _, .ref e => .ref (hm _ _ e)
  | _, _, .tup s r => .tup (ht _ _ s) (RelDs.mono hm ht hf r)
  | _, _, .fl s r => .fl (hf _ _ s) (RelDs.mono hm ht hf r)
theorem RelDs.mono (hm : ∀ (n : Nat) (a : Addr), m[n]? = some a → m'[n]? = some a) (ht : ∀ (a : Addr) (xs : List V), H a = some (.tup xs) → H' a = some (.tup xs)) (hf : ∀ (a : Addr) (xs : List V), SqF K H a xs → SqF K H' a xs) : ∀ {d : List D} {v : List V}, RelDs K m H d v → RelDs K m' H' d v
  | _, _, .nil => .nil
  | _, _, .cons r t => .cons (RelD.mono hm ht hf r) (RelDs.mono hm ht hf t)
end
theorem RelDs.length : ∀ {ds : List D} {vs : List V}, RelDs K m H ds vs → ds.length = vs.length
  | _, _, .nil => rfl
  | _, _, .cons _ t => by rw [List.length_cons, List.length_cons, RelDs.length t]
theorem RelDs.get : ∀ {ds : List D} {vs : List V} {i : Nat} {d : D}, RelDs K m H ds vs → ds[i]? = some d → ∃ v, vs[i]? = some v ∧ RelD K m H d v
  | _, _, _, _, .nil, e => by simp at e
  | _, _, 0, _, .cons r _, e => by simp at e; subst e; exact ⟨_, rfl, r⟩
  | _, _, i + 1, d, .cons _ t, e => by
    obtain ⟨u, h1, h2⟩ := RelDs.get (i := i) (d := d) t (by simpa using e)
    exact ⟨u, by simpa using h1, h2⟩
theorem RelDs.getV : ∀ {ds : List D} {vs : List V} {i : Nat} {v : V}, RelDs K m H ds vs → vs[i]? = some v → ∃ d, ds[i]? = some d ∧ RelD K m H d v
  | _, _, _, _, .nil, e => by simp at e
  | _, _, 0, _, .cons r _, e => by simp at e; subst e; exact ⟨_, rfl, r⟩
  | _, _, i + 1, d, .cons _ t, e => by
    obtain ⟨u, h1, h2⟩ := RelDs.getV (i := i) (v := d) t (by simpa using e)
    exact ⟨u, by simpa using h1, h2⟩
theorem RelDs.append : ∀ {xs ys : List D} {us ws : List V}, RelDs K m H xs us → RelDs K m H ys ws → RelDs K m H (xs ++ ys) (us ++ ws)
  | _, _, _, _, .nil, s => s
  | _, _, _, _, .cons r t, s => .cons r (RelDs.append t s)
theorem RelDs.set {x : D} {u : V} (r : RelD K m H x u) : ∀ {xs : List D} {us : List V} (i : Nat), RelDs K m H xs us → RelDs K m H (xs.set i x) (us.set i u)
  | _, _, _, .nil => .nil
  | _, _, 0, .cons _ t => .cons r t
  | _, _, i + 1, .cons q t => .cons q (RelDs.set r i t)
theorem RelDs.take : ∀ {xs : List D} {us : List V} (n : Nat), RelDs K m H xs us → RelDs K m H (xs.take n) (us.take n)
  | _, _, 0, _ => .nil
  | _, _, _ + 1, .nil => .nil
  | _, _, n + 1, .cons r t => .cons r (RelDs.take n t)
theorem RelDs.drop : ∀ {xs : List D} {us : List V} (n : Nat), RelDs K m H xs us → RelDs K m H (xs.drop n) (us.drop n)
  | _, _, 0, r => r
  | _, _, _ + 1, .nil => .nil
  | _, _, n + 1, .cons _ t => RelDs.drop n t
theorem RelDs.reverse {xs : List D} {us : List V} (h : RelDs K m H xs us) : RelDs K m H xs.reverse us.reverse := by
  induction xs generalizing us with
  | nil => cases h; exact .nil
  | cons x r ih =>
    cases h with
    | cons h1 h2 =>
      rw [List.reverse_cons, List.reverse_cons]
      exact (ih h2).append (.cons h1 .nil)
theorem RelDs.erase : ∀ {xs : List D} {us : List V} (n : Nat), RelDs K m H xs us → RelDs K m H (xs.eraseIdx n) (us.eraseIdx n)
  | _, _, _, .nil => .nil
  | _, _, 0, .cons _ t => t
  | _, _, n + 1, .cons q t => .cons q (RelDs.erase n t)
theorem RelDs.dropLast {xs : List D} {us : List V} (h : RelDs K m H xs us) : RelDs K m H xs.dropLast us.dropLast := by
  rw [List.dropLast_eq_take, List.dropLast_eq_take, h.length]
  exact h.take _
theorem RelDs.ints : ∀ {ns : List Int} {us : List V}, RelDs K m H (ns.map D.int) us → us = ns.map V.int
  | [], _, h => by cases h; rfl
  | n :: ns, _, h => by
    cases h with
    | cons a b => cases a; rw [RelDs.ints b]; rfl
theorem RelDs.bls : ∀ {ns : List Bool} {us : List V}, RelDs K m H (ns.map D.bl) us → us = ns.map V.bl
  | [], _, h => by cases h; rfl
  | n :: ns, _, h => by
    cases h with
    | cons a b => cases a; rw [RelDs.bls b]; rfl
theorem RelDs.strs : ∀ {ns : List Str} {us : List V}, RelDs K m H (ns.map D.str) us → us = ns.map V.str
  | [], _, h => by cases h; rfl
  | n :: ns, _, h => by
    cases h with
    | cons a b => cases a; rw [RelDs.strs b]; rfl
end

/-- what stands at a cell -/
def CellOk (K : PySem.W.Frag) (m : List Addr) (H : Hp) (a : Addr) : Cell → Prop
  | .lst xs => ∃ vs, H a = some (.lst vs) ∧ RelDs K m H xs vs
  | .dK kvs => ∃ vs : List (Key × V), H a = some (.dK vs) ∧ vs.map (·.1) = kvs.map (·.1) ∧ RelDs K m H (kvs.map (·.2)) (vs.map (·.2))
  | .dT kvs => ∃ vs : List (List Key × V), H a = some (.dT vs) ∧ vs.map (·.1) = kvs.map (·.1) ∧ RelDs K m H (kvs.map (·.2)) (vs.map (·.2))
  | .zK o vs kvs => H a = some (.frz o (.dK vs)) ∧ vs.map (·.1) = kvs.map (·.1) ∧ RelDs K m H (kvs.map (·.2)) (vs.map (·.2))
  | .zT o vs kvs => H a = some (.frz o (.dT vs)) ∧ vs.map (·.1) = kvs.map (·.1) ∧ RelDs K m H (kvs.map (·.2)) (vs.map (·.2))
  | .ins C fs => ∃ dx, ∃ vs : List (Str × V), H a = some (.ins C dx vs) ∧ vs.map (·.1) = fs.map (·.1) ∧ RelDs K m H (fs.map (·.2)) (vs.map (·.2))

structure Rep (K : PySem.W.Frag) (m : List Addr) (h : Sto) (H : Hp) : Prop where
  len : m.length = h.length
  nd : m.Nodup
  at_ : ∀ (n : Nat) (a : Addr) (c : Cell), m[n]? = some a → h[n]? = some c → CellOk K m H a c
structure Step (m : List Addr) (H : Hp) (m' : List Addr) (H' : Hp) : Prop where
  pre : ∃ r, m' = m ++ r
  keep : ∀ a o, a ∉ m → H a = some o → H' a = some o
  new : ∀ a, a ∈ m' → a ∉ m → H a = none
def RelS (K : PySem.W.Frag) (m : List Addr) (H : Hp) (ρ : S3) (σ : L2.St) : Prop := ρ.length = σ.length ∧ ∀ (i : Nat) (d : D), ρ[i]? = some (some d) → ∃ v, σ[i]? = some (some v) ∧ RelD K m H d v

section
variable {K : PySem.W.Frag} {m m' m2 : List Addr} {H H' H2 : Hp} {h h' : Sto}
theorem nodup_ix' {N : List Addr} (hN : N.Nodup) {i j : Nat} {x : Addr} (a : N[i]? = some x) (b : N[j]? = some x) : i = j := by
  obtain ⟨h1, e1⟩ := List.getElem?_eq_some_iff.mp a
  obtain ⟨h2, e2⟩ := List.getElem?_eq_some_iff.mp b
  exact (List.getElem_inj hN).mp (e1.trans e2.symm)
theorem Step.refl : Step m H m H := ⟨⟨[], by simp⟩, fun _ _ _ e => e, fun a h1 h2 => absurd h1 h2⟩
theorem Step.trans (a : Step m H m' H') (b : Step m' H' m2 H2) : Step m H m2 H2 := by
  obtain ⟨r, hr⟩ := a.pre
  obtain ⟨q, hq⟩ := b.pre
  refine ⟨⟨r ++ q, by rw [hq, hr, List.append_assoc]⟩, fun c o hc e => ?_, fun c hc hn => ?_⟩
  · refine b.keep c o (fun z => ?_) (a.keep c o hc e)
    have := a.new c z hc
    rw [this] at e; cases e
  · by_cases z : c ∈ m'
    · exact a.new c z hn
    · have e := b.new c hc z
      cases q : H c with
      | none => rfl
      | some o => rw [a.keep c o hn q] at e; cases e
theorem Step.get (s : Step m H m' H') {n : Nat} {a : Addr} (e : m[n]? = some a) : m'[n]? = some a := by
  obtain ⟨r, hr⟩ := s.pre
  have hl : n < m.length := (List.getElem?_eq_some_iff.mp e).1
  rw [hr, List.getElem?_append_left hl]
  exact e
theorem Rep.cell (R : Rep K m h H) {a : Addr} (ha : a ∈ m) : ∃ (n : Nat) (c : Cell), m[n]? = some a ∧ h[n]? = some c ∧ CellOk K m H a c := by
  obtain ⟨n, hn⟩ := List.mem_iff_getElem?.mp ha
  have hl : n < m.length := (List.getElem?_eq_some_iff.mp hn).1
  have hc : h[n]? = some (h[n]'(by rw [← R.len]; exact hl)) := List.getElem?_eq_getElem _
  exact ⟨n, _, hn, hc, R.at_ n a _ hn hc⟩
theorem Rep.got (R : Rep K m h H) {a : Addr} (ha : a ∈ m) : ∃ o, H a = some o ∧ (∀ xs, o ≠ .tup xs) ∧ (∀ b xs, o ≠ .frz b (.lst xs)) ∧ ∀ b xs, o ≠ .frz b (.tup xs) := by
  obtain ⟨n, c, _, _, ok⟩ := R.cell ha
  cases c with
  | lst xs => obtain ⟨vs, e, _⟩ := ok; exact ⟨_, e, by simp, by simp, by simp⟩
  | dK xs => obtain ⟨vs, e, _⟩ := ok; exact ⟨_, e, by simp, by simp, by simp⟩
  | dT xs => obtain ⟨vs, e, _⟩ := ok; exact ⟨_, e, by simp, by simp, by simp⟩
  | zK o vs xs => obtain ⟨e, _⟩ := ok; exact ⟨_, e, by simp, by simp, by simp⟩
  | zT o vs xs => obtain ⟨e, _⟩ := ok; exact ⟨_, e, by simp, by simp, by simp⟩
  | ins C xs => obtain ⟨dx, vs, e, _⟩ := ok; exact ⟨_, e, by simp, by simp, by simp⟩
theorem Rep.notup (R : Rep K m h H) {a : Addr} {xs : List V} (e : H a = some (.tup xs)) : a ∉ m := fun z => by
  obtain ⟨o, e', n, _⟩ := R.got z
  rw [e] at e'; cases e'; exact n xs rfl
theorem Rep.nofrz (R : Rep K m h H) {a : Addr} {b : Obj} {xs : List V} (e : H a = some (.frz b (.lst xs))) : a ∉ m := fun z => by
  obtain ⟨o, e', _, n, _⟩ := R.got z
  rw [e] at e'; cases e'; exact n b xs rfl
theorem Rep.nofrzT (R : Rep K m h H) {a : Addr} {b : Obj} {xs : List V} (e : H a = some (.frz b (.tup xs))) : a ∉ m := fun z => by
  obtain ⟨o, e', _, _, n⟩ := R.got z
  rw [e] at e'; cases e'; exact n b xs rfl
theorem Rep.nonone (R : Rep K m h H) {a : Addr} (e : H a = none) : a ∉ m := fun z => by
  obtain ⟨o, e', _⟩ := R.got z
  rw [e] at e'; cases e'
theorem TH {a : Addr} {xs : List V} (q : H a = some (.tup xs)) : SqT K H a xs := .inl (.inl q)
theorem SqT.step (R : Rep K m h H) (s : Step m H m' H') {a : Addr} {xs : List V} (q : SqT K H a xs) : SqT K H' a xs := by
  rcases q with (q | ⟨o, q⟩) | q
  · exact .inl (.inl (s.keep _ _ (R.notup q) q))
  · exact .inl (.inr ⟨o, s.keep _ _ (R.nofrzT q) q⟩)
  · exact .inr q
theorem SqF.step (R : Rep K m h H) (s : Step m H m' H') {a : Addr} {xs : List V} (q : SqF K H a xs) : SqF K H' a xs := by
  rcases q with ⟨o, q⟩ | q
  · exact .inl ⟨o, s.keep _ _ (R.nofrz q) q⟩
  · exact .inr q
theorem RelD.step (R : Rep K m h H) (s : Step m H m' H') {d : D} {v : V} (r : RelD K m H d v) : RelD K m' H' d v :=
  r.mono (fun _ _ e => s.get e) (fun _ _ q => s.keep _ _ (R.notup q) q) fun _ _ q => SqF.step R s q
theorem RelDs.step (R : Rep K m h H) (s : Step m H m' H') {d : List D} {v : List V} (r : RelDs K m H d v) : RelDs K m' H' d v :=
  r.mono (fun _ _ e => s.get e) (fun _ _ q => s.keep _ _ (R.notup q) q) fun _ _ q => SqF.step R s q
theorem RelS.step (R : Rep K m h H) (s : Step m H m' H') {ρ : S3} {σ : L2.St} (r : RelS K m H ρ σ) : RelS K m' H' ρ σ :=
  ⟨r.1, fun i d e => let ⟨v, h1, h2⟩ := r.2 i d e; ⟨v, h1, h2.step R s⟩⟩
theorem RelS.set {ρ : S3} {σ : L2.St} (r : RelS K m H ρ σ) {d : D} {v : V} (q : RelD K m H d v) (i : Nat) : RelS K m H (ρ.set i (some d)) (σ.set i (some v)) := by
  refine ⟨by simpa using r.1, fun j e hj => ?_⟩
  by_cases hij : i = j
  · subst hij
    have hl : i < ρ.length := by
      have := (List.getElem?_eq_some_iff.mp hj).1
      simpa using this
    rw [List.getElem?_set_self hl] at hj
    cases hj
    exact ⟨v, List.getElem?_set_self (by rw [← r.1]; exact hl), q⟩
  · rw [List.getElem?_set_ne hij] at hj ⊢
    exact r.2 j e hj
theorem RelS.wipe {ρ : S3} {σ : L2.St} (r : RelS K m H ρ σ) (i : Nat) (x : Option V) : RelS K m H (ρ.set i none) (σ.set i x) := by
  refine ⟨by simpa using r.1, fun j e hj => ?_⟩
  by_cases hij : i = j
  · subst hij
    by_cases hl : i < ρ.length
    · rw [List.getElem?_set_self hl] at hj; cases hj
    · rw [List.getElem?_eq_none (by simpa using hl)] at hj; cases hj
  · rw [List.getElem?_set_ne hij] at hj ⊢
    exact r.2 j e hj
/-- cells that stand stay through a change elsewhere -/
theorem CellOk.step (R : Rep K m h H) (s : Step m H m' H') {a : Addr} {c : Cell} (e : H' a = H a) (ok : CellOk K m H a c) : CellOk K m' H' a c := by
  cases c with
  | lst xs => obtain ⟨vs, q, r⟩ := ok; exact ⟨vs, e.trans q, r.step R s⟩
  | dK xs => obtain ⟨vs, q, k, r⟩ := ok; exact ⟨vs, e.trans q, k, r.step R s⟩
  | dT xs => obtain ⟨vs, q, k, r⟩ := ok; exact ⟨vs, e.trans q, k, r.step R s⟩
  | zK o vs xs => obtain ⟨q, k, r⟩ := ok; exact ⟨e.trans q, k, r.step R s⟩
  | zT o vs xs => obtain ⟨q, k, r⟩ := ok; exact ⟨e.trans q, k, r.step R s⟩
  | ins C xs => obtain ⟨dx, vs, q, k, r⟩ := ok; exact ⟨dx, vs, e.trans q, k, r.step R s⟩
/-- a new object that is no cell -/
theorem Step.lay {p : Addr} {o : HO} (hp : H p = none) : Step m H m (upd H p o) :=
  ⟨⟨[], by simp⟩, fun a q _ e => by rw [upd_ne (ne_of_none e hp)]; exact e, fun a h1 h2 => absurd h1 h2⟩
theorem Rep.lay (R : Rep K m h H) {p : Addr} {o : HO} (hp : H p = none) : Rep K m h (upd H p o) :=
  ⟨R.len, R.nd, fun n a c h1 h2 => (R.at_ n a c h1 h2).step R (Step.lay hp) (upd_ne fun z => R.nonone hp (by rw [← z]; exact List.mem_of_getElem? h1))⟩
/-- a new cell -/
theorem Step.cell {p : Addr} {o : HO} (hp : H p = none) : Step m H (m ++ [p]) (upd H p o) :=
  ⟨⟨[p], rfl⟩, fun a q _ e => by rw [upd_ne (ne_of_none e hp)]; exact e, fun a h1 h2 => by
    rcases List.mem_append.mp h1 with z | z
    · exact absurd z h2
    · rw [List.mem_singleton.mp z]; exact hp⟩
theorem Rep.snoc (R : Rep K m h H) {p : Addr} {o : HO} {c : Cell} (hp : H p = none) (ok : CellOk K (m ++ [p]) (upd H p o) p c) : Rep K (m ++ [p]) (h ++ [c]) (upd H p o) := by
  refine ⟨by simp [R.len], ?_, fun n a d h1 h2 => ?_⟩
  · rw [List.nodup_append]
    refine ⟨R.nd, by simp, fun x hx y hy => ?_⟩
    have e : y = p := by simpa using hy
    rw [e]
    exact fun z => R.nonone hp (z ▸ hx)
  · by_cases hn : n < m.length
    · rw [List.getElem?_append_left hn] at h1
      rw [List.getElem?_append_left (by rw [← R.len]; exact hn)] at h2
      exact (R.at_ n a d h1 h2).step R (Step.cell hp) (upd_ne fun z => R.nonone hp (by rw [← z]; exact List.mem_of_getElem? h1))
    · rw [List.getElem?_append_right (by omega)] at h1
      rw [List.getElem?_append_right (by rw [← R.len]; omega)] at h2
      have z : n - m.length = 0 := by
        have := (List.getElem?_eq_some_iff.mp h1).1
        simp at this; omega
      rw [z] at h1
      rw [← R.len, z] at h2
      simp at h1 h2
      subst h1; subst h2
      exact ok
/-- a cell is changed -/
theorem Step.put {a : Addr} {o : HO} (ha : a ∈ m) : Step m H m (upd H a o) :=
  ⟨⟨[], by simp⟩, fun b q hb e => by rw [upd_ne (show b ≠ a from fun z => hb (by rw [z]; exact ha))]; exact e, fun a h1 h2 => absurd h1 h2⟩
theorem Rep.put (R : Rep K m h H) {n : Nat} {a : Addr} {o : HO} {c : Cell} (hn : m[n]? = some a) (ok : CellOk K m (upd H a o) a c) : Rep K m (h.set n c) (upd H a o) := by
  have ha : a ∈ m := List.mem_of_getElem? hn
  refine ⟨by simp [R.len], R.nd, fun k b d h1 h2 => ?_⟩
  by_cases hk : n = k
  · subst hk
    rw [hn] at h1; cases h1
    have hl : n < h.length := by rw [← R.len]; exact (List.getElem?_eq_some_iff.mp hn).1
    rw [List.getElem?_set_self hl] at h2
    cases h2
    exact ok
  · rw [List.getElem?_set_ne hk] at h2
    refine (R.at_ k b d h1 h2).step R (Step.put ha) (upd_ne fun z => hk ?_)
    subst z
    exact nodup_ix' R.nd hn h1
end
end F3
/-! FB: the judgements over plain values, and the rules for expressions and plain statements. -/
namespace F3
open PySem PySem.Spec PyProof.Rows L2

abbrev E3 := S3 → Sto → DK → Prop
abbrev B3 := S3 → Sto → (Bool → Sto → Prop) → Prop
abbrev A3 := S3 → Sto → (List D → Sto → Prop) → Prop
structure Ends3 where
  nx : S3 → Sto → Prop
  rt : DK
  bk : S3 → Sto → Prop
  ct : S3 → Sto → Prop
abbrev C3 := Ends3 → S3 → Sto → Prop

def Up (K : PySem.W.Frag) (m : List Addr) (H : Hp) (Q : VK) : DK := fun d h' => ∀ m' H' v, Step m H m' H' → Rep K m' h' H' → RelD K m' H' d v → Q v H'
def UpB (K : PySem.W.Frag) (m : List Addr) (H : Hp) (Q : Bool → Hp → Prop) : Bool → Sto → Prop := fun b h' => ∀ m' H', Step m H m' H' → Rep K m' h' H' → Q b H'
def UpA (K : PySem.W.Frag) (m : List Addr) (H : Hp) (Q : List V → Hp → Prop) : List D → Sto → Prop := fun ds h' => ∀ m' H' vs, Step m H m' H' → Rep K m' h' H' → RelDs K m' H' ds vs → Q vs H'
/-- a list that is nobody else's -/
def UpX (K : PySem.W.Frag) (m : List Addr) (H : Hp) (Q : VK) : List D → Sto → Prop := fun ds h' => ∀ m' H' a vs, Step m H m' H' → Rep K m' h' H' → H' a = some (.lst vs) → H a = none → a ∉ m' → RelDs K m' H' ds vs → Q (.ref a) H'
def UpS (K : PySem.W.Frag) (m : List Addr) (H : Hp) (Q : L2.St → Hp → Prop) : S3 → Sto → Prop := fun ρ' h' => ∀ m' H' σ', Step m H m' H' → Rep K m' h' H' → RelS K m' H' ρ' σ' → Q σ' H'
def UpC (K : PySem.W.Frag) (m : List Addr) (H : Hp) (D : Ends) : Ends3 := ⟨UpS K m H D.nx, Up K m H D.rt, UpS K m H D.bk, UpS K m H D.ct⟩
def LE (K : PySem.W.Frag) (t : E3) : TE := fun σ H Q => ∃ m h ρ, Rep K m h H ∧ RelS K m H ρ σ ∧ t ρ h (Up K m H Q)
def LB (K : PySem.W.Frag) (t : B3) : TT := fun σ H Q => ∃ m h ρ, Rep K m h H ∧ RelS K m H ρ σ ∧ t ρ h (UpB K m H Q)
def LA (K : PySem.W.Frag) (t : A3) : TA := fun σ H Q => ∃ m h ρ, Rep K m h H ∧ RelS K m H ρ σ ∧ t ρ h (UpA K m H Q)
def LX (K : PySem.W.Frag) (t : A3) : TE := fun σ H Q => ∃ m h ρ, Rep K m h H ∧ RelS K m H ρ σ ∧ t ρ h (UpX K m H Q)
def LC (K : PySem.W.Frag) (t : C3) : TS := fun D σ H => ∃ m h ρ, Rep K m h H ∧ RelS K m H ρ σ ∧ t (UpC K m H D) ρ h

def MonoE (t : E3) : Prop := ∀ ρ h (Q Q' : DK), (∀ d h', Q d h' → Q' d h') → t ρ h Q → t ρ h Q'
def MonoB (t : B3) : Prop := ∀ ρ h (Q Q' : Bool → Sto → Prop), (∀ d h', Q d h' → Q' d h') → t ρ h Q → t ρ h Q'
def MonoA (t : A3) : Prop := ∀ ρ h (Q Q' : List D → Sto → Prop), (∀ d h', Q d h' → Q' d h') → t ρ h Q → t ρ h Q'
structure EndsLe (D D' : Ends3) : Prop where
  nx : ∀ ρ h, D.nx ρ h → D'.nx ρ h
  rt : ∀ d h, D.rt d h → D'.rt d h
  bk : ∀ ρ h, D.bk ρ h → D'.bk ρ h
  ct : ∀ ρ h, D.ct ρ h → D'.ct ρ h
def MonoC (t : C3) : Prop := ∀ D D' ρ h, EndsLe D D' → t D ρ h → t D' ρ h

structure PE3 (X : Cx) (e : Expr) (t : E3) : Prop where
  pe : PE X e (LE X.K t)
  mono : MonoE t
structure PB3 (X : Cx) (e : Expr) (t : B3) : Prop where
  pe : PT X e (LB X.K t)
  mono : MonoB t
structure PW3 (X : Cx) (e : Expr) (t : B3) : Prop where
  pe : PW X e (LB X.K t)
  mono : MonoB t
structure PA3 (X : Cx) (es : List Expr) (t : A3) : Prop where
  pe : PA X es (LA X.K t)
  mono : MonoA t
  len : ∀ ρ h (Q : List D → Sto → Prop), t ρ h Q → t ρ h fun xs h' => xs.length = es.length ∧ Q xs h'
/-- an expression whose value is a new list -/
structure PX3 (X : Cx) (e : Expr) (t : A3) : Prop where
  pe : PE X e (LX X.K t)
  mono : MonoA t
structure PC3 (X : Cx) (st : Stmt) (t : C3) : Prop where
  pe : PS X st (LC X.K t)
  mono : MonoC t
structure PCs3 (X : Cx) (st : List Stmt) (t : C3) : Prop where
  pe : PSs X st (LC X.K t)
  mono : MonoC t

theorem PE.weak {X : Cx} {e : Expr} {t t' : TE} (p : PE X e t) (w : ∀ σ H Q, t' σ H Q → t σ H Q) : PE X e t' := ⟨fun pins s σ H Q I h => p.run pins s σ H Q I (w σ H Q h)⟩
theorem PT.weak {X : Cx} {e : Expr} {t t' : TT} (p : PT X e t) (w : ∀ σ H Q, t' σ H Q → t σ H Q) : PT X e t' := ⟨fun pins s σ H Q I h => p.run pins s σ H Q I (w σ H Q h)⟩
theorem PW.weak {X : Cx} {e : Expr} {t t' : TT} (p : PW X e t) (w : ∀ σ H Q, t' σ H Q → t σ H Q) : PW X e t' := ⟨fun wh pins s σ H Q I h => p.run wh pins s σ H Q I (w σ H Q h)⟩
theorem PA.weak {X : Cx} {e : List Expr} {t t' : TA} (p : PA X e t) (w : ∀ σ H Q, t' σ H Q → t σ H Q) : PA X e t' := ⟨fun pos pins s σ H Q I h => p.run pos pins s σ H Q I (w σ H Q h)⟩
theorem PS.weak {X : Cx} {e : Stmt} {t t' : TS} (p : PS X e t) (w : ∀ D σ H, t' D σ H → t D σ H) : PS X e t' := ⟨fun pins s σ H D I h => p.run pins s σ H D I (w D σ H h)⟩
theorem PSs.weak {X : Cx} {e : List Stmt} {t t' : TS} (p : PSs X e t) (w : ∀ D σ H, t' D σ H → t D σ H) : PSs X e t' := ⟨fun pins s σ H D I h => p.run pins s σ H D I (w D σ H h)⟩

section
variable {K : PySem.W.Frag} {m m' : List Addr} {H H' : Hp} {h h' : Sto} {ρ : S3} {σ : L2.St}
theorem LE.bind {t : E3} (mo : MonoE t) (R : Rep K m h H) (S : RelS K m H ρ σ) {Q3 : DK} (q : t ρ h Q3) {Q : VK}
    (k : ∀ m' H' v d h', Step m H m' H' → Rep K m' h' H' → RelD K m' H' d v → RelS K m' H' ρ σ → Q3 d h' → Q v H') : LE K t σ H Q :=
  ⟨m, h, ρ, R, S, mo ρ h _ _ (fun d h' q m' H' v st rp rd => k m' H' v d h' st rp rd (S.step R st) q) q⟩
theorem LB.bind {t : B3} (mo : MonoB t) (R : Rep K m h H) (S : RelS K m H ρ σ) {Q3 : Bool → Sto → Prop} (q : t ρ h Q3) {Q : Bool → Hp → Prop}
    (k : ∀ m' H' b h', Step m H m' H' → Rep K m' h' H' → RelS K m' H' ρ σ → Q3 b h' → Q b H') : LB K t σ H Q :=
  ⟨m, h, ρ, R, S, mo ρ h _ _ (fun d h' q m' H' st rp => k m' H' d h' st rp (S.step R st) q) q⟩
theorem LA.bind {t : A3} (mo : MonoA t) (R : Rep K m h H) (S : RelS K m H ρ σ) {Q3 : List D → Sto → Prop} (q : t ρ h Q3) {Q : List V → Hp → Prop}
    (k : ∀ m' H' v d h', Step m H m' H' → Rep K m' h' H' → RelDs K m' H' d v → RelS K m' H' ρ σ → Q3 d h' → Q v H') : LA K t σ H Q :=
  ⟨m, h, ρ, R, S, mo ρ h _ _ (fun d h' q m' H' v st rp rd => k m' H' v d h' st rp rd (S.step R st) q) q⟩
theorem LX.bind {t : A3} (mo : MonoA t) (R : Rep K m h H) (S : RelS K m H ρ σ) {Q3 : List D → Sto → Prop} (q : t ρ h Q3) {Q : VK}
    (k : ∀ m' H' a vs d h', Step m H m' H' → Rep K m' h' H' → H' a = some (.lst vs) → H a = none → a ∉ m' → RelDs K m' H' d vs → RelS K m' H' ρ σ → Q3 d h' → Q (.ref a) H') : LX K t σ H Q :=
  ⟨m, h, ρ, R, S, mo ρ h _ _ (fun d h' q m' H' a vs st rp e n na rd => k m' H' a vs d h' st rp e n na rd (S.step R st) q) q⟩
theorem Up.step (s : Step m H m' H') {Q : VK} {d : D} (u : Up K m H Q d h) : Up K m' H' Q d h := fun m2 H2 v st => u m2 H2 v (s.trans st)
theorem UpS.step (s : Step m H m' H') {Q : L2.St → Hp → Prop} {d : S3} (u : UpS K m H Q d h) : UpS K m' H' Q d h := fun m2 H2 v st => u m2 H2 v (s.trans st)
theorem UpC.step (s : Step m H m' H') {D : Ends} : EndsLe (UpC K m H D) (UpC K m' H' D) := ⟨fun _ _ u => UpS.step s u, fun _ _ u => Up.step s u, fun _ _ u => UpS.step s u, fun _ _ u => UpS.step s u⟩
end

/-! ### names, constants -/
section
variable {X : Cx}
def tV (i : Nat) : E3 := fun ρ h Q => match ρ[i]? with
  | some (some d) => Q d h
  | _ => False
def tK (d : D) : E3 := fun _ h Q => Q d h
theorem MonoE.var (i : Nat) : MonoE (tV i) := fun ρ h Q Q' w q => by
  unfold tV at q ⊢
  split at q
  · exact w _ _ q
  · exact q.elim
theorem MonoE.const (d : D) : MonoE (tK d) := fun ρ h Q Q' w q => w _ _ q
theorem e3_v (i : Nat) {x : Str} {pos : Pos} (hN : X.N[i]? = some x := by rfl) (hv : Vis X.env.scope x := by first | exact Or.inl rfl | exact Or.inr (Or.inl rfl) | exact Or.inr (Or.inr rfl)) (hd : (x == ("__debug__" : Str)) = false := by decide)
    (hcd : (x == ("__classdict__" : Str)) = false := by decide) : PE3 X (.Name x pos) (tV i) := by
  refine ⟨PE.weak (pe_var hN hv hd hcd) fun σ H Q ⟨m, h, ρ, R, S, q⟩ => ?_, MonoE.var i⟩
  unfold tV at q
  split at q
  next d e =>
    obtain ⟨v, e1, r⟩ := S.2 i d e
    exact ⟨v, e1, q m H v .refl R r⟩
  next => exact q.elim
theorem e3_k {e : Expr} {d : D} {v : V} (p : PE X e (tC v)) (r : ∀ K m H, RelD K m H d v) : PE3 X e (tK d) :=
  ⟨PE.weak p fun σ H Q ⟨m, h, ρ, R, S, q⟩ => q m H v .refl R (r _ _ _), MonoE.const d⟩
theorem e3_int {i j pos} : PE3 X (.Constant (.int i) j pos) (tK (.int i)) := e3_k pe_int fun _ _ _ => .int i
theorem e3_bl {i j pos} : PE3 X (.Constant (.bool i) j pos) (tK (.bl i)) := e3_k pe_bl fun _ _ _ => .bl i
theorem e3_non {j pos} : PE3 X (.Constant .none j pos) (tK .non) := e3_k pe_non fun _ _ _ => .non
theorem e3_str {i j pos} : PE3 X (.Constant (.str i) j pos) (tK (.str i)) := e3_k pe_str fun _ _ _ => .str i
theorem e3_gint {x : Str} {i : Int} {t : Tok} {pos : Pos} (hg : Gl X x) (hm : X.mg x = some (.int i t)) (hd : (x == ("__debug__" : Str)) = false := by decide) : PE3 X (.Name x pos) (tK (.int i)) := e3_k (pe_glob (v := .int i) hg hm ⟨t, rfl⟩ hd) fun _ _ _ => .int i
theorem e3_gstr {x : Str} {i : Str} {t : Tok} {pos : Pos} (hg : Gl X x) (hm : X.mg x = some (.str i t)) (hd : (x == ("__debug__" : Str)) = false := by decide) : PE3 X (.Name x pos) (tK (.str i)) := e3_k (pe_glob (v := .str i) hg hm ⟨t, rfl⟩ hd) fun _ _ _ => .str i
theorem e3_ty {x : Str} {T : String} {pos : Pos} (hg : Gl X x) (hm : X.mg x = none) (hv : bootBuiltins x = some (.type T)) (hn : x ≠ "__name__" := by decide) (hd : (x == ("__debug__" : Str)) = false := by decide) : PE3 X (.Name x pos) (tK (.ty T)) :=
  e3_k (v := .ty T) (pe_bltn hg hm hv rfl hn hd) fun _ _ _ => .ty T
/-- a class of the module -/
theorem e3_cls {x : Str} {C : Addr} {pos : Pos} (hg : Gl X x) (hm : X.mg x = some (.ref C)) (hd : (x == ("__debug__" : Str)) = false := by decide) : PE3 X (.Name x pos) (tK (.adr C)) := e3_k (v := .ref C) (pe_glob hg hm rfl hd) fun _ _ _ => .adr C
end

/-! ### operators -/
abbrev R3 := D → D → Sto → DK → Prop
abbrev U3 := D → Sto → DK → Prop
structure Op3 (X : Cx) (f : Value → Value → Sem Value) (r3 : R3) : Prop where
  mono : ∀ x y h (Q Q' : DK), (∀ d h', Q d h' → Q' d h') → r3 x y h Q → r3 x y h Q'
  ok : ∃ r : R2, OpR X f r ∧ ∀ m h H x y v u Q, Rep X.K m h H → RelD X.K m H x v → RelD X.K m H y u → r3 x y h (Up X.K m H Q) → r v u H Q
theorem OpR.or {X : Cx} {f : Value → Value → Sem Value} {r1 r2 : R2} (h1 : OpR X f r1) (h2 : OpR X f r2) : OpR X f (fun x y H Q => r1 x y H Q ∨ r2 x y H Q) := by
  intro pins s σ H x y v u Q I rx ry h
  rcases h with h | h
  · exact h1 pins s σ H x y v u Q I rx ry h
  · exact h2 pins s σ H x y v u Q I rx ry h
section
variable {X : Cx} {a b c : Expr} {ta tb tc : E3} {pos : Pos}
def tO (r : R3) (ta tb : E3) : E3 := fun ρ h Q => ta ρ h fun x h1 => tb ρ h1 fun y h2 => r x y h2 Q
def tU (r : U3) (ta : E3) : E3 := fun ρ h Q => ta ρ h fun x h1 => r x h1 Q
theorem MonoE.op {r : R3} (mr : ∀ x y h (Q Q' : DK), (∀ d h', Q d h' → Q' d h') → r x y h Q → r x y h Q') (ma : MonoE ta) (mb : MonoE tb) : MonoE (tO r ta tb) := fun ρ h Q Q' w q =>
  ma _ _ _ _ (fun x h1 q1 => mb _ _ _ _ (fun y h2 q2 => mr _ _ _ _ _ w q2) q1) q
theorem op_lift {r3 : R3} {r : R2} (w : ∀ m h H x y v u Q, Rep X.K m h H → RelD X.K m H x v → RelD X.K m H y u → r3 x y h (Up X.K m H Q) → r v u H Q)
    (mr : ∀ x y h (Q Q' : DK), (∀ d h', Q d h' → Q' d h') → r3 x y h Q → r3 x y h Q') (ma : MonoE ta) (mb : MonoE tb) {σ : L2.St} {H : Hp} {Q : VK} (q : LE X.K (tO r3 ta tb) σ H Q) : tOp r (LE X.K ta) (LE X.K tb) σ H Q := by
  obtain ⟨m, h, ρ, R, S, q⟩ := q
  refine LE.bind ma R S q fun m1 H1 v x h1 s1 R1 rx S1 q1 => ?_
  refine LE.bind mb R1 S1 q1 fun m2 H2 u y h2 s2 R2 ry S2 q2 => ?_
  exact w m2 h2 H2 x y v u Q R2 (rx.step R1 s2) ry (mr _ _ _ _ _ (fun d h' u => Up.step (s1.trans s2) u) q2)
theorem e3_op {op : Operator} {r3 : R3} (o : Op3 X (binaryOp op) r3) (ha : PE3 X a ta) (hb : PE3 X b tb) : PE3 X (.BinOp a op b pos) (tO r3 ta tb) := by
  obtain ⟨r, hr, w⟩ := o.ok
  exact ⟨PE.weak (pe_op hr ha.pe hb.pe) fun σ H Q q => op_lift w o.mono ha.mono hb.mono q, MonoE.op o.mono ha.mono hb.mono⟩
theorem e3_cmp {op : CmpOp} {r3 : R3} (o : Op3 X (compareOp op) r3) (ha : PE3 X a ta) (hb : PE3 X b tb) (hm : behindInMarks op b = false := by first | exact nomark _ | with_unfolding_all rfl) : PE3 X (.Compare a [op] [b] pos) (tO r3 ta tb) := by
  obtain ⟨r, hr, w⟩ := o.ok
  exact ⟨PE.weak (pe_cmpR hr ha.pe hb.pe hm) fun σ H Q q => op_lift w o.mono ha.mono hb.mono q, MonoE.op o.mono ha.mono hb.mono⟩
/-- a value that is a truth, as a test -/
def tT (t : E3) : B3 := fun ρ h Q => t ρ h fun d h' => match d with
  | .bl b => Q b h'
  | _ => False
theorem MonoB.tT {t : E3} (mo : MonoE t) : MonoB (tT t) := fun ρ h Q Q' w q => mo _ _ _ _ (fun d h' q => by
  cases d <;> first | exact w _ _ q | exact q) q
theorem tT_lift {t : E3} (mo : MonoE t) {K : PySem.W.Frag} {σ : L2.St} {H : Hp} {Q : Bool → Hp → Prop} (q : LB K (tT t) σ H Q) : LE K t σ H fun x H' => ∃ k, x = .bl k ∧ Q k H' := by
  obtain ⟨m, h, ρ, R, S, q⟩ := q
  refine LE.bind mo R S q fun m1 H1 v x h1 s1 R1 rx S1 q1 => ?_
  cases x with
  | bl b => cases rx; exact ⟨b, rfl, q1 m1 H1 s1 R1⟩
  | _ => exact q1.elim
theorem b3_cmp {op : CmpOp} {r3 : R3} (o : Op3 X (compareOp op) r3) (ha : PE3 X a ta) (hb : PE3 X b tb) (hm : behindInMarks op b = false := by first | exact nomark _ | with_unfolding_all rfl) : PB3 X (.Compare a [op] [b] pos) (tT (tO r3 ta tb)) := by
  obtain ⟨r, hr, w⟩ := o.ok
  have mo := MonoE.op o.mono ha.mono hb.mono
  exact ⟨PT.weak (pt_cmpR hr ha.pe hb.pe hm) fun σ H Q q => op_lift w o.mono ha.mono hb.mono (tT_lift mo q), MonoB.tT mo⟩
def tCh (r r' : R3) (ta tb tc : E3) : E3 := fun ρ h Q => ta ρ h fun x h1 => tb ρ h1 fun y h2 => r x y h2 fun z h3 => match z with
  | .bl true => tc ρ h3 fun w h4 => r' y w h4 Q
  | .bl false => Q (.bl false) h3
  | _ => False
theorem MonoE.ch {r r' : R3} (mr : ∀ x y h (Q Q' : DK), (∀ d h', Q d h' → Q' d h') → r x y h Q → r x y h Q') (mr' : ∀ x y h (Q Q' : DK), (∀ d h', Q d h' → Q' d h') → r' x y h Q → r' x y h Q')
    (ma : MonoE ta) (mb : MonoE tb) (mc : MonoE tc) : MonoE (tCh r r' ta tb tc) := fun ρ h Q Q' w q =>
  ma _ _ _ _ (fun x h1 q1 => mb _ _ _ _ (fun y h2 q2 => mr _ _ _ _ _ (fun d h3 q3 => by
    cases d with
    | bl b =>
      cases b with
      | true => exact mc _ _ _ _ (fun w' h4 q4 => mr' _ _ _ _ _ w q4) q3
      | false => exact w _ _ q3
    | _ => exact q3) q2) q1) q
theorem ch_lift {r3 r3' : R3} {r r' : R2} (w : ∀ m h H x y v u Q, Rep X.K m h H → RelD X.K m H x v → RelD X.K m H y u → r3 x y h (Up X.K m H Q) → r v u H Q) (w' : ∀ m h H x y v u Q, Rep X.K m h H → RelD X.K m H x v → RelD X.K m H y u → r3' x y h (Up X.K m H Q) → r' v u H Q)
    (mr : ∀ x y h (Q Q' : DK), (∀ d h', Q d h' → Q' d h') → r3 x y h Q → r3 x y h Q') (mr' : ∀ x y h (Q Q' : DK), (∀ d h', Q d h' → Q' d h') → r3' x y h Q → r3' x y h Q')
    (ma : MonoE ta) (mb : MonoE tb) (mc : MonoE tc) {σ : L2.St} {H : Hp} {Q : VK} (q : LE X.K (tCh r3 r3' ta tb tc) σ H Q) : tChain r r' (LE X.K ta) (LE X.K tb) (LE X.K tc) σ H Q := by
  obtain ⟨m, h, ρ, R, S, q⟩ := q
  refine LE.bind ma R S q fun m1 H1 v x h1 s1 R1 rx S1 q1 => ?_
  refine LE.bind mb R1 S1 q1 fun m2 H2 u y h2 s2 R2 ry S2 q2 => ?_
  refine w m2 h2 H2 x y v u _ R2 (rx.step R1 s2) ry (mr _ _ _ _ _ (fun d h3 q3 m3 H3 z s3 R3 rz => ?_) q2)
  cases d with
  | bl b =>
    cases rz
    refine ⟨b, rfl, ?_⟩
    cases b with
    | false =>
      rw [if_neg Bool.false_ne_true]
      exact q3 m3 H3 _ (s1.trans (s2.trans s3)) R3 (.bl false)
    | true =>
      rw [if_pos rfl]
      refine LE.bind mc R3 (S2.step R2 s3) q3 fun m4 H4 z w4 h4 s4 R4 rz S4 q4 => ?_
      exact w' m4 h4 H4 y w4 u z Q R4 ((ry.step R2 s3).step R3 s4) rz (mr' _ _ _ _ _ (fun d h' u => Up.step (s1.trans (s2.trans (s3.trans s4))) u) q4)
  | _ => exact q3.elim
theorem e3_chain {op op' : CmpOp} {r3 r3' : R3} (o : Op3 X (compareOp op) r3) (o' : Op3 X (compareOp op') r3') (ha : PE3 X a ta) (hb : PE3 X b tb) (hc : PE3 X c tc)
    (hm : lastMarks [op, op'] [b, c] = false := by with_unfolding_all rfl) : PE3 X (.Compare a [op, op'] [b, c] pos) (tCh r3 r3' ta tb tc) := by
  obtain ⟨r, hr, w⟩ := o.ok
  obtain ⟨r', hr', w'⟩ := o'.ok
  exact ⟨PE.weak (pe_chain hr hr' ha.pe hb.pe hc.pe hm) fun σ H Q q => ch_lift w w' o.mono o'.mono ha.mono hb.mono hc.mono q, MonoE.ch o.mono o'.mono ha.mono hb.mono hc.mono⟩
theorem b3_chain {op op' : CmpOp} {r3 r3' : R3} (o : Op3 X (compareOp op) r3) (o' : Op3 X (compareOp op') r3') (ha : PE3 X a ta) (hb : PE3 X b tb) (hc : PE3 X c tc)
    (hm : lastMarks [op, op'] [b, c] = false := by with_unfolding_all rfl) : PB3 X (.Compare a [op, op'] [b, c] pos) (tT (tCh r3 r3' ta tb tc)) := by
  obtain ⟨r, hr, w⟩ := o.ok
  obtain ⟨r', hr', w'⟩ := o'.ok
  have mo := MonoE.ch o.mono o'.mono ha.mono hb.mono hc.mono
  exact ⟨PT.weak (pt_chain hr hr' ha.pe hb.pe hc.pe hm) fun σ H Q q => ch_lift w w' o.mono o'.mono ha.mono hb.mono hc.mono (tT_lift mo q), MonoB.tT mo⟩
/-- an expression whose value is a bool, as a test -/
theorem b3_val {t : E3} (ha : PE3 X a t) (he : ∀ whole, isTrue a X.env whole = (do let v ← whole; standAt a.pos; holding [v] (truthy v)) := by intro _; rfl) : PB3 X a (tT t) :=
  ⟨PT.weak (pt_val ha.pe he) fun σ H Q q => tT_lift ha.mono q, MonoB.tT ha.mono⟩
/-! ### and, or, not -/
variable {t u : B3} {rest : List Expr}
def tAnd3 (t u : B3) : B3 := fun ρ h Q => t ρ h fun c h1 => if c = true then u ρ h1 Q else Q false h1
def tOr3 (t u : B3) : B3 := fun ρ h Q => t ρ h fun c h1 => if c = true then Q true h1 else u ρ h1 Q
def tNot3 (t : B3) : B3 := fun ρ h Q => t ρ h fun c h1 => Q (!c) h1
theorem MonoB.and (mt : MonoB t) (mu : MonoB u) : MonoB (tAnd3 t u) := fun ρ h Q Q' w q => mt _ _ _ _ (fun c h1 q1 => by
  cases c with
  | true => rw [if_pos rfl] at q1 ⊢; exact mu _ _ _ _ w q1
  | false => rw [if_neg Bool.false_ne_true] at q1 ⊢; exact w _ _ q1) q
theorem MonoB.or (mt : MonoB t) (mu : MonoB u) : MonoB (tOr3 t u) := fun ρ h Q Q' w q => mt _ _ _ _ (fun c h1 q1 => by
  cases c with
  | true => rw [if_pos rfl] at q1 ⊢; exact w _ _ q1
  | false => rw [if_neg Bool.false_ne_true] at q1 ⊢; exact mu _ _ _ _ w q1) q
theorem MonoB.not (mt : MonoB t) : MonoB (tNot3 t) := fun ρ h Q Q' w q => mt _ _ _ _ (fun c h1 q1 => w _ _ q1) q
theorem w3_and1 (ha : PB3 X a t) : PW3 X (.BoolOp .And [a] pos) t := ⟨pw_and1 ha.pe, ha.mono⟩
theorem w3_or1 (ha : PB3 X a t) : PW3 X (.BoolOp .Or [a] pos) t := ⟨pw_or1 ha.pe, ha.mono⟩
theorem w3_and (ha : PB3 X a t) (hb : PW3 X (.BoolOp .And (b :: rest) pos) u) : PW3 X (.BoolOp .And (a :: b :: rest) pos) (tAnd3 t u) := by
  refine ⟨PW.weak (pw_and ha.pe hb.pe) fun σ H Q ⟨m, h, ρ, R, S, q⟩ => ?_, ha.mono.and hb.mono⟩
  refine LB.bind ha.mono R S q fun m1 H1 c h1 s1 R1 S1 q1 => ?_
  cases c with
  | true =>
    rw [if_pos rfl] at q1 ⊢
    exact LB.bind hb.mono R1 S1 q1 fun m2 H2 c h2 s2 R2 S2 q2 => q2 m2 H2 (s1.trans s2) R2
  | false =>
    rw [if_neg Bool.false_ne_true] at q1 ⊢
    exact q1 m1 H1 s1 R1
theorem w3_or (ha : PB3 X a t) (hb : PW3 X (.BoolOp .Or (b :: rest) pos) u) : PW3 X (.BoolOp .Or (a :: b :: rest) pos) (tOr3 t u) := by
  refine ⟨PW.weak (pw_or ha.pe hb.pe) fun σ H Q ⟨m, h, ρ, R, S, q⟩ => ?_, ha.mono.or hb.mono⟩
  refine LB.bind ha.mono R S q fun m1 H1 c h1 s1 R1 S1 q1 => ?_
  cases c with
  | false =>
    rw [if_neg Bool.false_ne_true] at q1 ⊢
    exact LB.bind hb.mono R1 S1 q1 fun m2 H2 c h2 s2 R2 S2 q2 => q2 m2 H2 (s1.trans s2) R2
  | true =>
    rw [if_pos rfl] at q1 ⊢
    exact q1 m1 H1 s1 R1
theorem PW3.to {e : Expr} (h : PW3 X e t) : PB3 X e t := ⟨h.pe.pt, h.mono⟩
theorem b3_not (ha : PB3 X a t) : PB3 X (.UnaryOp .Not a pos) (tNot3 t) := by
  refine ⟨PT.weak (pt_not ha.pe) fun σ H Q ⟨m, h, ρ, R, S, q⟩ => ?_, ha.mono.not⟩
  exact LB.bind ha.mono R S q fun m1 H1 c h1 s1 R1 S1 q1 => q1 m1 H1 s1 R1
/-- as values (bools) -/
def tAndE (ta tb : E3) : E3 := fun ρ h Q => ta ρ h fun x h1 => match x with
  | .bl true => tb ρ h1 Q
  | .bl false => Q (.bl false) h1
  | _ => False
def tOrE (ta tb : E3) : E3 := fun ρ h Q => ta ρ h fun x h1 => match x with
  | .bl true => Q (.bl true) h1
  | .bl false => tb ρ h1 Q
  | _ => False
def tNotE (ta : E3) : E3 := fun ρ h Q => ta ρ h fun x h1 => match x with
  | .bl b => Q (.bl (!b)) h1
  | _ => False
theorem e3_one {op} (ha : PE3 X a ta) : PE3 X (.BoolOp op [a] pos) ta := ⟨pe_one ha.pe, ha.mono⟩
theorem e3_and (ha : PE3 X a ta) (hb : PE3 X (.BoolOp .And (b :: rest) pos) tb) : PE3 X (.BoolOp .And (a :: b :: rest) pos) (tAndE ta tb) := by
  refine ⟨PE.weak (pe_and ha.pe hb.pe) fun σ H Q ⟨m, h, ρ, R, S, q⟩ => ?_, fun ρ h Q Q' w q => ha.mono _ _ _ _ (fun d h1 q1 => ?_) q⟩
  · refine LE.bind ha.mono R S q fun m1 H1 v x h1 s1 R1 rx S1 q1 => ?_
    cases x with
    | bl c =>
      cases rx
      refine ⟨c, rfl, ?_⟩
      cases c with
      | true =>
        rw [if_pos rfl]
        exact LE.bind hb.mono R1 S1 q1 fun m2 H2 v d h2 s2 R2 rd S2 q2 => q2 m2 H2 v (s1.trans s2) R2 rd
      | false =>
        rw [if_neg Bool.false_ne_true]
        exact q1 m1 H1 _ s1 R1 (.bl false)
    | _ => exact q1.elim
  · cases d with
    | bl c =>
      cases c with
      | true => exact hb.mono _ _ _ _ w q1
      | false => exact w _ _ q1
    | _ => exact q1
theorem e3_or (ha : PE3 X a ta) (hb : PE3 X (.BoolOp .Or (b :: rest) pos) tb) : PE3 X (.BoolOp .Or (a :: b :: rest) pos) (tOrE ta tb) := by
  refine ⟨PE.weak (pe_or ha.pe hb.pe) fun σ H Q ⟨m, h, ρ, R, S, q⟩ => ?_, fun ρ h Q Q' w q => ha.mono _ _ _ _ (fun d h1 q1 => ?_) q⟩
  · refine LE.bind ha.mono R S q fun m1 H1 v x h1 s1 R1 rx S1 q1 => ?_
    cases x with
    | bl c =>
      cases rx
      refine ⟨c, rfl, ?_⟩
      cases c with
      | false =>
        rw [if_neg Bool.false_ne_true]
        exact LE.bind hb.mono R1 S1 q1 fun m2 H2 v d h2 s2 R2 rd S2 q2 => q2 m2 H2 v (s1.trans s2) R2 rd
      | true =>
        rw [if_pos rfl]
        exact q1 m1 H1 _ s1 R1 (.bl true)
    | _ => exact q1.elim
  · cases d with
    | bl c =>
      cases c with
      | false => exact hb.mono _ _ _ _ w q1
      | true => exact w _ _ q1
    | _ => exact q1
theorem e3_not (ha : PE3 X a ta) : PE3 X (.UnaryOp .Not a pos) (tNotE ta) := by
  refine ⟨PE.weak (pe_not ha.pe) fun σ H Q ⟨m, h, ρ, R, S, q⟩ => ?_, fun ρ h Q Q' w q => ha.mono _ _ _ _ (fun d h1 q1 => ?_) q⟩
  · refine LE.bind ha.mono R S q fun m1 H1 v x h1 s1 R1 rx S1 q1 => ?_
    cases x with
    | bl c => cases rx; exact ⟨c, rfl, q1 m1 H1 _ s1 R1 (.bl _)⟩
    | _ => exact q1.elim
  · cases d with
    | bl c => exact w _ _ q1
    | _ => exact q1
def tIfE (t : B3) (ta tb : E3) : E3 := fun ρ h Q => t ρ h fun c h1 => if c = true then ta ρ h1 Q else tb ρ h1 Q
theorem e3_if (hc : PB3 X c t) (ha : PE3 X a ta) (hb : PE3 X b tb) : PE3 X (.IfExp c a b pos) (tIfE t ta tb) := by
  refine ⟨PE.weak (pe_ifExp hc.pe ha.pe hb.pe) fun σ H Q ⟨m, h, ρ, R, S, q⟩ => ?_, fun ρ h Q Q' w q => hc.mono _ _ _ _ (fun d h1 q1 => ?_) q⟩
  · refine LB.bind hc.mono R S q fun m1 H1 k h1 s1 R1 S1 q1 => ?_
    cases k with
    | true =>
      rw [if_pos rfl] at q1 ⊢
      exact LE.bind ha.mono R1 S1 q1 fun m2 H2 v d h2 s2 R2 rd S2 q2 => q2 m2 H2 v (s1.trans s2) R2 rd
    | false =>
      rw [if_neg Bool.false_ne_true] at q1 ⊢
      exact LE.bind hb.mono R1 S1 q1 fun m2 H2 v d h2 s2 R2 rd S2 q2 => q2 m2 H2 v (s1.trans s2) R2 rd
  · cases d with
    | true => rw [if_pos rfl] at q1 ⊢; exact ha.mono _ _ _ _ w q1
    | false => rw [if_neg Bool.false_ne_true] at q1 ⊢; exact hb.mono _ _ _ _ w q1
/-! ### one value -/
structure Un3 (X : Cx) (f : Value → Sem Value) (r3 : U3) : Prop where
  mono : ∀ x h (Q Q' : DK), (∀ d h', Q d h' → Q' d h') → r3 x h Q → r3 x h Q'
  ok : ∃ r : V → Hp → VK → Prop, UnR X f r ∧ ∀ m h H x v Q, Rep X.K m h H → RelD X.K m H x v → r3 x h (Up X.K m H Q) → r v H Q
theorem e3_un {op : UnaryOp} {r3 : U3} (o : Un3 X (unaryOp op) r3) (ha : PE3 X a ta) : PE3 X (.UnaryOp op a pos) (tU r3 ta) := by
  obtain ⟨r, hr, w⟩ := o.ok
  refine ⟨PE.weak (pe_un hr ha.pe) fun σ H Q ⟨m, h, ρ, R, S, q⟩ => ?_, fun ρ h Q Q' w q => ha.mono _ _ _ _ (fun d h1 q1 => o.mono _ _ _ _ w q1) q⟩
  refine LE.bind ha.mono R S q fun m1 H1 v x h1 s1 R1 rx S1 q1 => ?_
  exact w m1 h1 H1 x v Q R1 rx (o.mono _ _ _ _ (fun d h' u => Up.step s1 u) q1)
end

/-! ### argument lists, displays -/
def tN3 : A3 := fun _ h Q => Q [] h
def tC3 (ta : E3) (tr : A3) : A3 := fun ρ h Q => ta ρ h fun x h1 => tr ρ h1 fun xs h2 => Q (x :: xs) h2
def tTup3 (t : A3) : E3 := fun ρ h Q => t ρ h fun xs h1 => Q (.tup xs) h1
/-- a new list as a cell -/
def tNew (t : A3) : E3 := fun ρ h Q => t ρ h fun xs h1 => Q (.ref h1.length) (h1 ++ [.lst xs])
section
variable {X : Cx} {e : Expr} {es : List Expr} {te : E3} {t : A3} {pos : Pos}
theorem a3_nil : PA3 X [] tN3 := ⟨PA.weak pa_nil fun σ H Q ⟨m, h, ρ, R, S, q⟩ => q m H [] .refl R .nil, fun ρ h Q Q' w q => w _ _ q, fun ρ h Q q => ⟨rfl, q⟩⟩
theorem a3_cons (ha : PE3 X e te) (hr : PA3 X es t) (hs : starEach (e :: es) X.env = (false, eval e X.env) :: starEach es X.env := by rfl) : PA3 X (e :: es) (tC3 te t) := by
  refine ⟨PA.weak (pa_cons ha.pe hr.pe hs) fun σ H Q ⟨m, h, ρ, R, S, q⟩ => ?_, fun ρ h Q Q' w q => ha.mono _ _ _ _ (fun d h1 q1 => hr.mono _ _ _ _ (fun ds h2 q2 => w _ _ q2) q1) q,
    fun ρ h Q q => ha.mono _ _ _ _ (fun d h1 q1 => hr.mono _ _ _ _ (fun ds h2 q2 => ⟨by rw [List.length_cons, q2.1, List.length_cons], q2.2⟩) (hr.len _ _ _ q1)) q⟩
  refine LE.bind ha.mono R S q fun m1 H1 v x h1 s1 R1 rx S1 q1 => ?_
  refine LA.bind hr.mono R1 S1 q1 fun m2 H2 vs xs h2 s2 R2 rxs S2 q2 => ?_
  exact q2 m2 H2 (v :: vs) (s1.trans s2) R2 (.cons (rx.step R1 s2) rxs)
theorem e3_tup {x1} (h : PA3 X es t) (hl : es.length ≤ sizeLine := by decide) : PE3 X (.Tuple es x1 pos) (tTup3 t) := by
  refine ⟨PE.weak (pe_tup h.pe) fun σ H Q ⟨m, st, ρ, R, S, q⟩ => ?_, fun ρ st Q Q' w q => h.mono _ _ _ _ (fun d h1 q1 => w _ _ q1) q⟩
  refine LA.bind h.mono R S (h.len _ _ _ q) fun m1 H1 vs xs h1 s1 R1 rx S1 q1 => ⟨by rw [← rx.length, q1.1]; exact hl, fun p hp => ?_⟩
  exact q1.2 m1 _ (.ref p) (s1.trans (Step.lay hp)) (R1.lay hp) (.tup upd_same (rx.step R1 (Step.lay hp)))
theorem x3_lst (h : PA3 X es t) (hl : es.length ≤ sizeLine := by decide) : PX3 X (.List es pos) t := by
  refine ⟨PE.weak (pe_lst h.pe) fun σ H Q ⟨m, st, ρ, R, S, q⟩ => ?_, h.mono⟩
  refine LA.bind h.mono R S (h.len _ _ _ q) fun m1 H1 vs xs h1 s1 R1 rx S1 q1 => ⟨by rw [← rx.length, q1.1]; exact hl, fun p hp => ?_⟩
  refine q1.2 m1 _ p vs (s1.trans (Step.lay hp)) (R1.lay hp) upd_same ?_ (R1.nonone hp) (rx.step R1 (Step.lay hp))
  cases z : H p with
  | none => rfl
  | some o =>
    by_cases hm : p ∈ m
    · obtain ⟨r, hr⟩ := s1.pre
      exact absurd (show p ∈ m1 by rw [hr]; exact List.mem_append_left _ hm) (R1.nonone hp)
    · rw [s1.keep p o hm z] at hp; cases hp
/-- a new list becomes a cell -/
theorem new_lift {K : PySem.W.Frag} (mo : MonoA t) {σ : L2.St} {H : Hp} {Q : VK} (q : LE K (tNew t) σ H Q) : LX K t σ H Q := by
  obtain ⟨m, st, ρ, R, S, q⟩ := q
  refine LX.bind mo R S q fun m1 H1 a vs xs h1 s1 R1 ea na ha rx S1 q1 => ?_
  -- the cell's own step, from the state ahead of the list
  refine q1 (m1 ++ [a]) H1 (.ref a) ?_ ?_ (.ref (by rw [← R1.len]; simp))
  · obtain ⟨r, hr⟩ := s1.pre
    refine ⟨⟨r ++ [a], by rw [hr, List.append_assoc]⟩, s1.keep, fun c hc hn => ?_⟩
    rcases List.mem_append.mp hc with z | z
    · exact s1.new c z hn
    · rw [List.mem_singleton.mp z]; exact na
  · have mono : ∀ {ds : List D} {vs : List V}, RelDs K m1 H1 ds vs → RelDs K (m1 ++ [a]) H1 ds vs := fun r => r.mono (fun n b e => by
      rw [List.getElem?_append_left (List.getElem?_eq_some_iff.mp e).1]; exact e) (fun _ _ q => q) fun _ _ q => q
    refine ⟨by simp [R1.len], ?_, fun n b c h1 h2 => ?_⟩
    · rw [List.nodup_append]
      refine ⟨R1.nd, by simp, fun x hx y hy => ?_⟩
      have e : y = a := by simpa using hy
      rw [e]
      exact fun z => ha (z ▸ hx)
    · by_cases hn : n < m1.length
      · rw [List.getElem?_append_left hn] at h1
        rw [List.getElem?_append_left (by rw [← R1.len]; exact hn)] at h2
        have ok := R1.at_ n b c h1 h2
        cases c with
        | lst xs => obtain ⟨vs, q, r⟩ := ok; exact ⟨vs, q, mono r⟩
        | dK xs => obtain ⟨vs, q, k, r⟩ := ok; exact ⟨vs, q, k, mono r⟩
        | dT xs => obtain ⟨vs, q, k, r⟩ := ok; exact ⟨vs, q, k, mono r⟩
        | zK o vs xs => obtain ⟨q, k, r⟩ := ok; exact ⟨q, k, mono r⟩
        | zT o vs xs => obtain ⟨q, k, r⟩ := ok; exact ⟨q, k, mono r⟩
        | ins C xs => obtain ⟨dx, vs, q, k, r⟩ := ok; exact ⟨dx, vs, q, k, mono r⟩
      · rw [List.getElem?_append_right (by omega)] at h1
        rw [List.getElem?_append_right (by rw [← R1.len]; omega)] at h2
        have z : n - m1.length = 0 := by
          have := (List.getElem?_eq_some_iff.mp h1).1
          simp at this; omega
        rw [z] at h1
        rw [← R1.len, z] at h2
        simp at h1 h2
        subst h1; subst h2
        exact ⟨vs, ea, mono rx⟩
theorem MonoE.newl (mo : MonoA t) : MonoE (tNew t) := fun ρ st Q Q' w q => mo _ _ _ _ (fun d h1 q1 => w _ _ q1) q
theorem e3_new (h : PX3 X e t) : PE3 X e (tNew t) := ⟨PE.weak h.pe fun σ H Q q => new_lift h.mono q, .newl h.mono⟩
end

/-! ### statements -/
section
variable {X : Cx} {st : Stmt} {rest : List Stmt} {t u : C3} {e : Expr} {te : E3} {pos : Pos}
theorem EndsLe.refl {D : Ends3} : EndsLe D D := ⟨fun _ _ q => q, fun _ _ q => q, fun _ _ q => q, fun _ _ q => q⟩
def cNext : C3 := fun D ρ h => D.nx ρ h
def cSeq (t u : C3) : C3 := fun D ρ h => t { D with nx := u D } ρ h
theorem MonoC.seq (mt : MonoC t) (mu : MonoC u) : MonoC (cSeq t u) := fun D D' ρ h w q => mt { D with nx := u D } { D' with nx := u D' } ρ h ⟨fun ρ h q => mu _ _ _ _ w q, w.rt, w.bk, w.ct⟩ q
/-- the lifted ends of a later state -/
theorem LC.of {K : PySem.W.Frag} {m : List Addr} {H : Hp} {h : Sto} {ρ : S3} {σ : L2.St} {D : Ends} (mt : MonoC t) {D3 : Ends3} (R : Rep K m h H) (S : RelS K m H ρ σ) (w : EndsLe D3 (UpC K m H D)) (q : t D3 ρ h) : LC K t D σ H := ⟨m, h, ρ, R, S, mt _ _ _ _ w q⟩
theorem cs3_nil : PCs3 X [] cNext := ⟨PSs.weak pss_nil fun D σ H ⟨m, h, ρ, R, S, q⟩ => q m H σ .refl R S, fun D D' ρ h w q => w.nx _ _ q⟩
theorem cs3_cons (h1 : PC3 X st t) (h2 : PCs3 X rest u) : PCs3 X (st :: rest) (cSeq t u) := by
  refine ⟨PSs.weak (pss_cons h1.pe h2.pe) fun D σ H ⟨m, h, ρ, R, S, q⟩ => ?_, h1.mono.seq h2.mono⟩
  refine LC.of (D3 := { UpC X.K m H D with nx := u (UpC X.K m H D) }) h1.mono R S ⟨fun ρ' h' q m' H' σ' s R' S' => ?_, fun _ _ q => q, fun _ _ q => q, fun _ _ q => q⟩ q
  exact LC.of h2.mono R' S' (UpC.step s) q
theorem cs3_one (h1 : PC3 X st t) : PCs3 X [st] t := ⟨pss_one h1.pe, h1.mono⟩
def cBreak : C3 := fun D ρ h => D.bk ρ h
def cCont : C3 := fun D ρ h => D.ct ρ h
theorem c3_pass : PC3 X (.Pass pos) cNext := ⟨PS.weak ps_pass fun D σ H ⟨m, h, ρ, R, S, q⟩ => q m H σ .refl R S, fun D D' ρ h w q => w.nx _ _ q⟩
theorem c3_break : PC3 X (.Break pos) cBreak := ⟨PS.weak ps_break fun D σ H ⟨m, h, ρ, R, S, q⟩ => q m H σ .refl R S, fun D D' ρ h w q => w.bk _ _ q⟩
theorem c3_continue : PC3 X (.Continue pos) cCont := ⟨PS.weak ps_continue fun D σ H ⟨m, h, ρ, R, S, q⟩ => q m H σ .refl R S, fun D D' ρ h w q => w.ct _ _ q⟩
def cDrop (te : E3) : C3 := fun D ρ h => te ρ h fun _ h1 => D.nx ρ h1
theorem c3_expr (he : PE3 X e te) (hs : swapsWith e none pos.line X.env = pure false := by rfl) : PC3 X (.Expr e pos) (cDrop te) := by
  refine ⟨PS.weak (ps_expr he.pe hs) fun D σ H ⟨m, h, ρ, R, S, q⟩ => ?_, fun D D' ρ h w q => he.mono _ _ _ _ (fun _ _ q => w.nx _ _ q) q⟩
  exact LE.bind he.mono R S q fun m1 H1 v x h1 s1 R1 rx S1 q1 => q1 m1 H1 σ s1 R1 S1
def cRet (te : E3) : C3 := fun D ρ h => te ρ h D.rt
theorem c3_ret (he : PE3 X e te) : PC3 X (.Return (some e) pos) (cRet te) := by
  refine ⟨PS.weak (ps_ret he.pe) fun D σ H ⟨m, h, ρ, R, S, q⟩ => ?_, fun D D' ρ h w q => he.mono _ _ _ _ (fun _ _ q => w.rt _ _ q) q⟩
  exact LE.bind he.mono R S q fun m1 H1 v x h1 s1 R1 rx S1 q1 => q1 m1 H1 v s1 R1 rx
def cRetN : C3 := fun D _ h => D.rt .non h
theorem c3_retN : PC3 X (.Return none pos) cRetN := ⟨PS.weak ps_retN fun D σ H ⟨m, h, ρ, R, S, q⟩ => q m H .non .refl R .non, fun D D' ρ h w q => w.rt _ _ q⟩
def cIf (c : B3) (t u : C3) : C3 := fun D ρ h => c ρ h fun b h1 => if b = true then t D ρ h1 else u D ρ h1
theorem c3_if {c : Expr} {a b : List Stmt} {tc : B3} (hc : PB3 X c tc) (ha : PCs3 X a t) (hb : PCs3 X b u) : PC3 X (.If c a b pos) (cIf tc t u) := by
  refine ⟨PS.weak (ps_if hc.pe ha.pe hb.pe) fun D σ H ⟨m, h, ρ, R, S, q⟩ => ?_, fun D D' ρ h w q => hc.mono _ _ _ _ (fun b h1 q => ?_) q⟩
  · refine LB.bind hc.mono R S q fun m1 H1 k h1 s1 R1 S1 q1 => ?_
    cases k with
    | true => rw [if_pos rfl] at q1 ⊢; exact LC.of ha.mono R1 S1 (UpC.step s1) q1
    | false => rw [if_neg Bool.false_ne_true] at q1 ⊢; exact LC.of hb.mono R1 S1 (UpC.step s1) q1
  · cases b with
    | true => rw [if_pos rfl] at q ⊢; exact ha.mono _ _ _ _ w q
    | false => rw [if_neg Bool.false_ne_true] at q ⊢; exact hb.mono _ _ _ _ w q
/-! ### targets -/
abbrev G3 := D → S3 → Sto → (S3 → Sto → Prop) → Prop
abbrev Gs3 := List D → S3 → Sto → (S3 → Sto → Prop) → Prop
def LG (K : PySem.W.Frag) (g : G3) : TG := fun v σ H Q => ∃ m h ρ d, Rep K m h H ∧ RelS K m H ρ σ ∧ RelD K m H d v ∧ g d ρ h (UpS K m H Q)
def LGs (K : PySem.W.Frag) (g : Gs3) : TGs := fun v σ H Q => ∃ m h ρ d, Rep K m h H ∧ RelS K m H ρ σ ∧ RelDs K m H d v ∧ g d ρ h (UpS K m H Q)
structure PG3 (X : Cx) (tg : Expr) (g : G3) : Prop where
  pe : PG X tg (LG X.K g)
  mono : ∀ d ρ h (Q Q' : S3 → Sto → Prop), (∀ ρ h, Q ρ h → Q' ρ h) → g d ρ h Q → g d ρ h Q'
structure PGs3 (X : Cx) (tg : List Expr) (g : Gs3) : Prop where
  pe : PGs X tg (LGs X.K g)
  mono : ∀ d ρ h (Q Q' : S3 → Sto → Prop), (∀ ρ h, Q ρ h → Q' ρ h) → g d ρ h Q → g d ρ h Q'
theorem PG.weak {X : Cx} {e : Expr} {t t' : TG} (p : PG X e t) (w : ∀ v σ H Q, t' v σ H Q → t v σ H Q) : PG X e t' := ⟨fun pins s σ H v u Q I r h => p.run pins s σ H v u Q I r (w v σ H Q h)⟩
theorem PGs.weak {X : Cx} {e : List Expr} {t t' : TGs} (p : PGs X e t) (w : ∀ v σ H Q, t' v σ H Q → t v σ H Q) : PGs X e t' := ⟨fun pins s σ H v u Q I r h => p.run pins s σ H v u Q I r (w v σ H Q h)⟩
def gN (i : Nat) : G3 := fun d ρ h Q => Q (ρ.set i (some d)) h
theorem g3_n (i : Nat) {x : Str} {pos : Pos} (hN : X.N.Nodup) (hi : X.N[i]? = some x := by rfl) (hx : Loc X.env.scope x := by first | exact Or.inl rfl | exact Or.inr rfl) (hf : X.fn x = true ∨ X.env.scope.names.lookup x = some .local := by first | exact .inl rfl | exact .inr rfl | assumption) : PG3 X (.Name x pos) (gN i) :=
  ⟨PG.weak (pg_name hN hi hx hf) fun v σ H Q ⟨m, h, ρ, d, R, S, r, q⟩ => q m H _ .refl R (S.set r i), fun d ρ h Q Q' w q => w _ _ q⟩
def gNil3 : Gs3 := fun ds ρ h Q => match ds with
  | [] => Q ρ h
  | _ :: _ => False
def gCons3 (g : G3) (r : Gs3) : Gs3 := fun ds ρ h Q => match ds with
  | [] => False
  | d :: ds => g d ρ h fun ρ' h' => r ds ρ' h' Q
theorem gs3_nil : PGs3 X [] gNil3 := by
  refine ⟨PGs.weak pgs_nil fun v σ H Q ⟨m, h, ρ, d, R, S, r, q⟩ => ?_, fun d ρ h Q Q' w q => ?_⟩
  · cases r with
    | nil => exact ⟨rfl, q m H σ .refl R S⟩
    | cons a b => exact q.elim
  · cases d with
    | nil => exact w _ _ q
    | cons a b => exact q
theorem gs3_cons {e : Expr} {es : List Expr} {g : G3} {r : Gs3} (h1 : PG3 X e g) (h2 : PGs3 X es r)
    (hs : (assignEach (e :: es) X.env).map (·.2) = assign e X.env :: (assignEach es X.env).map (·.2) := by rfl) : PGs3 X (e :: es) (gCons3 g r) := by
  refine ⟨PGs.weak (pgs_cons h1.pe h2.pe hs) fun v σ H Q ⟨m, h, ρ, d, R, S, rd, q⟩ => ?_, fun d ρ h Q Q' w q => ?_⟩
  · cases rd with
    | nil => exact q.elim
    | cons a b =>
      refine ⟨_, _, rfl, m, h, ρ, _, R, S, a, h1.mono _ _ _ _ _ (fun ρ' h' q' m' H' σ' s R' S' => ?_) q⟩
      exact ⟨m', h', ρ', _, R', S', b.step R s, h2.mono _ _ _ _ _ (fun ρ2 h2 q2 => UpS.step s q2) q'⟩
  · cases d with
    | nil => exact q
    | cons a b => exact h1.mono _ _ _ _ _ (fun _ _ q => h2.mono _ _ _ _ _ w q) q
def gTup3 (n : Nat) (g : Gs3) : G3 := fun d ρ h Q => match d with
  | .tup xs => xs.length = n ∧ g xs ρ h Q
  | _ => False
theorem g3_tup {es : List Expr} {k : Nat} {g : Gs3} {n : Nat} {pos : Pos} (hc : X.calm = true) (h : PGs3 X es g)
    (hn : (assignEach es X.env).length = n := by rfl) (hst : (assignEach es X.env).findIdx? (·.1) = none := by rfl) : PG3 X (.Tuple es k pos) (gTup3 n g) := by
  refine ⟨PG.weak (pg_tup hc h.pe hn hst) fun v σ H Q ⟨m, st, ρ, d, R, S, rd, q⟩ => ?_, fun d ρ st Q Q' w q => ?_⟩
  · cases rd with
    | tup sq r => exact ⟨_, _, rfl, TH sq, by rw [← r.length]; exact q.1, m, st, ρ, _, R, S, r, q.2⟩
    | _ => exact q.elim
  · cases d with
    | tup xs => exact ⟨q.1, h.mono _ _ _ _ _ w q.2⟩
    | _ => exact q
/-- target = value -/
def cAsg (te : E3) (g : G3) : C3 := fun D ρ h => te ρ h fun x h1 => g x ρ h1 D.nx
theorem c3_asg {tg e : Expr} {te : E3} {g : G3} {pos : Pos} (he : PE3 X e te) (hg : PG3 X tg g) (hs : swapsWithSole [tg] e pos.line X.env = pure false := by rfl) (hw : swappedStores [tg] e X.env = pure none := by rfl)
    (h1 : (assignEach [tg] X.env).map (·.2) = [assign tg X.env] := by rfl) : PC3 X (.Assign [tg] e pos) (cAsg te g) := by
  refine ⟨PS.weak (ps_asg he.pe hg.pe hs hw h1) fun D σ H ⟨m, h, ρ, R, S, q⟩ => ?_, fun D D' ρ h w q => he.mono _ _ _ _ (fun _ _ q => hg.mono _ _ _ _ _ w.nx q) q⟩
  refine LE.bind he.mono R S q fun m1 H1 v x h1 s1 R1 rx S1 q1 => ?_
  exact ⟨m1, h1, ρ, x, R1, S1, rx, hg.mono _ _ _ _ _ (fun _ _ q => UpS.step s1 q) q1⟩
/-- name = value -/
theorem c3_set (i : Nat) {x : Str} {e : Expr} {te : E3} {pos pos' : Pos} (hN : X.N.Nodup) (he : PE3 X e te) (hi : X.N[i]? = some x := by rfl) (hx : Loc X.env.scope x := by first | exact Or.inl rfl | exact Or.inr rfl) (hs : swapsWith e (some (.Name x pos')) pos.line X.env = pure false := by rfl)
    (hf : X.fn x = true ∨ X.env.scope.names.lookup x = some .local := by first | exact .inl rfl | exact .inr rfl | assumption) : PC3 X (.Assign [.Name x pos'] e pos) (cAsg te (gN i)) := by
  refine ⟨PS.weak (ps_set hN hi hx he.pe hs hf) fun D σ H ⟨m, h, ρ, R, S, q⟩ => ?_, fun D D' ρ h w q => he.mono _ _ _ _ (fun _ _ q => w.nx _ _ q) q⟩
  refine LE.bind he.mono R S q fun m1 H1 v x h1 s1 R1 rx S1 q1 => ?_
  exact q1 m1 H1 _ s1 R1 (S1.set rx i)
/-- a, b = x, y -/
def cPar (i j : Nat) (ta : A3) : C3 := fun D ρ h => ta ρ h fun vs h1 => match vs with
  | [v, w] => D.nx ((ρ.set i (some v)).set j (some w)) h1
  | _ => False
theorem c3_par (i j : Nat) {x y : Str} {a b : Expr} {ta : A3} {px py pt : Pos} {kt k2 pt2} {pos : Pos} (hc : X.calm = true) (hN : X.N.Nodup) (ha : PA3 X [a, b] ta) (hi : X.N[i]? = some x := by rfl) (hj : X.N[j]? = some y := by rfl) (hij : i ≠ j := by decide)
    (hx : X.env.scope.names.lookup x = some .local := by rfl) (hy : X.env.scope.names.lookup y = some .local := by rfl)
    (hw : swappedStores [.Tuple [.Name x px, .Name y py] kt pt] (.Tuple [a, b] k2 pt2) X.env = pure (some [x, y]) := by rfl)
    (hs : swapsWithSole [.Tuple [.Name x px, .Name y py] kt pt] (.Tuple [a, b] k2 pt2) pos.line X.env = pure false := by rfl) :
    PC3 X (.Assign [.Tuple [.Name x px, .Name y py] kt pt] (.Tuple [a, b] k2 pt2) pos) (cPar i j ta) := by
  refine ⟨PS.weak (ps_par hc hN hi hj hij hx hy ha.pe hw hs) fun D σ H ⟨m, h, ρ, R, S, q⟩ => ?_, fun D D' ρ h w q => ha.mono _ _ _ _ (fun vs h1 q => ?_) q⟩
  · refine LA.bind ha.mono R S q fun m1 H1 vs xs h1 s1 R1 rx S1 q1 => ?_
    match xs, rx, q1 with
    | [a, b], .cons r1 (.cons r2 .nil), q1 => exact ⟨_, _, rfl, q1 m1 H1 _ s1 R1 ((S1.set r1 i).set r2 j)⟩
  · match vs, q with
    | [a, b], q => exact w.nx _ _ q
end
end F3
/-! FC: loops, comprehensions, calls, defs. -/
namespace F3
open PySem PySem.Spec PyProof.Rows L2

/-! ### while -/
def whN (c : B3) (b : C3) (E : Ends3) : Nat → S3 → Sto → Prop
  | 0, _, _ => False
  | n + 1, ρ, h => c ρ h fun k h1 => if k = true then b { E with nx := whN c b E n, ct := whN c b E n, bk := E.nx } ρ h1 else E.nx ρ h1
def cWhile (c : B3) (b : C3) : C3 := fun E ρ h => ∃ n, whN c b E n ρ h
theorem whN_mono {c : B3} {b : C3} (mc : MonoB c) (mb : MonoC b) {E E' : Ends3} (w : EndsLe E E') : ∀ n ρ h, whN c b E n ρ h → whN c b E' n ρ h
  | 0, _, _, q => q
  | n + 1, ρ, h, q => mc _ _ _ _ (fun k h1 q1 => by
      cases k with
      | true => rw [if_pos rfl] at q1 ⊢; exact mb { E with nx := whN c b E n, ct := whN c b E n, bk := E.nx } _ _ _ ⟨whN_mono mc mb w n, w.rt, w.nx, whN_mono mc mb w n⟩ q1
      | false => rw [if_neg Bool.false_ne_true] at q1 ⊢; exact w.nx _ _ q1) q
section
variable {X : Cx} {pos : Pos}
theorem c3_while {c : Expr} {body : List Stmt} {tc : B3} {tb : C3} (hp : PassesOwn (model X.prog X.w) X.A X.env X.xe) (hc : PB3 X c tc) (hb : PCs3 X body tb) : PC3 X (.While c body [] pos) (cWhile tc tb) := by
  refine ⟨PS.weak (ps_while hp hc.pe hb.pe) fun D σ H ⟨m, h, ρ, R, S, n, q⟩ => ?_, fun E E' ρ h w ⟨n, q⟩ => ⟨n, whN_mono hc.mono hb.mono w n ρ h q⟩⟩
  refine ⟨fun k σ' H' => ∃ m' h' ρ', Step m H m' H' ∧ Rep X.K m' h' H' ∧ RelS X.K m' H' ρ' σ' ∧ whN tc tb (UpC X.K m H D) k ρ' h', ⟨n, m, h, ρ, .refl, R, S, q⟩, ?_⟩
  rintro k σ1 H1 ⟨m1, h1, ρ1, s1, R1, S1, q1⟩
  cases k with
  | zero => exact q1.elim
  | succ k =>
    refine LB.bind hc.mono R1 S1 q1 fun m2 H2 b h2 s2 R2 S2 q2 => ?_
    cases b with
    | false =>
      rw [if_neg Bool.false_ne_true] at q2 ⊢
      exact q2 m2 H2 σ1 (s1.trans s2) R2 S2
    | true =>
      rw [if_pos rfl] at q2 ⊢
      refine ⟨fun σ' H' => ∃ m' h' ρ', Step m H m' H' ∧ Rep X.K m' h' H' ∧ RelS X.K m' H' ρ' σ' ∧ whN tc tb (UpC X.K m H D) k ρ' h', fun σ' H' z => ⟨k, Nat.lt_succ_self k, z⟩, ?_⟩
      refine LC.of hb.mono R2 S2 ⟨fun ρ3 h3 q3 m3 H3 σ3 s3 R3 S3 => ?_, fun d h u => Up.step (s1.trans s2) u, fun d h u => UpS.step (s1.trans s2) u, fun ρ3 h3 q3 m3 H3 σ3 s3 R3 S3 => ?_⟩ q2
      · exact ⟨m3, h3, ρ3, s1.trans (s2.trans s3), R3, S3, q3⟩
      · exact ⟨m3, h3, ρ3, s1.trans (s2.trans s3), R3, S3, q3⟩
end

/-! ### what is walked -/
abbrev I3 := S3 → Sto → (List D → (Sto → Prop) → Sto → Prop) → Prop
structure Serves (K : PySem.W.Frag) (J : It) (items : List D) (still : Sto → Prop) (m0 : List Addr) (H0 : Hp) : Prop where
  go : ∀ m H h, Step m0 H0 m H → Rep K m h H → still h → ∀ (i : Nat) (x : D), items[i]? = some x → J.go i H ∧ ∀ v H', J.yld i H v H' → Step m H m H' ∧ Rep K m h H' ∧ RelD K m H' x v
  stop : ∀ m H h, Step m0 H0 m H → Rep K m h H → still h → ∀ i : Nat, items.length ≤ i → J.stop i H
def UpI (K : PySem.W.Frag) (m : List Addr) (H : Hp) (R : It → Hp → Prop) : List D → (Sto → Prop) → Sto → Prop := fun items still h' => ∀ m' H' J, Step m H m' H' → Rep K m' h' H' → Serves K J items still m' H' → R J H'
def LI (K : PySem.W.Frag) (t : I3) : TI := fun σ H R => ∃ m h ρ, Rep K m h H ∧ RelS K m H ρ σ ∧ t ρ h (UpI K m H R)
def MonoI (t : I3) : Prop := ∀ ρ h (Q Q' : List D → (Sto → Prop) → Sto → Prop), (∀ xs st h', Q xs st h' → Q' xs st h') → t ρ h Q → t ρ h Q'
structure PI3 (X : Cx) (tg iter : Expr) (t : I3) : Prop where
  pe : PI X tg iter (LI X.K t)
  mono : MonoI t
theorem PI.weak {X : Cx} {tg e : Expr} {t t' : TI} (p : PI X tg e t) (w : ∀ σ H Q, t' σ H Q → t σ H Q) : PI X tg e t' := ⟨fun pins s σ H Q I h => p.run pins s σ H Q I (w σ H Q h)⟩
theorem LI.bind {K : PySem.W.Frag} {m : List Addr} {H : Hp} {h : Sto} {ρ : S3} {σ : L2.St} {t : I3} (mo : MonoI t) (R : Rep K m h H) (S : RelS K m H ρ σ) {Q3 : List D → (Sto → Prop) → Sto → Prop} (q : t ρ h Q3) {Q : It → Hp → Prop}
    (k : ∀ m' H' J xs st h', Step m H m' H' → Rep K m' h' H' → Serves K J xs st m' H' → RelS K m' H' ρ σ → Q3 xs st h' → Q J H') : LI K t σ H Q :=
  ⟨m, h, ρ, R, S, mo ρ h _ _ (fun xs st h' q m' H' J s rp sv => k m' H' J xs st h' s rp sv (S.step R s) q) q⟩

/-! ### for -/
def forI (g : G3) (b : C3) (st : Sto → Prop) (E : Ends3) : List D → S3 → Sto → Prop
  | [], ρ, h => st h ∧ E.nx ρ h
  | x :: r, ρ, h => st h ∧ g x ρ h fun ρ' h' => b { E with nx := forI g b st E r, ct := forI g b st E r, bk := E.nx } ρ' h'
def cFor (it : I3) (g : G3) (b : C3) : C3 := fun E ρ h => it ρ h fun items st h1 => forI g b st E items ρ h1
theorem forI_mono {g : G3} {b : C3} (mg : ∀ d ρ h (Q Q' : S3 → Sto → Prop), (∀ ρ h, Q ρ h → Q' ρ h) → g d ρ h Q → g d ρ h Q') (mb : MonoC b) {st : Sto → Prop} {E E' : Ends3} (w : EndsLe E E') : ∀ xs ρ h, forI g b st E xs ρ h → forI g b st E' xs ρ h
  | [], _, _, q => ⟨q.1, w.nx _ _ q.2⟩
  | x :: r, ρ, h, q => ⟨q.1, mg _ _ _ _ _ (fun ρ' h' q' => mb { E with nx := forI g b st E r, ct := forI g b st E r, bk := E.nx } _ _ _ ⟨forI_mono mg mb w r, w.rt, w.nx, forI_mono mg mb w r⟩ q') q.2⟩
section
variable {X : Cx} {tg : Expr} {pos : Pos}
theorem c3_for {iter : Expr} {body : List Stmt} {it : I3} {g : G3} {tb : C3} (hp : PassesOwn (model X.prog X.w) X.A X.env X.xe) (hc : X.calm = true) (hi : PI3 X tg iter it) (hg : PG3 X tg g) (hb : PCs3 X body tb)
    (hs : ∀ x, foldedSetIterable iter X.env x = pure x := by intro _; rfl) : PC3 X (.For tg iter body [] pos) (cFor it g tb) := by
  refine ⟨PS.weak (ps_for hp hc hi.pe hg.pe hb.pe hs) fun D σ H ⟨m0, h0, ρ0, R0, S0, q⟩ => ?_, fun E E' ρ h w q => hi.mono _ _ _ _ (fun xs st h1 q1 => forI_mono hg.mono hb.mono w xs ρ h1 q1) q⟩
  refine LI.bind hi.mono R0 S0 q fun m H J items st h s0 R sv S q => ?_
  refine ⟨fun i n σ' H' => ∃ m' h' ρ', Step m H m' H' ∧ Rep X.K m' h' H' ∧ RelS X.K m' H' ρ' σ' ∧ i ≤ items.length ∧ n = items.length - i ∧ forI g tb st (UpC X.K m H D) (items.drop i) ρ' h', ⟨items.length, m, h, ρ0, .refl, R, S, Nat.zero_le _, rfl, forI_mono hg.mono hb.mono (UpC.step s0) _ _ _ q⟩, ?_⟩
  rintro i n σ1 H1 ⟨m1, h1, ρ1, s1, R1, S1, hi', hn, q1⟩
  by_cases hlt : i < items.length
  · have ed : items.drop i = items[i] :: items.drop (i + 1) := List.drop_eq_getElem_cons hlt
    rw [ed] at q1
    obtain ⟨hst, q1⟩ := q1
    obtain ⟨jg, jy⟩ := sv.go m1 H1 h1 s1 R1 hst i items[i] (List.getElem?_eq_getElem hlt)
    refine .inr ⟨jg, fun σ' H' => ∃ m' h' ρ', Step m H m' H' ∧ Rep X.K m' h' H' ∧ RelS X.K m' H' ρ' σ' ∧ forI g tb st (UpC X.K m H D) (items.drop (i + 1)) ρ' h', fun σ' H' ⟨m', h', ρ', z1, z2, z3, z4⟩ => ⟨items.length - (i + 1), by omega, m', h', ρ', z1, z2, z3, hlt, rfl, z4⟩, fun v H2 hy => ?_⟩
    obtain ⟨s2, R2, rx⟩ := jy v H2 hy
    refine ⟨m1, h1, ρ1, items[i], R2, S1.step R1 s2, rx, hg.mono _ _ _ _ _ (fun ρ3 h3 q3 m3 H3 σ3 s3 R3 S3 => ?_) q1⟩
    have s13 := s1.trans (s2.trans s3)
    exact LC.of hb.mono R3 S3 ⟨fun ρ4 h4 q4 m4 H4 σ4 s4 R4 S4 => ⟨m4, h4, ρ4, s13.trans s4, R4, S4, q4⟩, fun d h u => Up.step s13 u, fun d h u => UpS.step s13 u, fun ρ4 h4 q4 m4 H4 σ4 s4 R4 S4 => ⟨m4, h4, ρ4, s13.trans s4, R4, S4, q4⟩⟩ q3
  · have e : i = items.length := by omega
    rw [List.drop_eq_nil_of_le (by omega)] at q1
    exact .inl ⟨sv.stop m1 H1 h1 s1 R1 q1.1 i (by omega), q1.2 m1 H1 σ1 s1 R1 S1⟩
end

/-! ### the things walked -/
/-- a tuple, a list that never changes: its items; a cell: its items, while it stands still -/
def iSeq (t : E3) : I3 := fun ρ h Q => t ρ h fun d h1 => match d with
  | .tup xs => Q xs (fun _ => True) h1
  | .fl xs => Q xs (fun _ => True) h1
  | .ref n => match h1[n]? with
    | some (.lst xs) => Q xs (fun h' => h'[n]? = some (.lst xs)) h1
    | _ => False
  | _ => False
/-- a new list -/
def iNew (t : A3) : I3 := fun ρ h Q => t ρ h fun xs h1 => Q xs (fun _ => True) h1
def iRng (ta : A3) : I3 := fun ρ h Q => ta ρ h fun vs h1 => match vs with
  | [.int j] => (-(2 ^ 62) ≤ j ∧ j < 2 ^ 62) ∧ Q ((List.range j.toNat).map fun (k : Nat) => D.int k) (fun _ => True) h1
  | [.int i, .int j] => (-(2 ^ 62) ≤ i ∧ i < 2 ^ 62 ∧ -(2 ^ 62) ≤ j ∧ j < 2 ^ 62) ∧ Q ((List.range (j - i).toNat).map fun (k : Nat) => D.int (i + k)) (fun _ => True) h1
  | _ => False
section
variable {K : PySem.W.Frag} {m : List Addr} {H : Hp} {h : Sto} {a b : Addr} {vs : List V} {xs ys : List D}
/-- the list at a is to be read with these items, wherever one stands behind (m, H) and still holds -/
def StL (K : PySem.W.Frag) (a : Addr) (xs : List D) (still : Sto → Prop) (m : List Addr) (H : Hp) : Prop := ∀ m' H' h', Step m H m' H' → Rep K m' h' H' → still h' → ∃ ws, SqL K H' a ws ∧ RelDs K m' H' xs ws
def StT (K : PySem.W.Frag) (a : Addr) (xs : List D) (m : List Addr) (H : Hp) : Prop := ∀ m' H' h', Step m H m' H' → Rep K m' h' H' → ∃ ws, SqT K H' a ws ∧ RelDs K m' H' xs ws
theorem StT.of (R : Rep K m h H) (q : SqT K H a vs) (r : RelDs K m H xs vs) : StT K a xs m H := fun m' H' h' s _ => ⟨vs, SqT.step R s q, r.step R s⟩
theorem StL.fl (R : Rep K m h H) (q : SqF K H a vs) (r : RelDs K m H xs vs) {still : Sto → Prop} : StL K a xs still m H := fun m' H' h' s _ _ => ⟨vs, (SqF.step R s q).sq, r.step R s⟩
theorem StL.new (R : Rep K m h H) (q : H a = some (.lst vs)) (na : a ∉ m) (r : RelDs K m H xs vs) {still : Sto → Prop} : StL K a xs still m H := fun m' H' h' s _ _ => ⟨vs, .inl (.inl (s.keep _ _ na q)), r.step R s⟩
theorem StL.ref {n : Nat} (e : m[n]? = some a) : StL K a xs (fun h' => h'[n]? = some (.lst xs)) m H := fun m' H' h' s R st => by
  obtain ⟨ws, q, r⟩ := R.at_ n a _ (s.get e) st
  exact ⟨ws, .inl (.inl q), r⟩
theorem serves_list {still : Sto → Prop} (sq : StL K a xs still m H) : Serves K (Itl K a) xs still m H := by
  refine ⟨fun m1 H1 h1 s1 R1 st i x hx => ?_, fun m1 H1 h1 s1 R1 st i hi => ?_⟩
  · obtain ⟨ws, q, r⟩ := sq m1 H1 h1 s1 R1 st
    obtain ⟨v, ev, rv⟩ := r.get hx
    refine ⟨⟨ws, v, q, ev⟩, fun v' H' ⟨e, f⟩ => ?_⟩
    subst e
    have e2 := f ws q
    rw [ev] at e2; cases e2
    exact ⟨.refl, R1, rv⟩
  · obtain ⟨ws, q, r⟩ := sq m1 H1 h1 s1 R1 st
    exact ⟨ws, q, by rw [← r.length]; exact hi⟩
theorem serves_tup (sq : StT K a xs m H) : Serves K (Itt K a) xs (fun _ => True) m H := by
  refine ⟨fun m1 H1 h1 s1 R1 st i x hx => ?_, fun m1 H1 h1 s1 R1 st i hi => ?_⟩
  · obtain ⟨ws, q, r⟩ := sq m1 H1 h1 s1 R1
    obtain ⟨v, ev, rv⟩ := r.get hx
    refine ⟨⟨ws, v, q, ev⟩, fun v' H' ⟨e, f⟩ => ?_⟩
    subst e
    have e2 := f ws q
    rw [ev] at e2; cases e2
    exact ⟨.refl, R1, rv⟩
  · obtain ⟨ws, q, r⟩ := sq m1 H1 h1 s1 R1
    exact ⟨ws, q, by rw [← r.length]; exact hi⟩
theorem serves_range (lo : Int) (n : Nat) : Serves K (Itr lo n) ((List.range n).map fun (k : Nat) => D.int (lo + k)) (fun _ => True) m H := by
  refine ⟨fun m1 H1 h1 s1 R1 st i x hx => ?_, fun m1 H1 h1 s1 R1 st i hi => ?_⟩
  · have hl : i < n := by
      have := (List.getElem?_eq_some_iff.mp hx).1
      simpa using this
    refine ⟨hl, fun v' H' ⟨e, f⟩ => ?_⟩
    subst e; subst f
    rw [List.getElem?_map, List.getElem?_range hl] at hx
    cases hx
    exact ⟨.refl, R1, .int _⟩
  · show n ≤ i
    simpa using hi
theorem serves_enum {still : Sto → Prop} (sq : StL K a xs still m H) : Serves K (Ite K a) (xs.mapIdx fun i x => D.tup [.int i, x]) still m H := by
  refine ⟨fun m1 H1 h1 s1 R1 st i x hx => ?_, fun m1 H1 h1 s1 R1 st i hi => ?_⟩
  · obtain ⟨ws, q, r⟩ := sq m1 H1 h1 s1 R1 st
    rw [List.getElem?_mapIdx] at hx
    obtain ⟨y, ey, rfl⟩ := Option.map_eq_some_iff.mp hx
    obtain ⟨v, ev, rv⟩ := r.get ey
    refine ⟨⟨ws, v, q, ev⟩, fun v' H' ⟨T, x', e1, nT, e2, f⟩ => ?_⟩
    subst e1; subst e2
    have e3 := f ws q
    rw [ev] at e3; cases e3
    exact ⟨Step.lay nT, R1.lay nT, .tup upd_same (.cons (.int _) (.cons (rv.step R1 (Step.lay nT)) .nil))⟩
  · obtain ⟨ws, q, r⟩ := sq m1 H1 h1 s1 R1 st
    exact ⟨ws, q, by rw [← r.length]; simpa using hi⟩
theorem serves_rev {still : Sto → Prop} {n : Nat} (hn : n = xs.length) (sq : StL K a xs still m H) : Serves K (Itv K a n) xs.reverse still m H := by
  subst hn
  refine ⟨fun m1 H1 h1 s1 R1 st i x hx => ?_, fun m1 H1 h1 s1 R1 st i hi => ?_⟩
  · obtain ⟨ws, q, r⟩ := sq m1 H1 h1 s1 R1 st
    have hl : i < xs.length := by
      have := (List.getElem?_eq_some_iff.mp hx).1
      simpa using this
    rw [List.getElem?_reverse hl] at hx
    obtain ⟨v, ev, rv⟩ := r.get hx
    refine ⟨⟨hl, ws, v, q, ev⟩, fun v' H' ⟨e, f⟩ => ?_⟩
    subst e
    have e2 := f ws q
    rw [ev] at e2; cases e2
    exact ⟨.refl, R1, rv⟩
  · show xs.length ≤ i
    simpa using hi
theorem zip_get {i : Nat} {x : D} (hx : (List.zipWith (fun x y => D.tup [x, y]) xs ys)[i]? = some x) : ∃ y z, xs[i]? = some y ∧ ys[i]? = some z ∧ x = .tup [y, z] := by
  rw [List.getElem?_zipWith] at hx
  cases e1 : xs[i]? with
  | none => rw [e1] at hx; simp at hx
  | some y =>
    cases e2 : ys[i]? with
    | none => rw [e1, e2] at hx; simp at hx
    | some z => rw [e1, e2] at hx; simp at hx; exact ⟨y, z, rfl, rfl, hx.symm⟩
theorem serves_zip {st1 st2 : Sto → Prop} (sq : StL K a xs st1 m H) (sq2 : StL K b ys st2 m H) : Serves K (Itz K a b) (List.zipWith (fun x y => D.tup [x, y]) xs ys) (fun h => st1 h ∧ st2 h) m H := by
  refine ⟨fun m1 H1 h1 s1 R1 st i x hx => ?_, fun m1 H1 h1 s1 R1 st i hi => ?_⟩
  · obtain ⟨ws, q, r⟩ := sq m1 H1 h1 s1 R1 st.1
    obtain ⟨ws2, q2, r2⟩ := sq2 m1 H1 h1 s1 R1 st.2
    obtain ⟨y, z, e1, e2, rfl⟩ := zip_get hx
    obtain ⟨v, ev, rv⟩ := r.get e1
    obtain ⟨u, eu, ru⟩ := r2.get e2
    refine ⟨⟨ws, ws2, v, u, q, q2, ev, eu⟩, fun v' H' ⟨T, x', y', e1, nT, e2, f, f2⟩ => ?_⟩
    subst e1; subst e2
    have e3 := f ws q
    rw [ev] at e3; cases e3
    have e4 := f2 ws2 q2
    rw [eu] at e4; cases e4
    exact ⟨Step.lay nT, R1.lay nT, .tup upd_same (.cons (rv.step R1 (Step.lay nT)) (.cons (ru.step R1 (Step.lay nT)) .nil))⟩
  · obtain ⟨ws, q, r⟩ := sq m1 H1 h1 s1 R1 st.1
    obtain ⟨ws2, q2, r2⟩ := sq2 m1 H1 h1 s1 R1 st.2
    refine ⟨ws, ws2, q, q2, ?_⟩
    rw [← r.length, ← r2.length]
    rw [List.length_zipWith] at hi
    omega
theorem serves_zipT (sq : StT K a xs m H) (sq2 : StT K b ys m H) : Serves K (RZ.ItzT K a b) (List.zipWith (fun x y => D.tup [x, y]) xs ys) (fun _ => True) m H := by
  refine ⟨fun m1 H1 h1 s1 R1 st i x hx => ?_, fun m1 H1 h1 s1 R1 st i hi => ?_⟩
  · obtain ⟨ws, q, r⟩ := sq m1 H1 h1 s1 R1
    obtain ⟨ws2, q2, r2⟩ := sq2 m1 H1 h1 s1 R1
    obtain ⟨y, z, e1, e2, rfl⟩ := zip_get hx
    obtain ⟨v, ev, rv⟩ := r.get e1
    obtain ⟨u, eu, ru⟩ := r2.get e2
    refine ⟨⟨ws, ws2, v, u, q, q2, ev, eu⟩, fun v' H' ⟨T, x', y', e1, nT, e2, f, f2⟩ => ?_⟩
    subst e1; subst e2
    have e3 := f ws q
    rw [ev] at e3; cases e3
    have e4 := f2 ws2 q2
    rw [eu] at e4; cases e4
    exact ⟨Step.lay nT, R1.lay nT, .tup upd_same (.cons (rv.step R1 (Step.lay nT)) (.cons (ru.step R1 (Step.lay nT)) .nil))⟩
  · obtain ⟨ws, q, r⟩ := sq m1 H1 h1 s1 R1
    obtain ⟨ws2, q2, r2⟩ := sq2 m1 H1 h1 s1 R1
    refine ⟨ws, ws2, q, q2, ?_⟩
    rw [← r.length, ← r2.length]
    rw [List.length_zipWith] at hi
    omega
end
theorem PI.or {X : Cx} {tg e : Expr} {t t' : TI} (p : PI X tg e t) (p' : PI X tg e t') : PI X tg e (fun σ H Q => t σ H Q ∨ t' σ H Q) := ⟨fun pins s σ H Q I h => h.elim (p.run pins s σ H Q I) (p'.run pins s σ H Q I)⟩
/-- a list or a tuple, once its value has come -/
theorem pi_any {X : Cx} {tg l : Expr} {tl : TE} (hl : PE X l tl) : PI X tg l (fun σ H R => tl σ H fun x H1 => ∃ a, x = .ref a ∧ (((∃ xs, SqL X.K H1 a xs) ∧ R (Itl X.K a) H1) ∨ ((∃ xs, SqT X.K H1 a xs) ∧ R (Itt X.K a) H1))) := by
  refine ⟨fun pins s σ H R I h => ?_⟩
  refine thn (hl.run pins s σ H _ I h) fun v s1 ⟨x, H1, I1, r1, q1⟩ => ?_
  obtain ⟨a, e, q⟩ := q1
  subst e
  cases r1
  rcases q with ⟨⟨xs, hq⟩, q⟩ | ⟨⟨xs, hq⟩, q⟩
  · obtain ⟨its, rv, p, hz⟩ := I1.list hq
    refine wpAny_pyIter_list p.isList ?_
    refine ⟨s1.heap.objs.size, [s1.heap.objs.size], _, _, H1, rfl, I1.kept (t' := s1.toks) fun b o e => Heap.get?_push_of_some _ e, turn_list a _, ⟨_, Heap.get?_push_size _ rfl, rfl, rfl⟩, fun b hb => ?_, q⟩
    have e : b = s1.heap.objs.size := by simpa using hb
    subst e
    exact I1.fpOk (Nat.le_refl _) (I1.hok.fresh (Nat.le_refl _))
  · obtain ⟨its, rv, p, hz⟩ := I1.tuple hq
    refine wpAny_pyIter_tuple (show s1.heap.IsTuple a its.toArray from p) ?_
    refine ⟨s1.heap.objs.size, [s1.heap.objs.size], _, _, H1, rfl, I1.kept (t' := s1.toks) fun b o e => Heap.get?_push_of_some _ e, turn_tuple a _, ⟨_, Heap.get?_push_size _ rfl, rfl, rfl⟩, fun b hb => ?_, q⟩
    have e : b = s1.heap.objs.size := by simpa using hb
    subst e
    exact I1.fpOk (Nat.le_refl _) (I1.hok.fresh (Nat.le_refl _))
section
variable {X : Cx} {tg : Expr}
theorem i3_seq {l : Expr} {t : E3} (hl : PE3 X l t) : PI3 X tg l (iSeq t) := by
  refine ⟨PI.weak (pi_any hl.pe) fun σ H R ⟨m, h, ρ, Rp, S, q⟩ => ?_, fun ρ h Q Q' w q => hl.mono _ _ _ _ (fun d h1 q1 => ?_) q⟩
  · refine LE.bind hl.mono Rp S q fun m1 H1 v x h1 s1 R1 rx S1 q1 => ?_
    cases rx with
    | tup sq r => exact ⟨_, rfl, .inr ⟨⟨_, TH sq⟩, q1 m1 H1 _ s1 R1 (serves_tup (.of R1 (TH sq) r))⟩⟩
    | fl sq r => exact ⟨_, rfl, .inl ⟨⟨_, sq.sq⟩, q1 m1 H1 _ s1 R1 (serves_list (.fl R1 sq r))⟩⟩
    | @ref n a e =>
      simp only at q1
      split at q1
      next xs e2 =>
        obtain ⟨ws, q, r⟩ := R1.at_ n a _ e e2
        exact ⟨_, rfl, .inl ⟨⟨ws, .inl (.inl q)⟩, q1 m1 H1 _ s1 R1 (serves_list (.ref e))⟩⟩
      next => exact q1.elim
    | _ => exact q1.elim
  · cases d with
    | tup xs => exact w _ _ _ q1
    | fl xs => exact w _ _ _ q1
    | ref n =>
      simp only at q1 ⊢
      split at q1
      · exact w _ _ _ q1
      · exact q1.elim
    | _ => exact q1
theorem i3_new {l : Expr} {t : A3} (hl : PX3 X l t) : PI3 X tg l (iNew t) := by
  refine ⟨PI.weak (pi_list hl.pe) fun σ H R ⟨m, h, ρ, Rp, S, q⟩ => ?_, fun ρ h Q Q' w q => hl.mono _ _ _ _ (fun d h1 q1 => w _ _ _ q1) q⟩
  refine LX.bind hl.mono Rp S q fun m1 H1 a vs xs h1 s1 R1 ea na hm rx S1 q1 => ?_
  exact ⟨a, rfl, ⟨vs, .inl (.inl ea)⟩, q1 m1 H1 _ s1 R1 (serves_list (.new R1 ea hm rx))⟩
theorem i3_range1 {a : Expr} {ta : A3} {p pos : Pos} (hg : Gl X "range") (hm : X.mg "range" = none) (ha : PA3 X [a] ta) (hs : starEach [a] X.env = [(false, eval a X.env)] := by rfl) : PI3 X tg (.Call (.Name "range" p) [a] [] pos) (iRng ta) := by
  refine ⟨PI.weak (pi_range1 hg hm ha.pe hs) fun σ H R ⟨m, h, ρ, Rp, S, q⟩ => ?_, fun ρ h Q Q' w q => ha.mono _ _ _ _ (fun d h1 q1 => ?_) q⟩
  · refine LA.bind ha.mono Rp S (ha.len _ _ _ q) fun m1 H1 v x h1 s1 R1 rx S1 q1 => ?_
    obtain ⟨hl, q1⟩ := q1
    match x, rx, q1, hl with
    | [.int j], .cons (.int _) .nil, q1, _ =>
      refine ⟨j, rfl, q1.1.1, q1.1.2, q1.2 m1 H1 _ s1 R1 ?_⟩
      have := serves_range (K := X.K) (m := m1) (H := H1) 0 j.toNat
      simpa using this
  · match d, q1 with
    | [.int j], q1 => exact ⟨q1.1, w _ _ _ q1.2⟩
    | [.int i, .int j], q1 => exact ⟨q1.1, w _ _ _ q1.2⟩
theorem i3_range2 {a b : Expr} {ta : A3} {p pos : Pos} (hg : Gl X "range") (hm : X.mg "range" = none) (ha : PA3 X [a, b] ta) (hs : starEach [a, b] X.env = [(false, eval a X.env), (false, eval b X.env)] := by rfl) (hs2 : starEach [b] X.env = [(false, eval b X.env)] := by rfl) : PI3 X tg (.Call (.Name "range" p) [a, b] [] pos) (iRng ta) := by
  refine ⟨PI.weak (pi_range2 hg hm ha.pe hs hs2) fun σ H R ⟨m, h, ρ, Rp, S, q⟩ => ?_, fun ρ h Q Q' w q => ha.mono _ _ _ _ (fun d h1 q1 => ?_) q⟩
  · refine LA.bind ha.mono Rp S (ha.len _ _ _ q) fun m1 H1 v x h1 s1 R1 rx S1 q1 => ?_
    obtain ⟨hl, q1⟩ := q1
    match x, rx, q1, hl with
    | [.int i, .int j], .cons (.int _) (.cons (.int _) .nil), q1, _ => exact ⟨i, j, rfl, q1.1, q1.2 m1 H1 _ s1 R1 (serves_range i _)⟩
  · match d, q1 with
    | [.int j], q1 => exact ⟨q1.1, w _ _ _ q1.2⟩
    | [.int i, .int j], q1 => exact ⟨q1.1, w _ _ _ q1.2⟩
end
/-- a thing's items, and what keeps them -/
def seqOf (d : D) (h : Sto) (Q : List D → (Sto → Prop) → Prop) : Prop := match d with
  | .fl xs => Q xs fun _ => True
  | .ref n => match h[n]? with
    | some (.lst xs) => Q xs fun h' => h'[n]? = some (.lst xs)
    | _ => False
  | _ => False
theorem seqOf_mono {d : D} {h : Sto} {Q Q' : List D → (Sto → Prop) → Prop} (w : ∀ xs st, Q xs st → Q' xs st) (q : seqOf d h Q) : seqOf d h Q' := by
  unfold seqOf at q ⊢
  cases d with
  | fl xs => exact w _ _ q
  | ref n =>
    simp only at q ⊢
    split at q
    · exact w _ _ q
    · exact q.elim
  | _ => exact q
theorem seqOf_lift {K : PySem.W.Frag} {m : List Addr} {H : Hp} {h : Sto} {d : D} {v : V} {Q : List D → (Sto → Prop) → Prop} (R : Rep K m h H) (r : RelD K m H d v) (q : seqOf d h Q) : ∃ a vs xs st, v = .ref a ∧ SqL K H a vs ∧ RelDs K m H xs vs ∧ StL K a xs st m H ∧ Q xs st := by
  cases r with
  | fl sq r => exact ⟨_, _, _, _, rfl, sq.sq, r, .fl R sq r, q⟩
  | @ref n a e =>
    unfold seqOf at q
    simp only at q
    split at q
    next xs e2 =>
      obtain ⟨ws, q', r⟩ := R.at_ n a _ e e2
      exact ⟨_, ws, xs, _, rfl, .inl (.inl q'), r, .ref e, q⟩
    next => exact q.elim
  | _ => exact q.elim
def iZip3 (ta : A3) : I3 := fun ρ h Q => ta ρ h fun vs h1 => match vs with
  | [.tup xs, .tup ys] => Q (List.zipWith (fun x y => D.tup [x, y]) xs ys) (fun _ => True) h1
  | [x, y] => seqOf x h1 fun xs s1 => seqOf y h1 fun ys s2 => Q (List.zipWith (fun x y => D.tup [x, y]) xs ys) (fun h => s1 h ∧ s2 h) h1
  | _ => False
def iEnum3 (ta : A3) : I3 := fun ρ h Q => ta ρ h fun vs h1 => match vs with
  | [x] => seqOf x h1 fun xs st => Q (xs.mapIdx fun i x => D.tup [.int i, x]) st h1
  | _ => False
def iRev3 (ta : A3) : I3 := fun ρ h Q => ta ρ h fun vs h1 => match vs with
  | [x] => seqOf x h1 fun xs st => Q xs.reverse st h1
  | _ => False
section
variable {X : Cx} {tg : Expr}
theorem i3_rev {e : Expr} {ta : A3} {p pos : Pos} (hg : Gl X "reversed") (hm : X.mg "reversed" = none) (ha : PA3 X [e] ta) (hs : starEach [e] X.env = [(false, eval e X.env)] := by rfl) : PI3 X tg (.Call (.Name "reversed" p) [e] [] pos) (iRev3 ta) := by
  refine ⟨PI.weak (pi_reversed hg hm ha.pe hs) fun σ H R ⟨m, h, ρ, Rp, S, q⟩ => ?_, fun ρ h Q Q' w q => ha.mono _ _ _ _ (fun d h1 q1 => ?_) q⟩
  · refine LA.bind ha.mono Rp S q fun m1 H1 v x h1 s1 R1 rx S1 q1 => ?_
    match x, rx, q1 with
    | [x], .cons r .nil, q1 =>
      obtain ⟨a, vs, xs, st, rfl, sq, rs, sl, q2⟩ := seqOf_lift R1 r q1
      exact ⟨a, vs, rfl, sq, q2 m1 H1 _ s1 R1 (serves_rev rs.length.symm sl)⟩
  · match d, q1 with
    | [x], q1 => exact seqOf_mono (fun xs st q => w _ _ _ q) q1
theorem i3_enum {e : Expr} {ta : A3} {p pos tpos : Pos} {elts : List Expr} {kk : Nat} (hg : Gl X "enumerate") (hm : X.mg "enumerate" = none) (ha : PA3 X [e] ta) (hs : starEach [e] X.env = [(false, eval e X.env)] := by rfl) : PI3 X (.Tuple elts kk tpos) (.Call (.Name "enumerate" p) [e] [] pos) (iEnum3 ta) := by
  refine ⟨PI.weak (pi_enum hg hm ha.pe hs) fun σ H R ⟨m, h, ρ, Rp, S, q⟩ => ?_, fun ρ h Q Q' w q => ha.mono _ _ _ _ (fun d h1 q1 => ?_) q⟩
  · refine LA.bind ha.mono Rp S q fun m1 H1 v x h1 s1 R1 rx S1 q1 => ?_
    match x, rx, q1 with
    | [x], .cons r .nil, q1 =>
      obtain ⟨a, vs, xs, st, rfl, sq, rs, sl, q2⟩ := seqOf_lift R1 r q1
      exact ⟨a, vs, rfl, sq, q2 m1 H1 _ s1 R1 (serves_enum sl)⟩
  · match d, q1 with
    | [x], q1 => exact seqOf_mono (fun xs st q => w _ _ _ q) q1
theorem i3_zip {e e2 : Expr} {ta : A3} {p pos tpos : Pos} {elts : List Expr} {kk : Nat} (hg : Gl X "zip") (hm : X.mg "zip" = none) (ha : PA3 X [e, e2] ta)
    (hs : starEach [e, e2] X.env = (false, eval e X.env) :: starEach [e2] X.env := by rfl) (hpl : (backTo pos (starEach [e2] X.env)).any (·.1) = false := by rfl) : PI3 X (.Tuple elts kk tpos) (.Call (.Name "zip" p) [e, e2] [] pos) (iZip3 ta) := by
  refine ⟨PI.weak (RZ.pi_zipA hg hm ha.pe hs hpl) fun σ H R ⟨m, h, ρ, Rp, S, q⟩ => ?_, fun ρ h Q Q' w q => ha.mono _ _ _ _ (fun d h1 q1 => ?_) q⟩
  · refine LA.bind ha.mono Rp S (ha.len _ _ _ q) fun m1 H1 v x h1 s1 R1 rx S1 q1 => ?_
    obtain ⟨hl, q1⟩ := q1
    match x, rx, hl with
    | [x, y], .cons r (.cons r2 .nil), _ =>
      by_cases hz : ∃ xs ys, x = .tup xs ∧ y = .tup ys
      · obtain ⟨xs, ys, rfl, rfl⟩ := hz
        cases r with
        | tup sq r =>
          cases r2 with
          | tup sq2 r2 => exact ⟨_, _, _, _, rfl, .inr ⟨TH sq, TH sq2, q1 m1 H1 _ s1 R1 (serves_zipT (.of R1 (TH sq) r) (.of R1 (TH sq2) r2))⟩⟩
      · have q2 : seqOf x h1 fun xs s1 => seqOf y h1 fun ys s2 => UpI X.K m H R (List.zipWith (fun x y => D.tup [x, y]) xs ys) (fun h => s1 h ∧ s2 h) h1 := by
          split at q1
          next e => simp only [List.cons.injEq] at e; exact absurd ⟨_, _, e.1, e.2.1⟩ hz
          next e => simp only [List.cons.injEq, and_true] at e; rw [e.1, e.2]; exact q1
          next e => exact absurd rfl (e x y)
        obtain ⟨a, vs, xs, st, rfl, sq, rs, sl, q3⟩ := seqOf_lift R1 r q2
        obtain ⟨b, ws, ys, st2, rfl, sq2, rs2, sl2, q4⟩ := seqOf_lift R1 r2 q3
        exact ⟨a, b, vs, ws, rfl, .inl ⟨sq, sq2, q4 m1 H1 _ s1 R1 (serves_zip sl sl2)⟩⟩
  · split at q1
    · exact w _ _ _ q1
    next x y hz => exact seqOf_mono (fun xs st q => seqOf_mono (fun ys st2 q => w _ _ _ q) q) q1
    · exact q1.elim
end
end F3
/-! FD: comprehensions, calls, defs. -/
namespace F3
open PySem PySem.Spec PyProof.Rows L2

/-! ### comprehensions -/
def wipe3 (ρ : S3) : List Nat → S3
  | [] => ρ
  | v :: vs => (wipe3 ρ vs).set v none
theorem RelS.wipes {K : PySem.W.Frag} {m : List Addr} {H : Hp} {ρ : S3} {σ : L2.St} (S : RelS K m H ρ σ) : ∀ vs : List Nat, RelS K m H (wipe3 ρ vs) (L2.wipe σ vs)
  | [] => S
  | v :: vs => (RelS.wipes S vs).wipe v none
theorem wipe_set {σ : L2.St} {x : Option V} {i : Nat} : ∀ {vs : List Nat}, i ∈ vs → L2.wipe (σ.set i x) vs = L2.wipe σ vs
  | [], h => by cases h
  | v :: vs, h => by
    show (L2.wipe (σ.set i x) vs).set v none = (L2.wipe σ vs).set v none
    by_cases hi : i ∈ vs
    · rw [wipe_set hi]
    · have hv : v = i := by
        rcases List.mem_cons.mp h with e | e
        · exact e.symm
        · exact absurd e hi
      subst hv
      have : ∀ ws : List Nat, v ∉ ws → L2.wipe (σ.set v x) ws = (L2.wipe σ ws).set v x := by
        intro ws
        induction ws with
        | nil => intro _; rfl
        | cons w ws ih =>
          intro hw
          simp only [List.mem_cons, not_or] at hw
          show (L2.wipe (σ.set v x) ws).set w none = ((L2.wipe σ ws).set w none).set v x
          rw [ih hw.2, List.set_comm _ _ hw.1]
      rw [this vs hi, List.set_set]
theorem wipe_wipe {σ : L2.St} : ∀ vs : List Nat, L2.wipe (L2.wipe σ vs) vs = L2.wipe σ vs := by
  have aux : ∀ (ws vs : List Nat), (∀ i ∈ ws, i ∈ vs) → L2.wipe (L2.wipe σ ws) vs = L2.wipe σ vs := by
    intro ws vs
    induction ws with
    | nil => intro _; rfl
    | cons w ws ih =>
      intro h
      show L2.wipe ((L2.wipe σ ws).set w none) vs = _
      rw [wipe_set (h w List.mem_cons_self)]
      exact ih fun i hi => h i (List.mem_cons_of_mem _ hi)
  exact fun vs => aux vs vs fun _ h => h
/-- a target that stores at the comprehension's own places alone -/
def CompG (K : PySem.W.Frag) (vs : List Nat) (gV : TG) (g : G3) : Prop := ∀ m h H ρ σ d v (Q3 : S3 → Sto → Prop), Rep K m h H → RelS K m H ρ σ → RelD K m H d v → g d ρ h Q3 →
  ∀ Q : L2.St → Hp → Prop, (∀ σ2 ρ2, L2.wipe σ2 vs = L2.wipe σ vs → RelS K m H ρ2 σ2 → Q3 ρ2 h → Q σ2 H) → gV v σ H Q
def CompGs (K : PySem.W.Frag) (vs : List Nat) (gV : TGs) (g : Gs3) : Prop := ∀ m h H ρ σ d v (Q3 : S3 → Sto → Prop), Rep K m h H → RelS K m H ρ σ → RelDs K m H d v → g d ρ h Q3 →
  ∀ Q : L2.St → Hp → Prop, (∀ σ2 ρ2, L2.wipe σ2 vs = L2.wipe σ vs → RelS K m H ρ2 σ2 → Q3 ρ2 h → Q σ2 H) → gV v σ H Q
theorem cg_n {K : PySem.W.Frag} {vs : List Nat} {i : Nat} (hi : i ∈ vs := by decide) : CompG K vs (gName i) (gN i) := fun m h H ρ σ d v Q3 R S r q Q w => w _ _ (wipe_set hi) (S.set r i) q
theorem cg_nil {K : PySem.W.Frag} {vs : List Nat} : CompGs K vs gNil gNil3 := fun m h H ρ σ d v Q3 R S r q Q w => by
  cases r with
  | nil => exact ⟨rfl, w _ _ rfl S q⟩
  | cons a b => exact q.elim
theorem cg_cons {K : PySem.W.Frag} {vs : List Nat} {gV : TG} {g : G3} {gsV : TGs} {gs : Gs3} (h1 : CompG K vs gV g) (h2 : CompGs K vs gsV gs) : CompGs K vs (gCons gV gsV) (gCons3 g gs) := fun m h H ρ σ d v Q3 R S r q Q w => by
  cases r with
  | nil => exact q.elim
  | cons a b =>
    refine ⟨_, _, rfl, h1 m h H ρ σ _ _ _ R S a q _ fun σ2 ρ2 e S2 q2 => ?_⟩
    exact h2 m h H ρ2 σ2 _ _ Q3 R S2 b q2 _ fun σ3 ρ3 e3 S3 q3 => w σ3 ρ3 (e3.trans e) S3 q3
theorem cg_tup {K : PySem.W.Frag} {vs : List Nat} {n : Nat} {gsV : TGs} {gs : Gs3} (h2 : CompGs K vs gsV gs) : CompG K vs (gTup K n gsV) (gTup3 n gs) := fun m h H ρ σ d v Q3 R S r q Q w => by
  cases r with
  | tup sq r => exact ⟨_, _, rfl, TH sq, by rw [← r.length]; exact q.1, h2 m h H ρ σ _ _ Q3 R S r q.2 Q w⟩
  | _ => exact q.elim
def lcI (g : G3) (tt : B3) (te : E3) (st : Sto → Prop) (ρ : S3) : List D → List D → Sto → (List D → Sto → Prop) → Prop
  | [], acc, h, Q => st h ∧ Q acc h
  | x :: r, acc, h, Q => st h ∧ g x ρ h fun ρ2 h2 => tt ρ2 h2 fun b h3 => if b = true then te ρ2 h3 fun y h4 => lcI g tt te st ρ r (acc ++ [y]) h4 Q else lcI g tt te st ρ r acc h3 Q
def tLc3 (it : I3) (g : G3) (tt : B3) (te : E3) (vs : List Nat) : A3 := fun ρ h Q => it ρ h fun items st h1 => items.length ≤ 16777216 ∧ lcI g tt te st (wipe3 ρ vs) items [] h1 Q
def bYes : B3 := fun _ h Q => Q true h
/-- the ifs of a comprehension -/
structure PTs3 (X : Cx) (ifs : List Expr) (t : B3) : Prop where
  pe : PTs X ifs (LB X.K t)
  mono : MonoB t
theorem lcI_mono {g : G3} {tt : B3} {te : E3} (mg : ∀ d ρ h (Q Q' : S3 → Sto → Prop), (∀ ρ h, Q ρ h → Q' ρ h) → g d ρ h Q → g d ρ h Q') (mt : MonoB tt) (me : MonoE te) {st : Sto → Prop} {ρ : S3} {Q Q' : List D → Sto → Prop} (w : ∀ d h, Q d h → Q' d h) :
    ∀ xs acc h, lcI g tt te st ρ xs acc h Q → lcI g tt te st ρ xs acc h Q'
  | [], _, _, q => ⟨q.1, w _ _ q.2⟩
  | x :: r, acc, h, q => ⟨q.1, mg _ _ _ _ _ (fun ρ2 h2 q2 => mt _ _ _ _ (fun b h3 q3 => by
      cases b with
      | true => rw [if_pos rfl] at q3 ⊢; exact me _ _ _ _ (fun y h4 q4 => lcI_mono mg mt me w r _ _ q4) q3
      | false => rw [if_neg Bool.false_ne_true] at q3 ⊢; exact lcI_mono mg mt me w r _ _ q3) q2) q.2⟩
section
variable {K : PySem.W.Frag} {m m' : List Addr} {H H' : Hp} {h h' : Sto}
theorem Step.none (s : Step m H m' H') (R : Rep K m' h' H') {p : Addr} (hp : H' p = none) : H p = none := by
  cases z : H p with
  | none => rfl
  | some o =>
    by_cases hm : p ∈ m
    · obtain ⟨r, hr⟩ := s.pre
      exact absurd (show p ∈ m' by rw [hr]; exact List.mem_append_left _ hm) (R.nonone hp)
    · rw [s.keep p o hm z] at hp; cases hp
/-- a list that is no cell changes -/
theorem RelDs.putX (R : Rep K m h H) {p : Addr} {ys zs : List V} (e : H p = some (.lst ys)) {ds : List D} {vs : List V} (r : RelDs K m H ds vs) : RelDs K m (upd H p (.lst zs)) ds vs :=
  r.mono (fun _ _ e => e) (fun a xs q => by
    rw [upd_ne (ne_of q e (by simp))]; exact q) fun a xs q => by
    rcases q with ⟨o, q⟩ | q
    · exact .inl ⟨o, by rw [upd_ne (ne_of q e (by simp))]; exact q⟩
    · exact .inr q
theorem Rep.putX (R : Rep K m h H) {p : Addr} {ys zs : List V} (e : H p = some (.lst ys)) (hp : p ∉ m) : Rep K m h (upd H p (.lst zs)) := by
  refine ⟨R.len, R.nd, fun n a c h1 h2 => ?_⟩
  have ok := R.at_ n a c h1 h2
  have ne : a ≠ p := fun z => hp (by rw [← z]; exact List.mem_of_getElem? h1)
  cases c with
  | lst xs => obtain ⟨vs, q, r⟩ := ok; exact ⟨vs, by rw [upd_ne ne]; exact q, r.putX R e⟩
  | dK xs => obtain ⟨vs, q, k, r⟩ := ok; exact ⟨vs, by rw [upd_ne ne]; exact q, k, r.putX R e⟩
  | dT xs => obtain ⟨vs, q, k, r⟩ := ok; exact ⟨vs, by rw [upd_ne ne]; exact q, k, r.putX R e⟩
  | zK o vs xs => obtain ⟨q, k, r⟩ := ok; exact ⟨by rw [upd_ne ne]; exact q, k, r.putX R e⟩
  | zT o vs xs => obtain ⟨q, k, r⟩ := ok; exact ⟨by rw [upd_ne ne]; exact q, k, r.putX R e⟩
  | ins C xs => obtain ⟨dx, vs, q, k, r⟩ := ok; exact ⟨dx, vs, by rw [upd_ne ne]; exact q, k, r.putX R e⟩
end
section
variable {X : Cx}
theorem lc_lift {it : I3} {g : G3} {gV : TG} {tt : B3} {te : E3} {vs : List Nat} (mi : MonoI it) (mg : ∀ d ρ h (Q Q' : S3 → Sto → Prop), (∀ ρ h, Q ρ h → Q' ρ h) → g d ρ h Q → g d ρ h Q') (mt : MonoB tt) (me : MonoE te) (cg : CompG X.K vs gV g)
    {σ : L2.St} {H : Hp} {Q : VK} (q : LX X.K (tLc3 it g tt te vs) σ H Q) : tLc (LI X.K it) gV (LB X.K tt) (LE X.K te) vs σ H Q := by
  obtain ⟨m0, h0, ρ0, R0, S0, q⟩ := q
  refine LI.bind mi R0 S0 q fun m H1 J items st h s0 R sv S q => ?_
  obtain ⟨hsz, q⟩ := q
  intro P hP
  have na : H P = none := s0.none R hP
  refine ⟨fun i n H' => ∃ m' h' acc ws, Step m H1 m' H' ∧ Rep X.K m' h' H' ∧ P ∉ m' ∧ H' P = some (.lst ws) ∧ RelDs X.K m' H' acc ws ∧ i ≤ items.length ∧ n = items.length - i ∧ acc.length ≤ i ∧ lcI g tt te st (wipe3 ρ0 vs) (items.drop i) acc h' (UpX X.K m0 H Q),
    ⟨items.length, m, h, [], [], Step.lay hP, R.lay hP, R.nonone hP, upd_same, .nil, Nat.zero_le _, rfl, Nat.le_refl _, q⟩, ?_⟩
  rintro i n H2 ⟨m2, h2, acc, ws, s2, R2, nP, eP, racc, hi, hn, hacc, q2⟩
  by_cases hlt : i < items.length
  · have ed : items.drop i = items[i] :: items.drop (i + 1) := List.drop_eq_getElem_cons hlt
    rw [ed] at q2
    obtain ⟨hst, q2⟩ := q2
    obtain ⟨jg, jy⟩ := sv.go m2 H2 h2 s2 R2 hst i items[i] (List.getElem?_eq_getElem hlt)
    refine .inr ⟨jg, fun H' => ∃ m' h' acc ws, Step m H1 m' H' ∧ Rep X.K m' h' H' ∧ P ∉ m' ∧ H' P = some (.lst ws) ∧ RelDs X.K m' H' acc ws ∧ acc.length ≤ i + 1 ∧ lcI g tt te st (wipe3 ρ0 vs) (items.drop (i + 1)) acc h' (UpX X.K m0 H Q),
      fun H' ⟨m', h', acc, ws, z1, z2, z3, z4, z5, z6, z7⟩ => ⟨items.length - (i + 1), by omega, m', h', acc, ws, z1, z2, z3, z4, z5, hlt, rfl, z6, z7⟩, fun v H3 hy => ?_⟩
    obtain ⟨s3, R3, rx⟩ := jy v H3 hy
    have S3 : RelS X.K m2 H3 (wipe3 ρ0 vs) (L2.wipe σ vs) := ((S.step R s2).step R2 s3).wipes vs
    refine cg m2 h2 H3 _ _ _ v _ R3 S3 rx q2 _ fun σ4 ρ4 e4 S4 q4 => ⟨e4.trans (wipe_wipe vs), ?_⟩
    have eP3 : H3 P = some (.lst ws) := s3.keep _ _ nP eP
    refine LB.bind mt R3 S4 q4 fun m5 H5 b h5 s5 R5 S5 q5 => ?_
    have nP5 : P ∉ m5 := fun z => by
      have := s5.new P z nP
      rw [eP3] at this; cases this
    have eP5 : H5 P = some (.lst ws) := s5.keep _ _ nP eP3
    cases b with
    | false =>
      rw [if_neg Bool.false_ne_true] at q5 ⊢
      exact ⟨m5, h5, acc, ws, s2.trans (s3.trans s5), R5, nP5, eP5, (racc.step R2 s3).step R3 s5, by omega, q5⟩
    | true =>
      rw [if_pos rfl] at q5 ⊢
      refine LE.bind me R5 S5 q5 fun m6 H6 y d h6 s6 R6 rd S6 q6 => ?_
      have nP6 : P ∉ m6 := fun z => by
        have := s6.new P z nP5
        rw [eP5] at this; cases this
      have eP6 : H6 P = some (.lst ws) := s6.keep _ _ nP5 eP5
      have racc6 : RelDs X.K m6 H6 acc ws := ((racc.step R2 s3).step R3 s5).step R5 s6
      have hz : ws.length < sizeLine := by
        rw [← racc.length, sizeLine_eq]
        omega
      refine ⟨ws, eP6, hz, m6, h6, acc ++ [d], ws ++ [y], ?_, R6.putX eP6 nP6, nP6, upd_same, (racc6.append (.cons rd .nil)).putX R6 eP6, by simp; omega, q6⟩
      have s26 := s2.trans (s3.trans (s5.trans s6))
      refine ⟨s26.pre, fun c o hc e => ?_, s26.new⟩
      rw [upd_ne (ne_of_none e hP)]
      exact s26.keep c o hc e
  · rw [List.drop_eq_nil_of_le (by omega)] at q2
    refine .inl ⟨sv.stop m2 H2 h2 s2 R2 q2.1 i (by omega), ?_⟩
    exact q2.2 m2 H2 P ws (s0.trans s2) R2 eP na nP racc
theorem x3_lc {elt tg iter : Expr} {ifs : List Expr} {scope : Scope} {own : List (Str × Nat)} {pos : Pos} {it : I3} {g : G3} {gV : TG} {tt : B3} {te : E3} (hc : X.calm = true) (hN : X.N.Nodup) (hi : PI3 X tg iter it) (ok : BlkOk X.N X.env.scope scope own) (cg : CompG X.K (own.map (·.2)) gV g)
    (mg : ∀ d ρ h (Q Q' : S3 → Sto → Prop), (∀ ρ h, Q ρ h → Q' ρ h) → g d ρ h Q → g d ρ h Q')
    (hg : ∀ (s : Shared) (H : Hp) (C : Addr) (cl : List (Str × Addr)) (fp : List Addr), PG (X.blk s H scope (compEnvC scope cl C X.env) fp) tg gV)
    (ht : ∀ (s : Shared) (H : Hp) (C : Addr) (cl : List (Str × Addr)) (fp : List Addr), PTs3 (X.blk s H scope (compEnvC scope cl C X.env) fp) ifs tt)
    (he : ∀ (s : Shared) (H : Hp) (C : Addr) (cl : List (Str × Addr)) (fp : List Addr), PE3 (X.blk s H scope (compEnvC scope cl C X.env) fp) elt te) (hs : ∀ x, foldedSetIterable iter X.env x = pure x := by intro _; rfl) :
    PX3 X (.ListComp elt [⟨tg, iter, ifs, 0⟩] scope pos) (tLc3 it g tt te (own.map (·.2))) := by
  have me : MonoE te := (he X.s_0 X.H_0 0 [] []).mono
  have mt : MonoB tt := (ht X.s_0 X.H_0 0 [] []).mono
  refine ⟨PE.weak (pe_lc (tt := LB X.K tt) hc hN hi.pe ok hg (fun s H C cl fp => (ht s H C cl fp).pe) (fun s H C cl fp => (he s H C cl fp).pe) hs) fun σ H Q q => lc_lift hi.mono mg mt me cg q, fun ρ h Q Q' w q => hi.mono _ _ _ _ (fun xs st h1 q1 => ⟨q1.1, lcI_mono mg mt me w _ _ _ q1.2⟩) q⟩
end
end F3
/-! FE: y = [..], calls, defs, the store made smaller behind a def, the law's end. -/
namespace F3
open PySem PySem.Spec PyProof.Rows L2

section
variable {X : Cx}
theorem MonoB.yes : MonoB bYes := fun ρ h Q Q' w q => w _ _ q
theorem pts3_nil : PTs3 X [] bYes := ⟨⟨fun pins s σ H Q I h => pts_nil.run pins s σ H Q I (by
  obtain ⟨m, st, ρ, R, S, q⟩ := h
  exact q m H .refl R)⟩, MonoB.yes⟩
theorem pts3_one {c : Expr} {t : B3} (h : PB3 X c t) : PTs3 X [c] t := ⟨pts_one h.pe, h.mono⟩
theorem c3_setLc (i : Nat) {y : Str} {py : Pos} {elt tg iter : Expr} {ifs : List Expr} {scope : Scope} {own : List (Str × Nat)} {pos spos : Pos} {it : I3} {g : G3} {gV : TG} {tt : B3} {te : E3} (hc : X.calm = true) (hN : X.N.Nodup) (hi : PI3 X tg iter it) (ok : BlkOk X.N X.env.scope scope own) (cg : CompG X.K (own.map (·.2)) gV g)
    (mg : ∀ d ρ h (Q Q' : S3 → Sto → Prop), (∀ ρ h, Q ρ h → Q' ρ h) → g d ρ h Q → g d ρ h Q')
    (hg : ∀ (s : Shared) (H : Hp) (C : Addr) (cl : List (Str × Addr)) (fp : List Addr), PG (X.blk s H scope (compEnvC scope cl C X.env) fp) tg gV)
    (ht : ∀ (s : Shared) (H : Hp) (C : Addr) (cl : List (Str × Addr)) (fp : List Addr), PTs3 (X.blk s H scope (compEnvC scope cl C X.env) fp) ifs tt)
    (he : ∀ (s : Shared) (H : Hp) (C : Addr) (cl : List (Str × Addr)) (fp : List Addr), PE3 (X.blk s H scope (compEnvC scope cl C X.env) fp) elt te) (hy : X.N[i]? = some y := by rfl) (hyl : X.env.scope.names.lookup y = some .local := by rfl)
    (hsw : swapsWith (.ListComp elt [⟨tg, iter, ifs, 0⟩] scope pos) (some (.Name y py)) spos.line X.env = pure true := by exact sw_true rfl rfl rfl (by decide +kernel)) (hs : ∀ x, foldedSetIterable iter X.env x = pure x := by intro _; rfl) :
    PC3 X (.Assign [.Name y py] (.ListComp elt [⟨tg, iter, ifs, 0⟩] scope pos) spos) (cAsg (tNew (tLc3 it g tt te (own.map (·.2)))) (gN i)) := by
  have me : MonoE te := (he X.s_0 X.H_0 0 [] []).mono
  have mt : MonoB tt := (ht X.s_0 X.H_0 0 [] []).mono
  have ma : MonoA (tLc3 it g tt te (own.map (·.2))) := fun ρ h Q Q' w q => hi.mono _ _ _ _ (fun xs st h1 q1 => ⟨q1.1, lcI_mono mg mt me w _ _ _ q1.2⟩) q
  refine ⟨PS.weak (ps_setLc (te := LE X.K te) (tt := LB X.K tt) hc hN hy hyl hsw hi.pe ok hg (fun s H C cl fp => (ht s H C cl fp).pe) (fun s H C cl fp => (he s H C cl fp).pe) hs) fun D σ H ⟨m, h, ρ, R, S, q⟩ => ?_, fun D D' ρ h w q => (MonoE.newl ma) _ _ _ _ (fun _ _ q => w.nx _ _ q) q⟩
  refine lc_lift hi.mono mg mt me cg (new_lift ma (LE.bind (MonoE.newl ma) R S q fun m1 H1 v x h1 s1 R1 rx S1 q1 => ?_))
  exact q1 m1 H1 _ s1 R1 (S1.set rx i)
end

/-! ### defs -/
abbrev X3 := Value → Sto → Prop
abbrev Sp3 := List D → Sto → DK → X3 → Prop
def UpE (K : PySem.W.Frag) (m : List Addr) (H : Hp) (E : XK) : X3 := fun c h' => ∀ m' H', Step m H m' H' → Rep K m' h' H' → E c none H'
def LSp (K : PySem.W.Frag) (sp : Sp3) : Sp := fun vs H Q E => ∃ m h ds, Rep K m h H ∧ RelDs K m H ds vs ∧ sp ds h (Up K m H Q) (UpE K m H E)
def MonoS (sp : Sp3) : Prop := ∀ ds h (Q Q' : DK) (E E' : X3), (∀ d h', Q d h' → Q' d h') → (∀ c h', E c h' → E' c h') → sp ds h Q E → sp ds h Q' E'
def start3 (n : Nat) (ds : List D) : S3 := ds.map some ++ List.replicate (n - ds.length) none
def ends3 (Q : DK) : Ends3 := ⟨fun _ h => Q .non h, Q, fun _ _ => False, fun _ _ => False⟩
theorem relS_start {K : PySem.W.Frag} {m : List Addr} {H : Hp} {ds : List D} {vs : List V} {N : List Str} (r : RelDs K m H ds vs) : RelS K m H (start3 N.length ds) (L2.start N vs) := by
  have hl := r.length
  refine ⟨by simp [start3, L2.start, hl], fun i d e => ?_⟩
  unfold start3 at e
  unfold L2.start
  by_cases hi : i < ds.length
  · rw [List.getElem?_append_left (by simpa using hi), List.getElem?_map] at e
    obtain ⟨x, hx, e2⟩ := Option.map_eq_some_iff.mp e
    cases e2
    obtain ⟨v, ev, rv⟩ := r.get hx
    exact ⟨v, by rw [List.getElem?_append_left (by simpa [← hl] using hi), List.getElem?_map, ev]; rfl, rv⟩
  · rw [List.getElem?_append_right (by simpa using hi), List.getElem?_replicate] at e
    split at e <;> cases e
/-! ### closed values, the store made smaller -/
mutual
def ClD (n : Nat) : D → Prop
  | .ref k => k < n
  | .tup xs => ClDs n xs
  | .fl xs => ClDs n xs
  | .non => True
  | .bl _ => True
  | .int _ => True
  | .str _ => True
  | .ty _ => True
  | .adr _ => True
def ClDs (n : Nat) : List D → Prop
  | [] => True
  | x :: xs => ClD n x ∧ ClDs n xs
end
def ClC (n : Nat) : Cell → Prop
  | .lst xs => ClDs n xs
  | .dK kvs => ClDs n (kvs.map (·.2))
  | .dT kvs => ClDs n (kvs.map (·.2))
  | .zK _ _ kvs => ClDs n (kvs.map (·.2))
  | .zT _ _ kvs => ClDs n (kvs.map (·.2))
  | .ins _ fs => ClDs n (fs.map (·.2))
/-- every cell refers to cells of the store alone -/
def ClS (n : Nat) (h : Sto) : Prop := ∀ c ∈ h, ClC n c
section
variable {K : PySem.W.Frag} {m : List Addr} {H : Hp}
mutual
theorem RelD.cl : ∀ {d : D} {v : V}, RelD K m H d v → ClD m.length d
  | _, _, .non => by simp only [ClD]
  | _, _, .bl _ => by simp only [ClD]
  | _, _, .int _ => by simp only [ClD]
  | _, _, .str _ => by simp only [ClD]
  | _, _, .ty _ => by simp only [ClD]
  | _, _, .adr _ => by simp only [ClD]
  | _, _, .ref e => by simp only [ClD]; exact (List.getElem?_eq_some_iff.mp e).1
  | _, _, .tup _ r => by simp only [ClD]; exact RelDs.cl r
  | _, _, .fl _ r => by simp only [ClD]; exact RelDs.cl r
theorem RelDs.cl : ∀ {d : List D} {v : List V}, RelDs K m H d v → ClDs m.length d
  | _, _, .nil => by simp only [ClDs]
  | _, _, .cons r t => by simp only [ClDs]; exact ⟨RelD.cl r, RelDs.cl t⟩
end
theorem Rep.cl {h : Sto} (R : Rep K m h H) : ClS h.length h := fun c hc => by
  obtain ⟨n, hn⟩ := List.mem_iff_getElem?.mp hc
  have hl : n < m.length := by rw [R.len]; exact (List.getElem?_eq_some_iff.mp hn).1
  have ok := R.at_ n _ c (List.getElem?_eq_getElem hl) hn
  rw [← R.len]
  cases c with
  | lst xs => obtain ⟨vs, _, r⟩ := ok; exact r.cl
  | dK xs => obtain ⟨vs, _, _, r⟩ := ok; exact r.cl
  | dT xs => obtain ⟨vs, _, _, r⟩ := ok; exact r.cl
  | zK o vs xs => obtain ⟨_, _, r⟩ := ok; exact r.cl
  | zT o vs xs => obtain ⟨_, _, r⟩ := ok; exact r.cl
  | ins C xs => obtain ⟨dx, vs, _, _, r⟩ := ok; exact r.cl
-- the values under another numbering of the cells: r tells the old number of each
mutual
inductive RenD (r : List Nat) : D → D → Prop
  | non : RenD r .non .non
  | bl (b : Bool) : RenD r (.bl b) (.bl b)
  | int (i : Int) : RenD r (.int i) (.int i)
  | str (x : Str) : RenD r (.str x) (.str x)
  | ty (n : String) : RenD r (.ty n) (.ty n)
  | adr (a : Addr) : RenD r (.adr a) (.adr a)
  | ref {i j : Nat} : r[i]? = some j → RenD r (.ref i) (.ref j)
  | tup {xs ys : List D} : RenDs r xs ys → RenD r (.tup xs) (.tup ys)
  | fl {xs ys : List D} : RenDs r xs ys → RenD r (.fl xs) (.fl ys)
inductive RenDs (r : List Nat) : List D → List D → Prop
  | nil : RenDs r [] []
  | cons {d e : D} {ds es : List D} : RenD r d e → RenDs r ds es → RenDs r (d :: ds) (e :: es)
end
mutual
theorem RenD.rel {r : List Nat} {m2 : List Addr} (hm : ∀ i j : Nat, r[i]? = some j → ∀ a, m[j]? = some a → m2[i]? = some a) : ∀ {d e : D} {v : V}, RenD r d e → RelD K m H e v → RelD K m2 H d v
  | _, _, _, .non, .non => .non
  | _, _, _, .bl _, .bl _ => .bl _
  | _, _, _, .int _, .int _ => .int _
  | _, _, _, .str _, .str _ => .str _
  | _, _, _, .ty _, .ty _ => .ty _
  | _, _, _, .adr _, .adr _ => .adr _
  | _, _, _, .ref e, .ref f => .ref (hm _ _ e _ f)
  | _, _, _, .tup e, .tup s f => .tup s (RenDs.rel hm e f)
  | _, _, _, .fl e, .fl s f => .fl s (RenDs.rel hm e f)
theorem RenDs.rel {r : List Nat} {m2 : List Addr} (hm : ∀ i j : Nat, r[i]? = some j → ∀ a, m[j]? = some a → m2[i]? = some a) : ∀ {d e : List D} {v : List V}, RenDs r d e → RelDs K m H e v → RelDs K m2 H d v
  | _, _, _, .nil, .nil => .nil
  | _, _, _, .cons e t, .cons f u => .cons (RenD.rel hm e f) (RenDs.rel hm t u)
end
mutual
theorem RenD.refl {r : List Nat} {n : Nat} (hr : ∀ i, i < n → r[i]? = some i) : ∀ {d : D}, ClD n d → RenD r d d
  | .non, _ => .non
  | .bl _, _ => .bl _
  | .int _, _ => .int _
  | .str _, _ => .str _
  | .ty _, _ => .ty _
  | .adr _, _ => .adr _
  | .ref k, h => .ref (hr k (by simpa only [ClD] using h))
  | .tup xs, h => .tup (RenDs.refl hr (by simpa only [ClD] using h))
  | .fl xs, h => .fl (RenDs.refl hr (by simpa only [ClD] using h))
theorem RenDs.refl {r : List Nat} {n : Nat} (hr : ∀ i, i < n → r[i]? = some i) : ∀ {d : List D}, ClDs n d → RenDs r d d
  | [], _ => .nil
  | x :: xs, h => by
    simp only [ClDs] at h
    exact .cons (RenD.refl hr h.1) (RenDs.refl hr h.2)
end
def RenC (r : List Nat) : Cell → Cell → Prop
  | .lst xs, .lst ys => RenDs r xs ys
  | .dK xs, .dK ys => xs.map (·.1) = ys.map (·.1) ∧ RenDs r (xs.map (·.2)) (ys.map (·.2))
  | .dT xs, .dT ys => xs.map (·.1) = ys.map (·.1) ∧ RenDs r (xs.map (·.2)) (ys.map (·.2))
  | .zK o vs xs, .zK o' vs' ys => (o = o' ∧ vs = vs') ∧ xs.map (·.1) = ys.map (·.1) ∧ RenDs r (xs.map (·.2)) (ys.map (·.2))
  | .zT o vs xs, .zT o' vs' ys => (o = o' ∧ vs = vs') ∧ xs.map (·.1) = ys.map (·.1) ∧ RenDs r (xs.map (·.2)) (ys.map (·.2))
  | .ins C xs, .ins C' ys => C = C' ∧ xs.map (·.1) = ys.map (·.1) ∧ RenDs r (xs.map (·.2)) (ys.map (·.2))
  | _, _ => False
/-- (d2, h2) is (d, h) with some cells left out and others numbered anew, the first n as they were -/
def Gc (n : Nat) (d : D) (h : Sto) (d2 : D) (h2 : Sto) : Prop := ∃ r : List Nat, r.length = h2.length ∧ r.Nodup ∧ n ≤ r.length ∧ (∀ i, i < n → r[i]? = some i) ∧ (∀ i ∈ r, i < h.length) ∧ RenD r d2 d ∧
  ∀ (i j : Nat) (c2 c : Cell), r[i]? = some j → h2[i]? = some c2 → h[j]? = some c → RenC r c2 c
theorem Gc.lift {n : Nat} {d d2 : D} {h h2 : Sto} {m0 : List Addr} {H0 : Hp} {v : V} (g : Gc n d h d2 h2) (hn : n = m0.length) (s : Step m0 H0 m H) (R : Rep K m h H) (rd : RelD K m H d v) : ∃ m2, Step m0 H0 m2 H ∧ Rep K m2 h2 H ∧ RelD K m2 H d2 v := by
  obtain ⟨r, hl, nd, hnr, hid, hlt, rn, hc⟩ := g
  have hget : ∀ j ∈ r, ∃ a, m[j]? = some a := fun j hj => ⟨_, List.getElem?_eq_getElem (by rw [R.len]; exact hlt j hj)⟩
  -- the picked addresses
  have pick : ∀ q : List Nat, (∀ j ∈ q, ∃ a, m[j]? = some a) → ∃ m2 : List Addr, m2.length = q.length ∧ ∀ i : Nat, m2[i]? = (q[i]?).bind (fun j => m[j]?) := by
    intro q
    induction q with
    | nil => exact fun _ => ⟨[], rfl, fun i => by simp⟩
    | cons j q ih =>
      intro hq
      obtain ⟨a, ha⟩ := hq j List.mem_cons_self
      obtain ⟨m2, h1, h2⟩ := ih fun k hk => hq k (List.mem_cons_of_mem _ hk)
      refine ⟨a :: m2, by simp [h1], fun i => ?_⟩
      cases i with
      | zero => simp [ha]
      | succ i => simpa using h2 i
  obtain ⟨m2, h1, h2'⟩ := pick r hget
  have hm : ∀ i j : Nat, r[i]? = some j → ∀ a, m[j]? = some a → m2[i]? = some a := fun i j e a f => by rw [h2', e]; exact f
  have mem : ∀ a ∈ m2, a ∈ m := fun a ha => by
    obtain ⟨i, hi⟩ := List.mem_iff_getElem?.mp ha
    rw [h2'] at hi
    obtain ⟨j, _, hj⟩ := Option.bind_eq_some_iff.mp hi
    exact List.mem_of_getElem? hj
  obtain ⟨rest, hr⟩ := s.pre
  refine ⟨m2, ⟨⟨m2.drop n, ?_⟩, s.keep, fun a ha hn => s.new a (mem a ha) hn⟩, ⟨by rw [h1, hl], ?_, fun i a c e1 e2 => ?_⟩, rn.rel hm rd⟩
  · have : m2.take n = m0 := by
      apply List.ext_getElem?
      intro i
      by_cases hi : i < n
      · rw [List.getElem?_take_of_lt hi, h2', hid i hi]
        show m[i]? = _
        rw [hr, List.getElem?_append_left (by omega)]
      · rw [List.getElem?_eq_none (by rw [List.length_take]; omega), List.getElem?_eq_none (by omega)]
    calc m2 = m2.take n ++ m2.drop n := (List.take_append_drop n m2).symm
      _ = m0 ++ m2.drop n := by rw [this]
  · show m2.Pairwise (· ≠ ·)
    rw [List.pairwise_iff_getElem]
    intro i j hi0 hj0 hij e
    have hi' : i < r.length := by omega
    have hj' : j < r.length := by omega
    have e1 : m2[i]? = m2[j]? := by rw [List.getElem?_eq_getElem hi0, List.getElem?_eq_getElem hj0, e]
    rw [h2', h2', List.getElem?_eq_getElem hi', List.getElem?_eq_getElem hj'] at e1
    simp only [Option.bind_some] at e1
    obtain ⟨a, ha⟩ := hget r[i] (List.getElem_mem _)
    have z := nodup_ix' R.nd ha (e1 ▸ ha)
    have z2 := (List.getElem_inj nd).mp z
    omega
  · rw [h2'] at e1
    obtain ⟨j, ej, hj⟩ := Option.bind_eq_some_iff.mp e1
    have hjl : j < h.length := hlt j (List.mem_of_getElem? ej)
    have ok := R.at_ j a _ hj (List.getElem?_eq_getElem hjl)
    have rc := hc i j c h[j] ej e2 (List.getElem?_eq_getElem hjl)
    revert ok rc
    generalize h[j] = c'
    intro ok rc
    cases c with
    | lst xs =>
      cases c' with
      | lst ys => obtain ⟨vs, q, r'⟩ := ok; exact ⟨vs, q, RenDs.rel hm rc r'⟩
      | _ => exact rc.elim
    | dK xs =>
      cases c' with
      | dK ys => obtain ⟨vs, q, k, r'⟩ := ok; exact ⟨vs, q, k.trans rc.1.symm, RenDs.rel hm rc.2 r'⟩
      | _ => exact rc.elim
    | dT xs =>
      cases c' with
      | dT ys => obtain ⟨vs, q, k, r'⟩ := ok; exact ⟨vs, q, k.trans rc.1.symm, RenDs.rel hm rc.2 r'⟩
      | _ => exact rc.elim
    | zK o vs xs =>
      cases c' with
      | zK o' vs' ys => obtain ⟨⟨rfl, rfl⟩, rc⟩ := rc; obtain ⟨q, k, r'⟩ := ok; exact ⟨q, k.trans rc.1.symm, RenDs.rel hm rc.2 r'⟩
      | _ => exact rc.elim
    | zT o vs xs =>
      cases c' with
      | zT o' vs' ys => obtain ⟨⟨rfl, rfl⟩, rc⟩ := rc; obtain ⟨q, k, r'⟩ := ok; exact ⟨q, k.trans rc.1.symm, RenDs.rel hm rc.2 r'⟩
      | _ => exact rc.elim
    | ins C xs =>
      cases c' with
      | ins C' ys => obtain ⟨dx, vs, q, k, r'⟩ := ok; exact ⟨dx, vs, by rw [rc.1]; exact q, k.trans rc.2.1.symm, RenDs.rel hm rc.2.2 r'⟩
      | _ => exact rc.elim
end

theorem Gc.refl {n : Nat} {d : D} {h : Sto} (hn : n ≤ h.length) (hd : ClD h.length d) (hs : ClS h.length h) : Gc n d h d h := by
  have hr : ∀ i, i < h.length → (List.range h.length)[i]? = some i := fun i hi => List.getElem?_range hi
  refine ⟨List.range h.length, by simp, List.nodup_range, by simpa using hn, fun i hi => hr i (by omega), fun i hi => by simpa using hi, RenD.refl hr hd, fun i j c2 c e1 e2 e3 => ?_⟩
  have hi : i < h.length := (List.getElem?_eq_some_iff.mp e2).1
  rw [hr i hi] at e1; cases e1
  rw [e2] at e3; cases e3
  have hc := hs c2 (List.mem_of_getElem? e2)
  cases c2 with
  | lst xs => exact RenDs.refl hr hc
  | dK xs => exact ⟨rfl, RenDs.refl hr hc⟩
  | dT xs => exact ⟨rfl, RenDs.refl hr hc⟩
  | zK o vs xs => exact ⟨⟨rfl, rfl⟩, rfl, RenDs.refl hr hc⟩
  | zT o vs xs => exact ⟨⟨rfl, rfl⟩, rfl, RenDs.refl hr hc⟩
  | ins C xs => exact ⟨rfl, rfl, RenDs.refl hr hc⟩
theorem RenC.refl {r : List Nat} {n : Nat} (hr : ∀ i, i < n → r[i]? = some i) {c : Cell} (hc : ClC n c) : RenC r c c := by
  cases c with
  | lst xs => exact RenDs.refl hr hc
  | dK xs => exact ⟨rfl, RenDs.refl hr hc⟩
  | dT xs => exact ⟨rfl, RenDs.refl hr hc⟩
  | zK o vs xs => exact ⟨⟨rfl, rfl⟩, rfl, RenDs.refl hr hc⟩
  | zT o vs xs => exact ⟨⟨rfl, rfl⟩, rfl, RenDs.refl hr hc⟩
  | ins C xs => exact ⟨rfl, rfl, RenDs.refl hr hc⟩
/-- the cells behind the first n are left out -/
theorem Gc.tail {d : D} {h g : Sto} (hd : ClD h.length d) (hs : ClS h.length h) : Gc h.length d (h ++ g) d h := by
  have hr : ∀ i, i < h.length → (List.range h.length)[i]? = some i := fun i hi => List.getElem?_range hi
  refine ⟨List.range h.length, by simp, List.nodup_range, by simp, hr, fun i hi => ?_, RenD.refl hr hd, fun i j c2 c e1 e2 e3 => ?_⟩
  · have := List.mem_range.mp hi
    rw [List.length_append]; omega
  · have hi : i < h.length := (List.getElem?_eq_some_iff.mp e2).1
    rw [hr i hi] at e1; cases e1
    rw [List.getElem?_append_left hi] at e3
    rw [e2] at e3; cases e3
    exact RenC.refl hr (hs _ (List.mem_of_getElem? e2))
/-- of the cells behind the first n one alone is left -/
theorem Gc.one {h g : Sto} {k : Nat} {xs : List D} (hk : g[k]? = some (.lst xs)) (hx : ClDs h.length xs) (hs : ClS h.length h) : Gc h.length (.ref (h.length + k)) (h ++ g) (.ref h.length) (h ++ [.lst xs]) := by
  have hkl : k < g.length := (List.getElem?_eq_some_iff.mp hk).1
  have hr : ∀ i, i < h.length → (List.range h.length ++ [h.length + k])[i]? = some i := fun i hi => by
    rw [List.getElem?_append_left (by simpa using hi)]
    exact List.getElem?_range hi
  refine ⟨List.range h.length ++ [h.length + k], by simp, ?_, by simp, hr, fun i hi => ?_, .ref (by rw [List.getElem?_append_right (by simp)]; simp), fun i j c2 c e1 e2 e3 => ?_⟩
  · rw [List.nodup_append]
    refine ⟨List.nodup_range, by simp, fun x hx y hy => ?_⟩
    have := List.mem_range.mp hx
    have e : y = h.length + k := by simpa using hy
    omega
  · rcases List.mem_append.mp hi with z | z
    · have := List.mem_range.mp z
      rw [List.length_append]; omega
    · have e : i = h.length + k := by simpa using z
      rw [List.length_append]; omega
  · by_cases hi : i < h.length
    · rw [hr i hi] at e1; cases e1
      rw [List.getElem?_append_left hi] at e2 e3
      rw [e2] at e3; cases e3
      exact RenC.refl hr (hs _ (List.mem_of_getElem? e2))
    · have hi2 : i = h.length := by
        have := (List.getElem?_eq_some_iff.mp e2).1
        rw [List.length_append, List.length_singleton] at this
        omega
      subst hi2
      rw [List.getElem?_append_right (by simp)] at e1
      simp at e1
      subst e1
      rw [List.getElem?_append_right (by omega)] at e2 e3
      simp at e2
      subst e2
      rw [show h.length + k - h.length = k by omega, hk] at e3
      cases e3
      exact RenDs.refl hr hx

/-- what is wanted behind a def: of the value and the store, made smaller as one likes -/
def GQ (n : Nat) (Q : DK) : DK := fun d h => Q d h ∨ ∃ d2 h2, Gc n d h d2 h2 ∧ Q d2 h2
section
variable {P : Program} {w : World} {K : PySem.W.Frag} {mg : Str → Option Value} {base : Heap}
theorem fn3 {x qual : Str} {st : Stmt} {f : Addr} {fd : FuncData} {N ps : List Str} {k : Nat} {sp : Sp3} {t : C3} (F : Fun K x qual st f fd) (S : FnScope N ps (defScope st)) (len : ∀ ds h Q E, sp ds h Q E → ds.length = ps.length)
    (dv : ∀ (cdv : Value) (A : Around) (outer : List Env) (s : Shared) (H : Hp) (E : XK), Room k (A.deeper (envOfC qual (defScope st) s.heap.objs.size f cdv)) →
      PCs3 (cxOf CX0 P w K mg base N qual (defScope st) f cdv A outer s H E).nox (defBody st) t)
    (rd : ∀ ds h Q E, ClS h.length h → ClDs h.length ds → sp ds h Q E → t (ends3 (GQ h.length Q)) (start3 N.length ds) h) : FnOk P w K mg base CX0 (k + 1) f fd ps (LSp K sp) := by
  refine F.ok S (fun vs H Q E ⟨m, h, ds, R, rs, q⟩ => by rw [← rs.length]; exact len _ _ _ _ q) fun cdv A outer s H vs Q E hr ⟨m, h, ds, R, rs, q⟩ => ?_
  have d := dv cdv A outer s H E hr
  refine ⟨_, d.pe, m, h, _, R, relS_start rs, d.mono (ends3 (GQ h.length (Up K m H Q))) _ _ _ ⟨fun ρ h' g => ?_, fun v h' g => ?_, fun _ _ z => z.elim, fun _ _ z => z.elim⟩ (rd ds h _ _ R.cl (by rw [← R.len]; exact rs.cl) q)⟩
  · intro m' H' σ' s' R' S'
    rcases g with g | ⟨d2, h2, gc, g⟩
    · exact g m' H' .non s' R' .non
    · obtain ⟨m2, s2, R2, r2⟩ := gc.lift R.len.symm s' R' .non
      exact g m2 H' .non s2 R2 r2
  · intro m' H' u s' R' ru
    rcases g with g | ⟨d2, h2, gc, g⟩
    · exact g m' H' u s' R' ru
    · obtain ⟨m2, s2, R2, r2⟩ := gc.lift R.len.symm s' R' ru
      exact g m2 H' u s2 R2 r2
/-- a def of the module, by its promise -/
structure Fn3 (P : Program) (w : World) (K : PySem.W.Frag) (mg : Str → Option Value) (base : Heap) (x : Str) (k : Nat) (ps : List Str) (sp : Sp3) : Prop where
  ex : ∃ f fd, mg x = some (.ref f) ∧ PySem.W.keepIn K (.ref f) = true ∧ Binds K fd ps [] ∧ FnOk P w K mg base CX0 k f fd ps (LSp K sp)
  mono : MonoS sp
end
def tCall3 (sp : Sp3) (ta : A3) : E3 := fun ρ h Q => ta ρ h fun ds h1 => sp ds h1 Q (fun _ _ => False)
section
variable {X : Cx}
theorem e3_call {x : Str} {k n : Nat} {ps : List Str} {sp : Sp3} {e : Expr} {es : List Expr} {ta : A3} {p pos : Pos} (F : Fn3 X.prog X.w X.K X.mg X.base x k ps sp) (hr : Room n X.A) (ha : PA3 X (e :: es) ta) (hk : k ≤ n := by decide) (hg : Gl X x := by rfl)
    (hdb : (x == ("__debug__" : Str)) = false := by decide) (he : starEach (e :: es) X.env = (false, eval e X.env) :: starEach es X.env := by rfl) (hpl : (backTo pos (starEach es X.env)).any (·.1) = false := by rfl) :
    PE3 X (.Call (.Name x p) (e :: es) [] pos) (tCall3 sp ta) := by
  obtain ⟨f, fd, hm, kp, hb, F0⟩ := F.ex
  refine ⟨PE.weak (pe_call F0 (hr.mono hk) hg hm kp hb .nil pass0 ha.pe hdb he hpl) fun σ H Q ⟨m, h, ρ, R, S, q⟩ => ?_, fun ρ h Q Q' w q => ha.mono _ _ _ _ (fun ds h1 q1 => F.mono _ _ _ _ _ _ w (fun _ _ z => z) q1) q⟩
  refine LA.bind ha.mono R S q fun m1 H1 vs ds h1 s1 R1 rs S1 q1 => ?_
  rw [List.append_nil]
  exact ⟨m1, h1, ds, R1, rs, F.mono _ _ _ _ _ _ (fun d h' u => Up.step s1 u) (fun _ _ z => z.elim) q1⟩
theorem e3_call0 {x : Str} {k n : Nat} {ps : List Str} {sp : Sp3} {p pos : Pos} (F : Fn3 X.prog X.w X.K X.mg X.base x k ps sp) (hr : Room n X.A) (hk : k ≤ n := by decide) (hg : Gl X x := by rfl)
    (hdb : (x == ("__debug__" : Str)) = false := by decide) : PE3 X (.Call (.Name x p) [] [] pos) (tCall3 sp tN3) := by
  obtain ⟨f, fd, hm, kp, hb, F0⟩ := F.ex
  refine ⟨PE.weak (pe_call0 F0 (hr.mono hk) hg hm kp hb .nil pass0 hdb) fun σ H Q ⟨m, h, ρ, R, S, q⟩ => ?_, fun ρ h Q Q' w q => F.mono _ _ _ _ _ _ w (fun _ _ z => z) q⟩
  exact ⟨m, h, [], R, .nil, F.mono _ _ _ _ _ _ (fun d h' u => u) (fun _ _ z => z.elim) q⟩
end
/-- the script -/
theorem script3 {K : PySem.W.Frag} {H : Hp} {a : Addr} {ns : List Int} (o : Only H) (s : SqL K H a (ns.map V.int)) : RelD K [] H (.fl (ns.map D.int)) (.ref a) := by
  refine .fl (vs := ns.map V.int) ?_ ?_
  · rcases s with (s | ⟨b, s⟩) | s
    · rcases o a with z | ⟨b, xs, z⟩
      · rw [z] at s; cases s
      · rw [z] at s; cases s
    · exact .inl ⟨b, s⟩
    · exact .inr s
  · induction ns with
    | nil => exact .nil
    | cons n r ih => exact .cons (.int n) (by
        have : ∀ r : List Int, RelDs K [] H (r.map D.int) (r.map V.int) := fun r => by
          induction r with
          | nil => exact .nil
          | cons n r ih => exact .cons (.int n) ih
        exact this r)
end F3
/-! FF: operators, subscripts, slices, built-ins over plain values. -/
namespace F3
open PySem PySem.Spec PyProof.Rows L2

/-! ### ints -/
def addR : R3 := fun x y h Q => match x, y with
  | .int i, .int j => Q (.int (i + j)) h
  | .str a, .str b => a.length + b.length ≤ 16777216 ∧ Q (.str (a ++ b)) h
  | .tup xs, .tup ys => xs ≠ [] ∧ xs.length + ys.length ≤ 16777216 ∧ Q (.tup (xs ++ ys)) h
  | .ref a, .ref b => match h[a]?, h[b]? with
    | some (.lst xs), some (.lst ys) => xs.length + ys.length ≤ 16777216 ∧ Q (.ref h.length) (h ++ [.lst (xs ++ ys)])
    | _, _ => False
  | _, _ => False
def subR : R3 := fun x y h Q => match x, y with
  | .int i, .int j => Q (.int (i - j)) h
  | _, _ => False
def mulOk (i j : Int) : Prop := IntMulOk i j
theorem mulOk_l {i j : Int} (h : -(2 ^ 64) < i ∧ i < 2 ^ 64) : mulOk i j := .of_left (intBits_le_64 h.1 h.2)
theorem mulOk_r {i j : Int} (h : -(2 ^ 64) < j ∧ j < 2 ^ 64) : mulOk i j := .of_right (intBits_le_64 h.1 h.2)
theorem mulOk_w {i j : Int} {a b : Nat} (ha : i.natAbs < 2 ^ a) (hb : j.natAbs < 2 ^ b) (h : a + b ≤ 134217728) : mulOk i j := CMulX.ok (mulx_ok ha hb h)
def mulR : R3 := fun x y h Q => match x, y with
  | .int i, .int j => mulOk i j ∧ Q (.int (i * j)) h
  | .ref a, .int k => match h[a]? with
    | some (.lst xs) => (-(2 ^ 63) ≤ k ∧ k < 2 ^ 63 ∧ xs.length * k.toNat ≤ 16777216) ∧ Q (.ref h.length) (h ++ [.lst (List.replicate k.toNat xs).flatten])
    | _ => False
  | _, _ => False
def divOk (j : Int) : Prop := 0 < j ∧ j.natAbs.log2 < 9000
theorem divOk_of {j : Int} (h0 : 0 < j) (h : j < 2 ^ 8000) : divOk j := ⟨h0, by
  have : j.natAbs < 2 ^ 8000 := by omega
  exact Nat.lt_of_lt_of_le (PySem.Flt.log2_lt_of (by decide) this) (by decide)⟩
def divR : R3 := fun x y h Q => match x, y with
  | .int i, .int j => divOk j ∧ Q (.int (i / j)) h
  | _, _ => False
def modR : R3 := fun x y h Q => match x, y with
  | .int i, .int j => 0 < j ∧ Q (.int (i % j)) h
  | _, _ => False
def powR : R3 := fun x y h Q => match x, y with
  | .int i, .int j => (0 ≤ j ∧ j ≤ 1000000 ∧ i.natAbs < 2 ^ 64) ∧ Q (.int (i ^ j.toNat)) h
  | _, _ => False
def ltR : R3 := fun x y h Q => match x, y with
  | .int i, .int j => Q (.bl (decide (i < j))) h
  | _, _ => False
def leR : R3 := fun x y h Q => match x, y with
  | .int i, .int j => Q (.bl (decide (i ≤ j))) h
  | _, _ => False
def gtR : R3 := fun x y h Q => match x, y with
  | .int i, .int j => Q (.bl (decide (j < i))) h
  | _, _ => False
def geR : R3 := fun x y h Q => match x, y with
  | .int i, .int j => Q (.bl (decide (j ≤ i))) h
  | _, _ => False
section
variable {X : Cx}
theorem op3_int {f : Value → Value → Sem Value} {g : Int → Int → D} {gV : Int → Int → V} {C : Int → Int → Prop} (o : OpR X f (rI C gV)) (hg : ∀ i j K m H, RelD K m H (g i j) (gV i j)) {r3 : R3}
    (h1 : ∀ i j h Q, r3 (.int i) (.int j) h Q ↔ C i j ∧ Q (g i j) h) (h2 : ∀ x y h Q, r3 x y h Q → ∃ i j, x = .int i ∧ y = .int j) : Op3 X f r3 := by
  refine ⟨fun x y h Q Q' w q => ?_, _, o, fun m h H x y v u Q R rx ry q => ?_⟩
  · obtain ⟨i, j, rfl, rfl⟩ := h2 _ _ _ _ q
    rw [h1] at q ⊢
    exact ⟨q.1, w _ _ q.2⟩
  · obtain ⟨i, j, rfl, rfl⟩ := h2 _ _ _ _ q
    rw [h1] at q
    cases rx; cases ry
    exact ⟨i, j, rfl, rfl, q.1, q.2 m H _ .refl R (hg _ _ _ _ _)⟩
theorem op3_int0 {f : Value → Value → Sem Value} {g : Int → Int → D} {gV : Int → Int → V} (o : OpR X f (rI0 gV)) (hg : ∀ i j K m H, RelD K m H (g i j) (gV i j)) {r3 : R3}
    (h1 : ∀ i j h Q, r3 (.int i) (.int j) h Q ↔ Q (g i j) h) (h2 : ∀ x y h Q, r3 x y h Q → ∃ i j, x = .int i ∧ y = .int j) : Op3 X f r3 := by
  refine ⟨fun x y h Q Q' w q => ?_, _, o, fun m h H x y v u Q R rx ry q => ?_⟩
  · obtain ⟨i, j, rfl, rfl⟩ := h2 _ _ _ _ q
    rw [h1] at q ⊢
    exact w _ _ q
  · obtain ⟨i, j, rfl, rfl⟩ := h2 _ _ _ _ q
    rw [h1] at q
    cases rx; cases ry
    exact ⟨i, j, rfl, rfl, q m H _ .refl R (hg _ _ _ _ _)⟩
theorem o_sub : Op3 X (binaryOp .Sub) subR := op3_int0 op_sub (fun _ _ _ _ _ => .int _) (fun _ _ _ _ => .rfl) fun x y h Q q => by
  unfold subR at q
  split at q
  · exact ⟨_, _, rfl, rfl⟩
  · exact q.elim
theorem op_fdivX : OpR X (binaryOp .FloorDiv) (rI (fun _ j => divOk j) fun i j => .int (i / j)) := op_fdivW
theorem o_div : Op3 X (binaryOp .FloorDiv) divR := op3_int op_fdivX (fun _ _ _ _ _ => .int _) (fun _ _ _ _ => .rfl) fun x y h Q q => by
  unfold divR at q
  split at q
  · exact ⟨_, _, rfl, rfl⟩
  · exact q.elim
theorem o_mod : Op3 X (binaryOp .Mod) modR := op3_int op_mod (fun _ _ _ _ _ => .int _) (fun _ _ _ _ => .rfl) fun x y h Q q => by
  unfold modR at q
  split at q
  · exact ⟨_, _, rfl, rfl⟩
  · exact q.elim
theorem o_pow : Op3 X (binaryOp .Pow) powR := op3_int op_pow (fun _ _ _ _ _ => .int _) (fun _ _ _ _ => .rfl) fun x y h Q q => by
  unfold powR at q
  split at q
  · exact ⟨_, _, rfl, rfl⟩
  · exact q.elim
theorem o_lt : Op3 X (compareOp .Lt) ltR := op3_int0 op_lt (fun _ _ _ _ _ => .bl _) (fun _ _ _ _ => .rfl) fun x y h Q q => by
  unfold ltR at q
  split at q
  · exact ⟨_, _, rfl, rfl⟩
  · exact q.elim
theorem o_le : Op3 X (compareOp .LtE) leR := op3_int0 op_le (fun _ _ _ _ _ => .bl _) (fun _ _ _ _ => .rfl) fun x y h Q q => by
  unfold leR at q
  split at q
  · exact ⟨_, _, rfl, rfl⟩
  · exact q.elim
theorem o_gt : Op3 X (compareOp .Gt) gtR := op3_int0 op_gt (fun _ _ _ _ _ => .bl _) (fun _ _ _ _ => .rfl) fun x y h Q q => by
  unfold gtR at q
  split at q
  · exact ⟨_, _, rfl, rfl⟩
  · exact q.elim
theorem o_ge : Op3 X (compareOp .GtE) geR := op3_int0 op_ge (fun _ _ _ _ _ => .bl _) (fun _ _ _ _ => .rfl) fun x y h Q q => by
  unfold geR at q
  split at q
  · exact ⟨_, _, rfl, rfl⟩
  · exact q.elim
/-- a new list is laid as a cell -/
theorem Up.laid {K : PySem.W.Frag} {m : List Addr} {h : Sto} {H : Hp} {Q : VK} {xs : List D} {vs : List V} (R : Rep K m h H) (rs : RelDs K m H xs vs) (q : Up K m H Q (.ref h.length) (h ++ [.lst xs])) : ∀ p, H p = none → Q (.ref p) (upd H p (.lst vs)) := fun p hp =>
  q (m ++ [p]) _ (.ref p) (Step.cell hp) (R.snoc hp ⟨vs, upd_same, (rs.step R (Step.cell hp))⟩) (.ref (by rw [← R.len]; simp))
theorem RelD.inst {K : PySem.W.Frag} {m : List Addr} {h : Sto} {H : Hp} {n : Nat} {xs : List D} {v : V} (R : Rep K m h H) (r : RelD K m H (.ref n) v) (e : h[n]? = some (.lst xs)) : ∃ a vs, v = .ref a ∧ m[n]? = some a ∧ H a = some (.lst vs) ∧ RelDs K m H xs vs := by
  cases r with
  | ref ea =>
    obtain ⟨vs, q, r⟩ := R.at_ _ _ _ ea e
    exact ⟨_, vs, rfl, ea, q, r⟩
theorem o_add : Op3 X (binaryOp .Add) addR := by
  refine ⟨fun x y h Q Q' w q => ?_, _, OpR.or op_add (OpR.or op_add_str (OpR.or op_catT op_cat)), fun m h H x y v u Q R rx ry q => ?_⟩
  · unfold addR at q ⊢
    split at q
    · exact w _ _ q
    · exact ⟨q.1, w _ _ q.2⟩
    · exact ⟨q.1, q.2.1, w _ _ q.2.2⟩
    · split at q
      · exact ⟨q.1, w _ _ q.2⟩
      · exact q.elim
    · exact q.elim
  · unfold addR at q
    split at q
    · cases rx; cases ry
      exact .inl ⟨_, _, rfl, rfl, q m H _ .refl R (.int _)⟩
    · cases rx; cases ry
      exact .inr (.inl ⟨_, _, rfl, rfl, by rw [sizeLine_eq]; exact q.1, q.2 m H _ .refl R (.str _)⟩)
    · cases rx with
      | tup sq r1 =>
        cases ry with
        | tup sq2 r2 =>
          refine .inr (.inr (.inl ⟨_, _, _, _, rfl, rfl, TH sq, TH sq2, ?_, ?_, fun e => ?_, fun e p hp => ?_⟩))
          · intro e
            have := r1.length
            rw [e] at this
            exact q.1 (List.eq_nil_of_length_eq_zero this)
          · rw [sizeLine_eq, ← r1.length, ← r2.length]; exact q.2.1
          · have e2 := r2.length
            rw [e] at e2
            have e3 := List.eq_nil_of_length_eq_zero e2
            subst e3
            have q3 := q.2.2
            rw [List.append_nil] at q3
            exact q3 m H _ .refl R (.tup sq r1)
          · exact q.2.2 m _ (.ref p) (Step.lay hp) (R.lay hp) (.tup upd_same ((r1.append r2).step R (Step.lay hp)))
    · split at q
      next e1 e2 =>
        obtain ⟨a, vs, rfl, _, ea, r1⟩ := RelD.inst R rx e1
        obtain ⟨b, ws, rfl, _, eb, r2⟩ := RelD.inst R ry e2
        exact .inr (.inr (.inr ⟨a, b, vs, ws, rfl, rfl, ea, eb, by rw [sizeLine_eq, ← r1.length, ← r2.length]; exact q.1, Up.laid R (r1.append r2) q.2⟩))
      next => exact q.elim
    · exact q.elim
theorem op_mulY : OpR X (binaryOp .Mult) (rI mulOk fun i j => .int (i * j)) := opI fun _ _ _ _ _ _ _ hc q => mul_int q hc
theorem RelDs.rep {K : PySem.W.Frag} {m : List Addr} {H : Hp} {xs : List D} {vs : List V} (r : RelDs K m H xs vs) : ∀ n : Nat, RelDs K m H (List.replicate n xs).flatten (List.replicate n vs).flatten
  | 0 => .nil
  | n + 1 => by
    rw [List.replicate_succ, List.replicate_succ, List.flatten_cons, List.flatten_cons]
    exact r.append (RelDs.rep r n)
theorem o_mul : Op3 X (binaryOp .Mult) mulR := by
  refine ⟨fun x y h Q Q' w q => ?_, _, OpR.or op_mulY op_rep, fun m h H x y v u Q R rx ry q => ?_⟩
  · unfold mulR at q ⊢
    split at q
    · exact ⟨q.1, w _ _ q.2⟩
    · split at q
      · exact ⟨q.1, w _ _ q.2⟩
      · exact q.elim
    · exact q.elim
  · unfold mulR at q
    split at q
    · cases rx; cases ry
      exact .inl ⟨_, _, rfl, rfl, q.1, q.2 m H _ .refl R (.int _)⟩
    · split at q
      next e1 =>
        obtain ⟨a, vs, rfl, _, ea, r1⟩ := RelD.inst R rx e1
        cases ry
        exact .inr ⟨a, _, vs, rfl, rfl, ea, q.1.1, q.1.2.1, by rw [sizeLine_eq, ← r1.length]; exact q.1.2.2, Up.laid R (r1.rep _) q.2⟩
      next => exact q.elim
    · exact q.elim
/-! ### == and != -/
/-- the data of a value, lists by their cells -/
def toP (h : Sto) : Nat → D → Option PyData
  | 0, _ => none
  | n + 1, d => match d with
    | .non => some .none
    | .bl b => some (.bool b)
    | .int i => some (.int i)
    | .str x => if PyData.strOk x = true then some (.str x) else none
    | .tup xs => (xs.mapM (toP h n)).map .tuple
    | .fl xs => (xs.mapM (toP h n)).map .list
    | .ref k => match h[k]? with
      | some (.lst xs) => (xs.mapM (toP h n)).map .list
      | _ => none
    | _ => none
def eqR : R3 := fun x y h Q => match x, y with
  | .int i, .int j => Q (.bl (decide (i = j))) h
  | x, y => match toP h 9 x, toP h 9 y with
    | some p, some q => Q (.bl (PyData.eqv p q)) h
    | _, _ => False
def neR : R3 := fun x y h Q => match x, y with
  | .int i, .int j => Q (.bl (!decide (i = j))) h
  | x, y => match toP h 9 x, toP h 9 y with
    | some p, some q => Q (.bl (!PyData.eqv p q)) h
    | _, _ => False
end
section
variable {K : PySem.W.Frag} {m : List Addr} {h : Sto} {H : Hp}
theorem depthAll_le {n : Nat} : ∀ {ds : List PyData}, (∀ d ∈ ds, d.depth ≤ n) → PyData.depthAll ds ≤ n
  | [], _ => by simp [PyData.depthAll]
  | d :: ds, hd => by
    have h1 := hd d List.mem_cons_self
    have h2 := depthAll_le fun e he => hd e (List.mem_cons_of_mem _ he)
    simp only [PyData.depthAll]
    omega
theorem mapM_dp {f : D → Option PyData} (hf : ∀ d p v, f d = some p → RelD K m H d v → Dp K H v p ∧ p.canLay0 = true) : ∀ {xs : List D} {ps : List PyData} {vs : List V}, xs.mapM f = some ps → RelDs K m H xs vs → DpAll K H vs ps ∧ PyData.canLayAll0 ps = true
  | [], ps, vs, e, r => by
    cases r
    simp at e
    subst e
    exact ⟨.nil, by simp [PyData.canLayAll0]⟩
  | x :: xs, ps, vs, e, r => by
    cases r with
    | cons r1 r2 =>
      simp only [List.mapM_cons, Option.bind_eq_bind, Option.bind_eq_some_iff, Option.pure_def, Option.some.injEq] at e
      obtain ⟨p, ep, qs, eq, rfl⟩ := e
      obtain ⟨a, b⟩ := hf x p _ ep r1
      obtain ⟨c, d⟩ := mapM_dp hf eq r2
      exact ⟨.cons a c, by simp [PyData.canLayAll0, b, d]⟩
theorem toP_dp (R : Rep K m h H) : ∀ (n : Nat) (d : D) (p : PyData) (v : V), toP h n d = some p → RelD K m H d v → Dp K H v p ∧ p.canLay0 = true
  | 0, d, p, v, e, r => by simp [toP] at e
  | n + 1, d, p, v, e, r => by
    have ih := toP_dp R n
    cases r with
    | non => simp [toP] at e; subst e; exact ⟨.non, by simp [PyData.canLay0]⟩
    | bl b => simp [toP] at e; subst e; exact ⟨.bl b, by simp [PyData.canLay0]⟩
    | int b => simp [toP] at e; subst e; exact ⟨.int b, by simp [PyData.canLay0]⟩
    | str b =>
      simp only [toP] at e
      split at e
      · cases e; exact ⟨.str b, by simpa [PyData.canLay0] using (by assumption)⟩
      · cases e
    | ty b => simp [toP] at e
    | adr b => simp [toP] at e
    | tup sq r =>
      simp only [toP, Option.map_eq_some_iff] at e
      obtain ⟨ps, e, rfl⟩ := e
      obtain ⟨a, b⟩ := mapM_dp ih e r
      exact ⟨.tup (TH sq) a, by simpa [PyData.canLay0] using b⟩
    | fl sq r =>
      simp only [toP, Option.map_eq_some_iff] at e
      obtain ⟨ps, e, rfl⟩ := e
      obtain ⟨a, b⟩ := mapM_dp ih e r
      exact ⟨.lst sq.sq a, by simpa [PyData.canLay0] using b⟩
    | ref em =>
      simp only [toP] at e
      split at e
      next xs e2 =>
        simp only [Option.map_eq_some_iff] at e
        obtain ⟨ps, e, rfl⟩ := e
        obtain ⟨vs, q, r⟩ := R.at_ _ _ _ em e2
        obtain ⟨a, b⟩ := mapM_dp ih e r
        exact ⟨.lst (.inl (.inl q)) a, by simpa [PyData.canLay0] using b⟩
      next => cases e
theorem toP_depth : ∀ (n : Nat) (d : D) (p : PyData), toP h n d = some p → p.depth ≤ n
  | 0, d, p, e => by simp [toP] at e
  | n + 1, d, p, e => by
    have ih := toP_depth n
    have all : ∀ {xs : List D} {ps : List PyData}, xs.mapM (toP h n) = some ps → PyData.depthAll ps ≤ n := by
      intro xs
      induction xs with
      | nil => intro ps e; simp at e; subst e; simp [PyData.depthAll]
      | cons x xs ihx =>
        intro ps e
        simp only [List.mapM_cons, Option.bind_eq_bind, Option.bind_eq_some_iff, Option.pure_def, Option.some.injEq] at e
        obtain ⟨p, ep, qs, eq, rfl⟩ := e
        have h1 := ih x p ep
        have h2 := ihx eq
        simp only [PyData.depthAll]
        omega
    cases d with
    | non => simp [toP] at e; subst e; simp [PyData.depth]
    | bl b => simp [toP] at e; subst e; simp [PyData.depth]
    | int b => simp [toP] at e; subst e; simp [PyData.depth]
    | str b =>
      simp only [toP] at e
      split at e
      · cases e; simp [PyData.depth]
      · cases e
    | ty b => simp [toP] at e
    | adr b => simp [toP] at e
    | tup xs =>
      simp only [toP, Option.map_eq_some_iff] at e
      obtain ⟨ps, e, rfl⟩ := e
      have := all e
      simp only [PyData.depth]; omega
    | fl xs =>
      simp only [toP, Option.map_eq_some_iff] at e
      obtain ⟨ps, e, rfl⟩ := e
      have := all e
      simp only [PyData.depth]; omega
    | ref k =>
      simp only [toP] at e
      split at e
      next xs e2 =>
        simp only [Option.map_eq_some_iff] at e
        obtain ⟨ps, e, rfl⟩ := e
        have := all e
        simp only [PyData.depth]; omega
      next => cases e
theorem toP_shaped (R : Rep K m h H) {n : Nat} {d : D} {p : PyData} {v : V} (hn : n ≤ 64) (e : toP h n d = some p) (r : RelD K m H d v) : Dp K H v p ∧ SeqAt.shaped p = true := by
  obtain ⟨a, b⟩ := toP_dp R n d p v e r
  refine ⟨a, ?_⟩
  unfold SeqAt.shaped
  rw [b, decide_eq_true (Nat.le_trans (toP_depth n d p e) hn)]
  rfl
end
section
variable {X : Cx}
theorem o_eq (hu : X.A.units + 64 < cLine) : Op3 X (compareOp .Eq) eqR := by
  refine ⟨fun x y h Q Q' w q => ?_, _, op_eqD hu, fun m h H x y v u Q R rx ry q => ?_⟩
  · unfold eqR at q ⊢
    split at q
    · exact w _ _ q
    · split at q
      · exact w _ _ q
      · exact q.elim
  · unfold eqR at q
    split at q
    · cases rx; cases ry
      refine ⟨.int _, .int _, .int _, .int _, by rfl, by rfl, ?_⟩
      rw [show PyData.eqv (.int _) (.int _) = _ from by simp only [PyData.eqv]; exact Bool.beq_eq_decide_eq _ _]
      exact q m H _ .refl R (.bl _)
    · split at q
      next p1 p2 e1 e2 =>
        obtain ⟨a1, b1⟩ := toP_shaped R (by decide) e1 rx
        obtain ⟨a2, b2⟩ := toP_shaped R (by decide) e2 ry
        exact ⟨p1, p2, a1, a2, b1, b2, q m H _ .refl R (.bl _)⟩
      next => exact q.elim
theorem o_ne (hu : X.A.units + 64 < cLine) : Op3 X (compareOp .NotEq) neR := by
  refine ⟨fun x y h Q Q' w q => ?_, _, op_neD hu, fun m h H x y v u Q R rx ry q => ?_⟩
  · unfold neR at q ⊢
    split at q
    · exact w _ _ q
    · split at q
      · exact w _ _ q
      · exact q.elim
  · unfold neR at q
    split at q
    · cases rx; cases ry
      refine ⟨.int _, .int _, .int _, .int _, by rfl, by rfl, ?_⟩
      rw [show PyData.eqv (.int _) (.int _) = _ from by simp only [PyData.eqv]; exact Bool.beq_eq_decide_eq _ _]
      exact q m H _ .refl R (.bl _)
    · split at q
      next p1 p2 e1 e2 =>
        obtain ⟨a1, b1⟩ := toP_shaped R (by decide) e1 rx
        obtain ⟨a2, b2⟩ := toP_shaped R (by decide) e2 ry
        exact ⟨p1, p2, a1, a2, b1, b2, q m H _ .refl R (.bl _)⟩
      next => exact q.elim
/-! ### is, is not -/
def D.isN : D → Bool
  | .non => true
  | _ => false
def isR : R3 := fun x y h Q => match x, y with
  | x, .non => Q (.bl x.isN) h
  | .bl a, .bl b => Q (.bl (decide (a = b))) h
  | _, _ => False
def isnR : R3 := fun x y h Q => match x, y with
  | x, .non => Q (.bl (!x.isN)) h
  | .bl a, .bl b => Q (.bl (!decide (a = b))) h
  | _, _ => False
theorem RelD.isN {K : PySem.W.Frag} {m : List Addr} {H : Hp} {x : D} {v : V} (r : RelD K m H x v) : decide (v = .non) = x.isN := by
  cases r <;> first | rfl | (simp [D.isN])
theorem o_is : Op3 X (compareOp .Is) isR := by
  refine ⟨fun x y h Q Q' w q => ?_, _, OpR.or op_isN op_isBl, fun m h H x y v u Q R rx ry q => ?_⟩
  · unfold isR at q ⊢
    split at q
    · exact w _ _ q
    · exact w _ _ q
    · exact q.elim
  · unfold isR at q
    split at q
    · cases ry
      exact .inl ⟨rfl, by rw [rx.isN]; exact q m H _ .refl R (.bl _)⟩
    · cases rx; cases ry
      exact .inr ⟨_, _, rfl, rfl, q m H _ .refl R (.bl _)⟩
    · exact q.elim
theorem o_isn : Op3 X (compareOp .IsNot) isnR := by
  refine ⟨fun x y h Q Q' w q => ?_, _, OpR.or op_notN op_notBl, fun m h H x y v u Q R rx ry q => ?_⟩
  · unfold isnR at q ⊢
    split at q
    · exact w _ _ q
    · exact w _ _ q
    · exact q.elim
  · unfold isnR at q
    split at q
    · cases ry
      exact .inl ⟨rfl, by rw [rx.isN]; exact q m H _ .refl R (.bl _)⟩
    · cases rx; cases ry
      exact .inr ⟨_, _, rfl, rfl, q m H _ .refl R (.bl _)⟩
    · exact q.elim
/-! ### -x -/
def negR : U3 := fun x h Q => match x with
  | .int i => Q (.int (-i)) h
  | _ => False
theorem o_neg : Un3 X (unaryOp .USub) negR := by
  refine ⟨fun x h Q Q' w q => ?_, _, un_neg, fun m h H x v Q R rx q => ?_⟩
  · cases x <;> first | exact w _ _ q | exact q
  · cases rx <;> first | exact ⟨_, rfl, q m H _ .refl R (.int _)⟩ | exact q.elim
end
end F3
/-! FG: in, subscripts, slices, built-ins, methods. -/
namespace F3
open PySem PySem.Spec PyProof.Rows L2

/-! ### in, of flat things -/
def flatD : D → Bool
  | .non => true
  | .bl _ => true
  | .int _ => true
  | .str _ => true
  | _ => false
def eqD : D → D → Bool
  | .non, .non => true
  | .bl a, .bl b => a == b
  | .bl a, .int b => (if a then 1 else 0) == b
  | .int a, .bl b => a == (if b then 1 else 0)
  | .int a, .int b => a == b
  | .str a, .str b => a == b
  | _, _ => false
def inD (x : D) (xs : List D) : Bool := xs.any fun y => eqD y x
/-- the items of a tuple or list -/
def itemsOf (d : D) (h : Sto) : Option (List D) := match d with
  | .tup xs => some xs
  | .fl xs => some xs
  | .ref n => match h[n]? with
    | some (.lst xs) => some xs
    | _ => none
  | _ => none
/-- the items of a list -/
def listOf (d : D) (h : Sto) : Option (List D) := match d with
  | .fl xs => some xs
  | .ref n => match h[n]? with
    | some (.lst xs) => some xs
    | _ => none
  | _ => none
section
variable {K : PySem.W.Frag} {m : List Addr} {h : Sto} {H : Hp}
theorem listOf_lift {d : D} {v : V} {xs : List D} (R : Rep K m h H) (r : RelD K m H d v) (e : listOf d h = some xs) : ∃ a vs, v = .ref a ∧ SqL K H a vs ∧ RelDs K m H xs vs := by
  cases r with
  | fl sq r => simp [listOf] at e; subst e; exact ⟨_, _, rfl, sq.sq, r⟩
  | ref em =>
    simp only [listOf] at e
    split at e
    next ys e2 =>
      cases e
      obtain ⟨vs, q, r⟩ := R.at_ _ _ _ em e2
      exact ⟨_, vs, rfl, .inl (.inl q), r⟩
    next => cases e
  | _ => simp [listOf] at e
theorem RelD.flat {x : D} {v : V} (r : RelD K m H x v) (f : flatD x = true) : flatV v = true := by
  cases r <;> first | rfl | (simp [flatD] at f)
theorem RelD.eqd {x y : D} {v u : V} (r : RelD K m H x v) (q : RelD K m H y u) (f : flatD x = true) (f' : flatD y = true) : eqV v u = eqD x y := by
  cases r <;> first | (cases q <;> first | rfl | (simp [flatD] at f')) | (simp [flatD] at f)
theorem RelDs.flat : ∀ {xs : List D} {vs : List V}, RelDs K m H xs vs → xs.all flatD = true → vs.all flatV = true
  | _, _, .nil, _ => rfl
  | _, _, .cons r t, f => by
    rw [List.all_cons, Bool.and_eq_true] at f ⊢
    exact ⟨r.flat f.1, RelDs.flat t f.2⟩
theorem RelDs.ind {x : D} {v : V} (r : RelD K m H x v) (f : flatD x = true) : ∀ {xs : List D} {vs : List V}, RelDs K m H xs vs → xs.all flatD = true → inV v vs = inD x xs
  | _, _, .nil, _ => rfl
  | _, _, .cons q t, fs => by
    rw [List.all_cons, Bool.and_eq_true] at fs
    show (eqV _ v || inV v _) = (eqD _ x || inD x _)
    rw [RelDs.ind r f t fs.2, q.eqd r fs.1 f]
theorem itemsOf_lift {d : D} {v : V} {xs : List D} (R : Rep K m h H) (r : RelD K m H d v) (e : itemsOf d h = some xs) : ∃ a vs, v = .ref a ∧ (SqL K H a vs ∨ SqT K H a vs) ∧ RelDs K m H xs vs := by
  cases r with
  | tup sq r => simp [itemsOf] at e; subst e; exact ⟨_, _, rfl, .inr (TH sq), r⟩
  | fl sq r => simp [itemsOf] at e; subst e; exact ⟨_, _, rfl, .inl sq.sq, r⟩
  | ref em =>
    simp only [itemsOf] at e
    split at e
    next ys e2 =>
      cases e
      obtain ⟨vs, q, r⟩ := R.at_ _ _ _ em e2
      exact ⟨_, vs, rfl, .inl (.inl (.inl q)), r⟩
    next => cases e
  | _ => simp [itemsOf] at e
end
def inR : R3 := fun x y h Q => match itemsOf y h with
  | some xs => (flatD x = true ∧ xs.all flatD = true) ∧ Q (.bl (inD x xs)) h
  | none => False
def ninR : R3 := fun x y h Q => match itemsOf y h with
  | some xs => (flatD x = true ∧ xs.all flatD = true) ∧ Q (.bl (!inD x xs)) h
  | none => False
section
variable {X : Cx}
theorem o_in : Op3 X (compareOp .In) inR := by
  refine ⟨fun x y h Q Q' w q => ?_, _, op_in_seq, fun m h H x y v u Q R rx ry q => ?_⟩
  · unfold inR at q ⊢
    split at q
    · exact ⟨q.1, w _ _ q.2⟩
    · exact q.elim
  · unfold inR at q
    split at q
    next xs e =>
      obtain ⟨a, vs, rfl, sq, r⟩ := itemsOf_lift R ry e
      refine ⟨a, vs, rfl, sq, rx.flat q.1.1, r.flat q.1.2, ?_⟩
      show Q (.bl (inV v vs)) H
      rw [RelDs.ind rx q.1.1 r q.1.2]
      exact q.2 m H _ .refl R (.bl _)
    next => exact q.elim
theorem o_nin : Op3 X (compareOp .NotIn) ninR := by
  refine ⟨fun x y h Q Q' w q => ?_, _, op_notIn_seq, fun m h H x y v u Q R rx ry q => ?_⟩
  · unfold ninR at q ⊢
    split at q
    · exact ⟨q.1, w _ _ q.2⟩
    · exact q.elim
  · unfold ninR at q
    split at q
    next xs e =>
      obtain ⟨a, vs, rfl, sq, r⟩ := itemsOf_lift R ry e
      refine ⟨a, vs, rfl, sq, rx.flat q.1.1, r.flat q.1.2, ?_⟩
      show Q (.bl (!inV v vs)) H
      rw [RelDs.ind rx q.1.1 r q.1.2]
      exact q.2 m H _ .refl R (.bl _)
    next => exact q.elim
/-- x in [..]: the list a new one -/
def tOX (r : D → List D → Sto → DK → Prop) (ta : E3) (tb : A3) : E3 := fun ρ h Q => ta ρ h fun x h1 => tb ρ h1 fun ys h2 => r x ys h2 Q
structure OpX3 (X : Cx) (f : Value → Value → Sem Value) (r3 : D → List D → Sto → DK → Prop) : Prop where
  mono : ∀ x y h (Q Q' : DK), (∀ d h', Q d h' → Q' d h') → r3 x y h Q → r3 x y h Q'
  ok : ∃ r : R2, OpR X f r ∧ ∀ m h H x y v a vs Q, Rep X.K m h H → RelD X.K m H x v → H a = some (.lst vs) → RelDs X.K m H y vs → r3 x y h (Up X.K m H Q) → r v (.ref a) H Q
theorem MonoE.opx {r : D → List D → Sto → DK → Prop} {ta : E3} {tb : A3} (mr : ∀ x y h (Q Q' : DK), (∀ d h', Q d h' → Q' d h') → r x y h Q → r x y h Q') (ma : MonoE ta) (mb : MonoA tb) : MonoE (tOX r ta tb) := fun ρ h Q Q' w q =>
  ma _ _ _ _ (fun x h1 q1 => mb _ _ _ _ (fun y h2 q2 => mr _ _ _ _ _ w q2) q1) q
theorem opx_lift {ta : E3} {tb : A3} {r3 : D → List D → Sto → DK → Prop} {r : R2} (w : ∀ m h H x y v a vs Q, Rep X.K m h H → RelD X.K m H x v → H a = some (.lst vs) → RelDs X.K m H y vs → r3 x y h (Up X.K m H Q) → r v (.ref a) H Q)
    (mr : ∀ x y h (Q Q' : DK), (∀ d h', Q d h' → Q' d h') → r3 x y h Q → r3 x y h Q') (ma : MonoE ta) (mb : MonoA tb) {σ : L2.St} {H : Hp} {Q : VK} (q : LE X.K (tOX r3 ta tb) σ H Q) : tOp r (LE X.K ta) (LX X.K tb) σ H Q := by
  obtain ⟨m, h, ρ, R, S, q⟩ := q
  refine LE.bind ma R S q fun m1 H1 v x h1 s1 R1 rx S1 q1 => ?_
  refine LX.bind mb R1 S1 q1 fun m2 H2 a vs y h2 s2 R2 ea na hm ry S2 q2 => ?_
  exact w m2 h2 H2 x y v a vs Q R2 (rx.step R1 s2) ea ry (mr _ _ _ _ _ (fun d h' u => Up.step (s1.trans s2) u) q2)
theorem e3_cmpx {a b : Expr} {ta : E3} {tb : A3} {pos : Pos} {op : CmpOp} {r3 : D → List D → Sto → DK → Prop} (o : OpX3 X (compareOp op) r3) (ha : PE3 X a ta) (hb : PX3 X b tb) (hm : behindInMarks op b = false := by first | exact nomark _ | with_unfolding_all rfl) : PE3 X (.Compare a [op] [b] pos) (tOX r3 ta tb) := by
  obtain ⟨r, hr, w⟩ := o.ok
  exact ⟨PE.weak (pe_cmpR hr ha.pe hb.pe hm) fun σ H Q q => opx_lift w o.mono ha.mono hb.mono q, .opx o.mono ha.mono hb.mono⟩
theorem b3_cmpx {a b : Expr} {ta : E3} {tb : A3} {pos : Pos} {op : CmpOp} {r3 : D → List D → Sto → DK → Prop} (o : OpX3 X (compareOp op) r3) (ha : PE3 X a ta) (hb : PX3 X b tb) (hm : behindInMarks op b = false := by first | exact nomark _ | with_unfolding_all rfl) : PB3 X (.Compare a [op] [b] pos) (tT (tOX r3 ta tb)) := by
  obtain ⟨r, hr, w⟩ := o.ok
  have mo : MonoE (tOX r3 ta tb) := .opx o.mono ha.mono hb.mono
  exact ⟨PT.weak (pt_cmpR hr ha.pe hb.pe hm) fun σ H Q q => opx_lift w o.mono ha.mono hb.mono (tT_lift mo q), MonoB.tT mo⟩
def inX : D → List D → Sto → DK → Prop := fun x xs h Q => (flatD x = true ∧ xs.all flatD = true) ∧ Q (.bl (inD x xs)) h
def ninX : D → List D → Sto → DK → Prop := fun x xs h Q => (flatD x = true ∧ xs.all flatD = true) ∧ Q (.bl (!inD x xs)) h
theorem ox_in : OpX3 X (compareOp .In) inX := ⟨fun x y h Q Q' w q => ⟨q.1, w _ _ q.2⟩, _, op_in_seq, fun m h H x y v a vs Q R rx ea ry q => ⟨a, vs, rfl, .inl (.inl (.inl ea)), rx.flat q.1.1, ry.flat q.1.2, by
  show Q (.bl (inV v vs)) H
  rw [RelDs.ind rx q.1.1 ry q.1.2]
  exact q.2 m H _ .refl R (.bl _)⟩⟩
theorem ox_nin : OpX3 X (compareOp .NotIn) ninX := ⟨fun x y h Q Q' w q => ⟨q.1, w _ _ q.2⟩, _, op_notIn_seq, fun m h H x y v a vs Q R rx ea ry q => ⟨a, vs, rfl, .inl (.inl (.inl ea)), rx.flat q.1.1, ry.flat q.1.2, by
  show Q (.bl (!inV v vs)) H
  rw [RelDs.ind rx q.1.1 ry q.1.2]
  exact q.2 m H _ .refl R (.bl _)⟩⟩
/-- x == [..], the list a new one: of the empty one -/
def eqX (neg : Bool) : D → List D → Sto → DK → Prop := fun x ys h Q => match toP h 9 x, ys.mapM (toP h 8) with
  | some p, some qs => Q (.bl (if neg then !PyData.eqv p (.list qs) else PyData.eqv p (.list qs))) h
  | _, _ => False
theorem mapM_depth {h : Sto} {n : Nat} : ∀ {xs : List D} {ps : List PyData}, xs.mapM (toP h n) = some ps → PyData.depthAll ps ≤ n := by
  intro xs
  induction xs with
  | nil => intro ps e; simp at e; subst e; simp [PyData.depthAll]
  | cons x xs ihx =>
    intro ps e
    simp only [List.mapM_cons, Option.bind_eq_bind, Option.bind_eq_some_iff, Option.pure_def, Option.some.injEq] at e
    obtain ⟨p, ep, qs, eq, rfl⟩ := e
    have h1 := toP_depth n x p ep
    have h2 := ihx eq
    simp only [PyData.depthAll]
    omega
theorem eqX_lift {K : PySem.W.Frag} {m : List Addr} {h : Sto} {H : Hp} {y : List D} {a : Addr} {vs : List V} {qs : List PyData} (R : Rep K m h H) (ea : H a = some (.lst vs)) (ry : RelDs K m H y vs) (e : y.mapM (toP h 8) = some qs) : Dp K H (.ref a) (.list qs) ∧ SeqAt.shaped (.list qs) = true := by
  obtain ⟨a1, b1⟩ := mapM_dp (toP_dp R 8) e ry
  refine ⟨.lst (.inl (.inl ea)) a1, ?_⟩
  unfold SeqAt.shaped
  have : (PyData.list qs).depth ≤ 64 := by
    have := mapM_depth e
    simp only [PyData.depth]; omega
  rw [decide_eq_true this, Bool.and_true]
  simpa [PyData.canLay0] using b1
theorem ox_eq (hu : X.A.units + 64 < cLine) : OpX3 X (compareOp .Eq) (eqX false) := by
  refine ⟨fun x y h Q Q' w q => ?_, _, op_eqD hu, fun m h H x y v a vs Q R rx ea ry q => ?_⟩
  · unfold eqX at q ⊢
    split at q
    · exact w _ _ q
    · exact q.elim
  · unfold eqX at q
    split at q
    next p qs e1 e2 =>
      obtain ⟨a1, b1⟩ := toP_shaped R (by decide) e1 rx
      obtain ⟨a2, b2⟩ := eqX_lift R ea ry e2
      exact ⟨p, _, a1, a2, b1, b2, q m H _ .refl R (.bl _)⟩
    next => exact q.elim
theorem ox_ne (hu : X.A.units + 64 < cLine) : OpX3 X (compareOp .NotEq) (eqX true) := by
  refine ⟨fun x y h Q Q' w q => ?_, _, op_neD hu, fun m h H x y v a vs Q R rx ea ry q => ?_⟩
  · unfold eqX at q ⊢
    split at q
    · exact w _ _ q
    · exact q.elim
  · unfold eqX at q
    split at q
    next p qs e1 e2 =>
      obtain ⟨a1, b1⟩ := toP_shaped R (by decide) e1 rx
      obtain ⟨a2, b2⟩ := eqX_lift R ea ry e2
      exact ⟨p, _, a1, a2, b1, b2, q m H _ .refl R (.bl _)⟩
    next => exact q.elim
/-! ### subscripts -/
def atD (xs : List D) (i : Int) (Q : D → Prop) : Prop := match atI xs i with
  | some d => Q d
  | none => False
theorem atD_mono {xs : List D} {i : Int} {Q Q' : D → Prop} (w : ∀ d, Q d → Q' d) (q : atD xs i Q) : atD xs i Q' := by
  unfold atD at q ⊢
  split at q
  · exact w _ q
  · exact q.elim
theorem atD_lift {K : PySem.W.Frag} {m : List Addr} {H : Hp} {xs : List D} {vs : List V} {i : Int} {Q : D → Prop} (r : RelDs K m H xs vs) (q : atD xs i Q) : ∃ d v, atI vs i = some v ∧ RelD K m H d v ∧ Q d := by
  unfold atD at q
  split at q
  next d e =>
    unfold atI at e ⊢
    rw [← r.length]
    obtain ⟨j, ej, e2⟩ := Option.bind_eq_some_iff.mp e
    obtain ⟨v, ev, rv⟩ := r.get e2
    exact ⟨d, v, by rw [ej]; exact ev, rv, q⟩
  next => exact q.elim
def ixR : R3 := fun x y h Q => match y with
  | .int i => match x with
    | .str z => z.length ≤ 16777216 ∧ (match atI z.cps.toList i with
      | some c => Q (.str ⟨#[c]⟩) h
      | none => False)
    | x => match itemsOf x h with
      | some xs => atD xs i fun d => Q d h
      | none => False
  | _ => False
theorem e3_ix {a b : Expr} {ta tb : E3} {pos : Pos} (ha : PE3 X a ta) (hb : PE3 X b tb) (hs : PlainIx b := by intro _ _; rfl) : PE3 X (.Subscript a b pos) (tO ixR ta tb) := by
  have mo : ∀ x y h (Q Q' : DK), (∀ d h', Q d h' → Q' d h') → ixR x y h Q → ixR x y h Q' := fun x y h Q Q' w q => by
    unfold ixR at q ⊢
    split at q
    · split at q
      · refine ⟨q.1, ?_⟩
        have q2 := q.2
        split at q2
        · exact w _ _ q2
        · exact q2.elim
      · split at q
        · exact atD_mono (fun d q => w _ _ q) q
        · exact q.elim
    · exact q.elim
  refine ⟨PE.weak (pe_ix ix_seq ha.pe hb.pe hs) fun σ H Q q => op_lift (r := rIx X.K) (fun m h H x y v u Q R rx ry q => ?_) mo ha.mono hb.mono q, .op mo ha.mono hb.mono⟩
  unfold ixR at q
  split at q
  next i =>
    cases ry
    split at q
    · cases rx
      have q2 := q.2
      split at q2
      next c e => exact .inr (.inr ⟨_, i, c, rfl, rfl, by rw [sizeLine_eq]; exact q.1, e, q2 m H _ .refl R (.str _)⟩)
      next => exact q2.elim
    · split at q
      next xs e =>
        obtain ⟨a, vs, rfl, sq, r⟩ := itemsOf_lift R rx e
        obtain ⟨d, v, ev, rv, q⟩ := atD_lift r q
        rcases sq with sq | sq
        · exact .inl ⟨a, vs, i, v, rfl, rfl, sq, ev, q m H _ .refl R rv⟩
        · exact .inr (.inl ⟨a, vs, i, v, rfl, rfl, sq, ev, q m H _ .refl R rv⟩)
      next => exact q.elim
  next => exact q.elim
/-- [..][i] -/
def tIxX (ta : A3) (tb : E3) : E3 := fun ρ h Q => ta ρ h fun xs h1 => tb ρ h1 fun y h2 => match y with
  | .int i => atD xs i fun d => Q d h2
  | _ => False
theorem e3_ixx {a b : Expr} {ta : A3} {tb : E3} {pos : Pos} (ha : PX3 X a ta) (hb : PE3 X b tb) (hs : PlainIx b := by intro _ _; rfl) : PE3 X (.Subscript a b pos) (tIxX ta tb) := by
  refine ⟨PE.weak (pe_ix ix_list ha.pe hb.pe hs) fun σ H Q ⟨m, h, ρ, R, S, q⟩ => ?_, fun ρ h Q Q' w q => ha.mono _ _ _ _ (fun xs h1 q1 => hb.mono _ _ _ _ (fun y h2 q2 => ?_) q1) q⟩
  · refine LX.bind ha.mono R S q fun m1 H1 a vs xs h1 s1 R1 ea na hm rx S1 q1 => ?_
    refine LE.bind hb.mono R1 S1 q1 fun m2 H2 u y h2 s2 R2 ry S2 q2 => ?_
    cases ry with
    | int i =>
      obtain ⟨d, v, ev, rv, q⟩ := atD_lift (rx.step R1 s2) q2
      exact ⟨a, vs, i, v, rfl, rfl, .inl (.inl (s2.keep _ _ hm ea)), ev, q m2 H2 _ (s1.trans s2) R2 rv⟩
    | _ => exact q2.elim
  · cases y with
    | int i => exact atD_mono (fun d q => w _ _ q) q2
    | _ => exact q2
/-- o[i] = v -/
def setR (o i v : D) (h : Sto) (Q : Sto → Prop) : Prop := match o, i with
  | .ref n, .int k => match h[n]? with
    | some (.lst xs) => match ixN xs.length k with
      | some j => Q (h.set n (.lst (xs.set j v)))
      | none => False
    | _ => False
  | _, _ => False
def gSub3 (to ti : E3) : G3 := fun d ρ h Q => to ρ h fun o h1 => ti ρ h1 fun i h2 => setR o i d h2 fun h3 => Q ρ h3
theorem setR_mono {o i v : D} {h : Sto} {Q Q' : Sto → Prop} (w : ∀ h, Q h → Q' h) (q : setR o i v h Q) : setR o i v h Q' := by
  unfold setR at q ⊢
  split at q
  · split at q
    · split at q
      · exact w _ q
      · exact q.elim
    · exact q.elim
  · exact q.elim
theorem g3_sub {o i : Expr} {to ti : E3} {pos : Pos} (ho : PE3 X o to) (hi : PE3 X i ti)
    (ha : ∀ v, assign (.Subscript o i pos) X.env v = (do
      let ov ← holding [v] (eval o X.env)
      let iv ← holding [v, ov] (eval i X.env)
      standAt pos
      holding [v, ov, iv] (setItem ov iv v)
      release [v, ov, iv] []) := by intro _; rfl) : PG3 X (.Subscript o i pos) (gSub3 to ti) := by
  refine ⟨PG.weak (pg_sub ho.pe hi.pe set_list ha) fun v σ H Q ⟨m, h, ρ, d, R, S, rd, q⟩ => ?_, fun d ρ h Q Q' w q => ho.mono _ _ _ _ (fun o h1 q1 => hi.mono _ _ _ _ (fun i h2 q2 => setR_mono (fun h q => w _ _ q) q2) q1) q⟩
  refine LE.bind ho.mono R S q fun m1 H1 ov o' h1 s1 R1 ro S1 q1 => ?_
  refine LE.bind hi.mono R1 S1 q1 fun m2 H2 iv i' h2 s2 R2 ri S2 q2 => ?_
  unfold setR at q2
  split at q2
  next n k =>
    cases ri
    split at q2
    next xs e =>
      obtain ⟨a, vs, rfl, em, ea, rs⟩ := RelD.inst R2 (ro.step R1 s2) e
      split at q2
      next j ej =>
        refine ⟨a, vs, k, j, rfl, rfl, ea, by rw [← rs.length]; exact ej, ?_⟩
        have st := s1.trans s2
        have hm : a ∈ m2 := List.mem_of_getElem? em
        refine q2 m2 _ σ (st.trans (Step.put hm)) (R2.put em ⟨_, upd_same, ?_⟩) (S2.step R2 (Step.put hm))
        exact ((rs.set (rd.step R st) j).step R2 (Step.put hm))
      next => exact q2.elim
    next => exact q2.elim
  next => exact q2.elim
/-! ### slices -/
def cutD (xs : List D) (lo hi : Option Int) : List D := (xs.drop (HT.sIx xs.length 0 lo)).take (HT.sIx xs.length xs.length hi - HT.sIx xs.length 0 lo)
theorem RelDs.cut {K : PySem.W.Frag} {m : List Addr} {H : Hp} {xs : List D} {vs : List V} (r : RelDs K m H xs vs) (lo hi : Option Int) : RelDs K m H (cutD xs lo hi) (cutV vs lo hi) := by
  unfold cutD cutV
  rw [r.length]
  exact (r.drop _).take _
abbrev O3 := S3 → Sto → (Option Int → Sto → Prop) → Prop
def LO (K : PySem.W.Frag) (t : O3) : TO := fun σ H Q => ∃ m h ρ, Rep K m h H ∧ RelS K m H ρ σ ∧ t ρ h fun o h' => ∀ m' H', Step m H m' H' → Rep K m' h' H' → Q o H'
structure PO3 (X : Cx) (e : Option Expr) (t : O3) : Prop where
  pe : PO X e (LO X.K t)
  mono : ∀ ρ h (Q Q' : Option Int → Sto → Prop), (∀ o h, Q o h → Q' o h) → t ρ h Q → t ρ h Q'
def oNo : O3 := fun _ h Q => Q none h
def oSo (t : E3) : O3 := fun ρ h Q => t ρ h fun d h1 => match d with
  | .int i => Q (some i) h1
  | _ => False
theorem PO.weak {X : Cx} {e : Option Expr} {t t' : TO} (p : PO X e t) (w : ∀ σ H Q, t' σ H Q → t σ H Q) : PO X e t' := ⟨fun pins s σ H Q I h => p.run pins s σ H Q I (w σ H Q h)⟩
theorem o3_no : PO3 X none oNo := ⟨PO.weak po_none fun σ H Q ⟨m, h, ρ, R, S, q⟩ => q m H .refl R, fun ρ h Q Q' w q => w _ _ q⟩
theorem o3_so {e : Expr} {t : E3} (he : PE3 X e t) : PO3 X (some e) (oSo t) := by
  refine ⟨PO.weak (po_some he.pe) fun σ H Q ⟨m, h, ρ, R, S, q⟩ => ?_, fun ρ h Q Q' w q => he.mono _ _ _ _ (fun d h1 q1 => ?_) q⟩
  · refine LE.bind he.mono R S q fun m1 H1 u y h1 s1 R1 ry S1 q1 => ?_
    cases ry with
    | int i => exact ⟨i, rfl, q1 m1 H1 s1 R1⟩
    | _ => exact q1.elim
  · cases d <;> first | exact w _ _ q1 | exact q1
def slR (x : D) (lo hi : Option Int) (h : Sto) (Q : DK) : Prop := match x with
  | .tup xs => ¬ (HT.sIx xs.length 0 lo = 0 ∧ HT.sIx xs.length xs.length hi = xs.length) ∧ Q (.tup (cutD xs lo hi)) h
  | .str z => z.length ≤ 16777216 ∧ Q (.str (cutS z lo hi)) h
  | x => match listOf x h with
    | some xs => Q (.ref h.length) (h ++ [.lst (cutD xs lo hi)])
    | none => False
def tSl3 (te : E3) (tl th : O3) : E3 := fun ρ h Q => te ρ h fun x h1 => tl ρ h1 fun l h2 => th ρ h2 fun u h3 => slR x l u h3 Q
theorem slR_mono {x : D} {lo hi : Option Int} {h : Sto} {Q Q' : DK} (w : ∀ d h, Q d h → Q' d h) (q : slR x lo hi h Q) : slR x lo hi h Q' := by
  unfold slR at q ⊢
  split at q
  · exact ⟨q.1, w _ _ q.2⟩
  · exact ⟨q.1, w _ _ q.2⟩
  · split at q
    · exact w _ _ q
    · exact q.elim
theorem e3_sl {e : Expr} {lo hi : Option Expr} {te : E3} {tl th : O3} {p2 pos : Pos} (he : PE3 X e te) (hl : PO3 X lo tl) (hh : PO3 X hi th) : PE3 X (.Subscript e (.Slice lo hi none p2) pos) (tSl3 te tl th) := by
  refine ⟨PE.weak (pe_slice (SlR.or sl_tup (SlR.or sl_str sl_list)) he.pe hl.pe hh.pe) fun σ H Q ⟨m, h, ρ, R, S, q⟩ => ?_, fun ρ h Q Q' w q => he.mono _ _ _ _ (fun d h1 q1 => hl.mono _ _ _ _ (fun l h2 q2 => hh.mono _ _ _ _ (fun u h3 q3 => slR_mono w q3) q2) q1) q⟩
  refine LE.bind he.mono R S q fun m1 H1 v x h1 s1 R1 rx S1 q1 => ?_
  refine ⟨m1, h1, ρ, R1, S1, hl.mono _ _ _ _ (fun l h2 q2 m2 H2 s2 R2 => ?_) q1⟩
  refine ⟨m2, h2, ρ, R2, S1.step R1 s2, hh.mono _ _ _ _ (fun u h3 q3 m3 H3 s3 R3 => ?_) q2⟩
  have rx3 := (rx.step R1 s2).step R2 s3
  have st := s1.trans (s2.trans s3)
  unfold slR at q3
  split at q3
  · cases rx3 with
    | tup sq r => exact .inl ⟨_, _, rfl, TH sq, by rw [← r.length]; exact q3.1, fun p hp => q3.2 m3 _ (.ref p) (st.trans (Step.lay hp)) (R3.lay hp) (.tup upd_same ((r.cut l u).step R3 (Step.lay hp)))⟩
  · cases rx3
    exact .inr (.inl ⟨_, rfl, by rw [sizeLine_eq]; exact q3.1, q3.2 m3 H3 _ st R3 (.str _)⟩)
  · split at q3
    next xs e =>
      obtain ⟨a, vs, rfl, sq, r⟩ := listOf_lift R3 rx3 e
      exact .inr (.inr ⟨a, vs, rfl, sq, Up.laid R3 (r.cut l u) (Up.step st q3)⟩)
    next => exact q3.elim
end
end F3
/-! FH: built-in functions and methods over plain values. -/
namespace F3
open PySem PySem.Spec PyProof.Rows L2

abbrev N3 := List D → Sto → DK → Prop
structure Call3 (X : Cx) (f : Value) (r3 : N3) : Prop where
  mono : ∀ xs h (Q Q' : DK), (∀ d h', Q d h' → Q' d h') → r3 xs h Q → r3 xs h Q'
  ok : ∃ r, CallR X f r ∧ ∀ m h H xs vs Q, Rep X.K m h H → RelDs X.K m H xs vs → r3 xs h (Up X.K m H Q) → r vs H Q
/-- a call whose one argument is a new list -/
structure CallX3 (X : Cx) (f : Value) (r3 : N3) : Prop where
  mono : ∀ xs h (Q Q' : DK), (∀ d h', Q d h' → Q' d h') → r3 xs h Q → r3 xs h Q'
  ok : ∃ r, CallR X f r ∧ ∀ m h H a xs vs Q, Rep X.K m h H → H a = some (.lst vs) → RelDs X.K m H xs vs → r3 xs h (Up X.K m H Q) → r [.ref a] H Q
def tB3 (r : N3) (ta : A3) : E3 := fun ρ h Q => ta ρ h fun xs h1 => r xs h1 Q
section
variable {X : Cx} {x : Str} {p pos : Pos} {e : Expr} {es : List Expr} {t : A3} {id T : String} {r3 : N3}
theorem cb_lift {f : Value} (c : Call3 X f r3) (mt : MonoA t) : ∃ r, CallR X f r ∧ ∀ σ H Q, LE X.K (tB3 r3 t) σ H Q → tCB r (LA X.K t) σ H Q := by
  obtain ⟨r, hr, w⟩ := c.ok
  refine ⟨r, hr, fun σ H Q ⟨m, h, ρ, R, S, q⟩ => ?_⟩
  refine LA.bind mt R S q fun m1 H1 vs xs h1 s1 R1 rs S1 q1 => ?_
  exact w m1 h1 H1 xs vs Q R1 rs (c.mono _ _ _ _ (fun d h' u => Up.step s1 u) q1)
theorem MonoE.cb (mr : ∀ xs h (Q Q' : DK), (∀ d h', Q d h' → Q' d h') → r3 xs h Q → r3 xs h Q') (mt : MonoA t) : MonoE (tB3 r3 t) := fun ρ h Q Q' w q => mt _ _ _ _ (fun xs h1 q1 => mr _ _ _ _ w q1) q
theorem e3_cb (c : Call3 X (.builtin id) r3) (hm : X.mg x = none) (ha : PA3 X (e :: es) t) (hg : Gl X x := by rfl) (hv : bootBuiltins x = some (.builtin id) := by decide +kernel) (hn : x ≠ "__name__" := by decide) (hdb : (x == ("__debug__" : Str)) = false := by decide)
    (he : starEach (e :: es) X.env = (false, eval e X.env) :: starEach es X.env := by rfl) (hpl : (backTo pos (starEach es X.env)).any (·.1) = false := by rfl) : PE3 X (.Call (.Name x p) (e :: es) [] pos) (tB3 r3 t) := by
  obtain ⟨r, hr, w⟩ := cb_lift c ha.mono
  exact ⟨PE.weak (pe_callB hr hg hm hv ha.pe hn hdb he hpl) w, .cb c.mono ha.mono⟩
theorem e3_ct (c : Call3 X (.type T) r3) (hm : X.mg x = none) (ha : PA3 X (e :: es) t) (hg : Gl X x := by rfl) (hv : bootBuiltins x = some (.type T) := by decide +kernel) (hn : x ≠ "__name__" := by decide) (hdb : (x == ("__debug__" : Str)) = false := by decide)
    (he : starEach (e :: es) X.env = (false, eval e X.env) :: starEach es X.env := by rfl) (hpl : (backTo pos (starEach es X.env)).any (·.1) = false := by rfl) : PE3 X (.Call (.Name x p) (e :: es) [] pos) (tB3 r3 t) := by
  obtain ⟨r, hr, w⟩ := cb_lift c ha.mono
  exact ⟨PE.weak (pe_callTy hr hg hm hv ha.pe hn hdb he hpl) w, .cb c.mono ha.mono⟩
theorem cbx_lift {f : Value} (c : CallX3 X f r3) (mt : MonoA t) : ∃ r, CallR X f r ∧ ∀ σ H Q, LE X.K (tB3 r3 t) σ H Q → tCB r (tCons (LX X.K t) tNil) σ H Q := by
  obtain ⟨r, hr, w⟩ := c.ok
  refine ⟨r, hr, fun σ H Q ⟨m, h, ρ, R, S, q⟩ => ?_⟩
  refine LX.bind mt R S q fun m1 H1 a vs xs h1 s1 R1 ea na hm rs S1 q1 => ?_
  exact w m1 h1 H1 a xs vs Q R1 ea rs (c.mono _ _ _ _ (fun d h' u => Up.step s1 u) q1)
theorem e3_cbx (c : CallX3 X (.builtin id) r3) (hm : X.mg x = none) (ha : PX3 X e t) (hg : Gl X x := by rfl) (hv : bootBuiltins x = some (.builtin id) := by decide +kernel) (hn : x ≠ "__name__" := by decide) (hdb : (x == ("__debug__" : Str)) = false := by decide)
    (he : starEach [e] X.env = (false, eval e X.env) :: starEach [] X.env := by rfl) (hpl : (backTo pos (starEach [] X.env)).any (·.1) = false := by rfl) : PE3 X (.Call (.Name x p) [e] [] pos) (tB3 r3 t) := by
  obtain ⟨r, hr, w⟩ := cbx_lift c ha.mono
  exact ⟨PE.weak (pe_callB hr hg hm hv (pa_cons ha.pe pa_nil he) hn hdb he hpl) w, .cb c.mono ha.mono⟩
theorem e3_ctx (c : CallX3 X (.type T) r3) (hm : X.mg x = none) (ha : PX3 X e t) (hg : Gl X x := by rfl) (hv : bootBuiltins x = some (.type T) := by decide +kernel) (hn : x ≠ "__name__" := by decide) (hdb : (x == ("__debug__" : Str)) = false := by decide)
    (he : starEach [e] X.env = (false, eval e X.env) :: starEach [] X.env := by rfl) (hpl : (backTo pos (starEach [] X.env)).any (·.1) = false := by rfl) : PE3 X (.Call (.Name x p) [e] [] pos) (tB3 r3 t) := by
  obtain ⟨r, hr, w⟩ := cbx_lift c ha.mono
  exact ⟨PE.weak (pe_callTy hr hg hm hv (pa_cons ha.pe pa_nil he) hn hdb he hpl) w, .cb c.mono ha.mono⟩
/-! ### a call that gives a new list -/
abbrev M3 := List D → Sto → (List D → Sto → Prop) → Prop
structure CallL3 (X : Cx) (f : Value) (r3 : M3) : Prop where
  mono : ∀ xs h (Q Q' : List D → Sto → Prop), (∀ d h', Q d h' → Q' d h') → r3 xs h Q → r3 xs h Q'
  ok : ∃ r, CallR X f r ∧ ∀ m h H xs vs Q, Rep X.K m h H → RelDs X.K m H xs vs → r3 xs h (UpX X.K m H Q) → r vs H Q
structure CallLX3 (X : Cx) (f : Value) (r3 : M3) : Prop where
  mono : ∀ xs h (Q Q' : List D → Sto → Prop), (∀ d h', Q d h' → Q' d h') → r3 xs h Q → r3 xs h Q'
  ok : ∃ r, CallR X f r ∧ ∀ m h H a xs vs Q, Rep X.K m h H → H a = some (.lst vs) → RelDs X.K m H xs vs → r3 xs h (UpX X.K m H Q) → r [.ref a] H Q
def tL3 (r : M3) (ta : A3) : A3 := fun ρ h Q => ta ρ h fun xs h1 => r xs h1 Q
theorem UpX.step {K : PySem.W.Frag} {m m' : List Addr} {H H' : Hp} {h h' : Sto} (s : Step m H m' H') (R : Rep K m' h' H') {Q : VK} {d : List D} (u : UpX K m H Q d h) : UpX K m' H' Q d h := fun m2 H2 a vs st rp e n na rd => u m2 H2 a vs (s.trans st) rp e (s.none R n) na rd
theorem UpX.laid {K : PySem.W.Frag} {m : List Addr} {h : Sto} {H : Hp} {Q : VK} {xs : List D} {vs : List V} (R : Rep K m h H) (rs : RelDs K m H xs vs) (q : UpX K m H Q xs h) : ∀ p, H p = none → Q (.ref p) (upd H p (.lst vs)) := fun p hp =>
  q m _ p vs (Step.lay hp) (R.lay hp) upd_same hp (R.nonone hp) (rs.step R (Step.lay hp))
theorem MonoA.cl {r3 : M3} (mr : ∀ xs h (Q Q' : List D → Sto → Prop), (∀ d h', Q d h' → Q' d h') → r3 xs h Q → r3 xs h Q') (mt : MonoA t) : MonoA (tL3 r3 t) := fun ρ h Q Q' w q => mt _ _ _ _ (fun xs h1 q1 => mr _ _ _ _ w q1) q
theorem x3_cb {r3 : M3} (c : CallL3 X (.builtin id) r3) (hm : X.mg x = none) (ha : PA3 X (e :: es) t) (hg : Gl X x := by rfl) (hv : bootBuiltins x = some (.builtin id) := by decide +kernel) (hn : x ≠ "__name__" := by decide) (hdb : (x == ("__debug__" : Str)) = false := by decide)
    (he : starEach (e :: es) X.env = (false, eval e X.env) :: starEach es X.env := by rfl) (hpl : (backTo pos (starEach es X.env)).any (·.1) = false := by rfl) : PX3 X (.Call (.Name x p) (e :: es) [] pos) (tL3 r3 t) := by
  obtain ⟨r, hr, w⟩ := c.ok
  refine ⟨PE.weak (pe_callB hr hg hm hv ha.pe hn hdb he hpl) fun σ H Q ⟨m, h, ρ, R, S, q⟩ => ?_, .cl c.mono ha.mono⟩
  refine LA.bind ha.mono R S q fun m1 H1 vs xs h1 s1 R1 rs S1 q1 => ?_
  exact w m1 h1 H1 xs vs Q R1 rs (c.mono _ _ _ _ (fun d h' u => UpX.step s1 R1 u) q1)
theorem x3_ct {r3 : M3} (c : CallL3 X (.type T) r3) (hm : X.mg x = none) (ha : PA3 X (e :: es) t) (hg : Gl X x := by rfl) (hv : bootBuiltins x = some (.type T) := by decide +kernel) (hn : x ≠ "__name__" := by decide) (hdb : (x == ("__debug__" : Str)) = false := by decide)
    (he : starEach (e :: es) X.env = (false, eval e X.env) :: starEach es X.env := by rfl) (hpl : (backTo pos (starEach es X.env)).any (·.1) = false := by rfl) : PX3 X (.Call (.Name x p) (e :: es) [] pos) (tL3 r3 t) := by
  obtain ⟨r, hr, w⟩ := c.ok
  refine ⟨PE.weak (pe_callTy hr hg hm hv ha.pe hn hdb he hpl) fun σ H Q ⟨m, h, ρ, R, S, q⟩ => ?_, .cl c.mono ha.mono⟩
  refine LA.bind ha.mono R S q fun m1 H1 vs xs h1 s1 R1 rs S1 q1 => ?_
  exact w m1 h1 H1 xs vs Q R1 rs (c.mono _ _ _ _ (fun d h' u => UpX.step s1 R1 u) q1)
theorem x3_cbx {r3 : M3} (c : CallLX3 X (.builtin id) r3) (hm : X.mg x = none) (ha : PX3 X e t) (hg : Gl X x := by rfl) (hv : bootBuiltins x = some (.builtin id) := by decide +kernel) (hn : x ≠ "__name__" := by decide) (hdb : (x == ("__debug__" : Str)) = false := by decide)
    (he : starEach [e] X.env = (false, eval e X.env) :: starEach [] X.env := by rfl) (hpl : (backTo pos (starEach [] X.env)).any (·.1) = false := by rfl) : PX3 X (.Call (.Name x p) [e] [] pos) (tL3 r3 t) := by
  obtain ⟨r, hr, w⟩ := c.ok
  refine ⟨PE.weak (pe_callB hr hg hm hv (pa_cons ha.pe pa_nil he) hn hdb he hpl) fun σ H Q ⟨m, h, ρ, R, S, q⟩ => ?_, .cl c.mono ha.mono⟩
  refine LX.bind ha.mono R S q fun m1 H1 a vs xs h1 s1 R1 ea na hm rs S1 q1 => ?_
  exact w m1 h1 H1 a xs vs Q R1 ea rs (c.mono _ _ _ _ (fun d h' u => UpX.step s1 R1 u) q1)
end
/-! ### len, min, max, abs, int, isinstance, sum, all, any, tuple, list, sorted -/
def lenR : N3 := fun xs h Q => match xs with
  | [.str z] => z.length ≤ 16777216 ∧ Q (.int z.length) h
  | [d] => match itemsOf d h with
    | some ys => Q (.int ys.length) h
    | none => False
  | _ => False
def minR : N3 := fun xs h Q => match xs with
  | [.int i, .int j] => Q (.int (if j < i then j else i)) h
  | _ => False
def maxR : N3 := fun xs h Q => match xs with
  | [.int i, .int j] => Q (.int (if j > i then j else i)) h
  | _ => False
def absR : N3 := fun xs h Q => match xs with
  | [.int i] => Q (.int (if i < 0 then -i else i)) h
  | _ => False
def intR : N3 := fun xs h Q => match xs with
  | [.int i] => Q (.int i) h
  | [.bl k] => Q (.int (if k then 1 else 0)) h
  | _ => False
/-- the name of a thing's class -/
def tyN (d : D) (h : Sto) : Option String := match d with
  | .non => some "NoneType"
  | .bl _ => some "bool"
  | .int _ => some "int"
  | .str _ => some "str"
  | .tup _ => some "tuple"
  | .fl _ => some "list"
  | .ref n => match h[n]? with
    | some (.lst _) => some "list"
    | some (.dK _) => some "dict"
    | some (.dT _) => some "dict"
    | _ => none
  | _ => none
def isT (a T : String) : Bool := a == T || (a == "bool" && T == "int")
def isiR : N3 := fun xs h Q => match xs with
  | [x, .ty T] => (T ∈ ["int", "bool", "str", "tuple", "list", "dict"]) ∧ match tyN x h with
    | some a => Q (.bl (isT a T)) h
    | none => False
  | _ => False
def intsOf : List D → Option (List Int)
  | [] => some []
  | .int i :: r => (intsOf r).map (i :: ·)
  | _ :: _ => none
def blsOf : List D → Option (List Bool)
  | [] => some []
  | .bl i :: r => (blsOf r).map (i :: ·)
  | _ :: _ => none
theorem intsOf_map : ∀ ns : List Int, intsOf (ns.map D.int) = some ns
  | [] => rfl
  | n :: r => by simp [intsOf, intsOf_map r]
theorem blsOf_map : ∀ ns : List Bool, blsOf (ns.map D.bl) = some ns
  | [] => rfl
  | n :: r => by simp [blsOf, blsOf_map r]
theorem intsOf_eq : ∀ {xs : List D} {ns : List Int}, intsOf xs = some ns → xs = ns.map D.int
  | [], ns, e => by simp [intsOf] at e; subst e; rfl
  | .int i :: r, ns, e => by
    simp only [intsOf, Option.map_eq_some_iff] at e
    obtain ⟨ms, e, rfl⟩ := e
    rw [intsOf_eq e]; rfl
  | .non :: _, _, e => by simp [intsOf] at e
  | .bl _ :: _, _, e => by simp [intsOf] at e
  | .str _ :: _, _, e => by simp [intsOf] at e
  | .tup _ :: _, _, e => by simp [intsOf] at e
  | .fl _ :: _, _, e => by simp [intsOf] at e
  | .ref _ :: _, _, e => by simp [intsOf] at e
  | .ty _ :: _, _, e => by simp [intsOf] at e
  | .adr _ :: _, _, e => by simp [intsOf] at e
theorem blsOf_eq : ∀ {xs : List D} {ns : List Bool}, blsOf xs = some ns → xs = ns.map D.bl
  | [], ns, e => by simp [blsOf] at e; subst e; rfl
  | .bl i :: r, ns, e => by
    simp only [blsOf, Option.map_eq_some_iff] at e
    obtain ⟨ms, e, rfl⟩ := e
    rw [blsOf_eq e]; rfl
  | .non :: _, _, e => by simp [blsOf] at e
  | .int _ :: _, _, e => by simp [blsOf] at e
  | .str _ :: _, _, e => by simp [blsOf] at e
  | .tup _ :: _, _, e => by simp [blsOf] at e
  | .fl _ :: _, _, e => by simp [blsOf] at e
  | .ref _ :: _, _, e => by simp [blsOf] at e
  | .ty _ :: _, _, e => by simp [blsOf] at e
  | .adr _ :: _, _, e => by simp [blsOf] at e
def sumX : N3 := fun xs h Q => match intsOf xs with
  | some ns => Q (.int ns.sum) h
  | none => False
def allX : N3 := fun xs h Q => match blsOf xs with
  | some bs => Q (.bl (bs.all id)) h
  | none => False
def anyX : N3 := fun xs h Q => match blsOf xs with
  | some bs => Q (.bl (bs.any id)) h
  | none => False
def maxX : N3 := fun xs h Q => match intsOf xs with
  | some ns => 0 < ns.length ∧ ∀ m, m ∈ ns → (∀ y, y ∈ ns → y ≤ m) → Q (.int m) h
  | none => False
def minX : N3 := fun xs h Q => match intsOf xs with
  | some ns => 0 < ns.length ∧ ∀ m, m ∈ ns → (∀ y, y ∈ ns → m ≤ y) → Q (.int m) h
  | none => False
def tupX : N3 := fun xs h Q => Q (.tup xs) h
def lenX : N3 := fun xs h Q => Q (.int xs.length) h
/-- of a list that is a cell, by its items -/
def onL (r : N3) : N3 := fun xs h Q => match xs with
  | [d] => match listOf d h with
    | some ys => r ys h Q
    | none => False
  | _ => False
def tupR : N3 := fun xs h Q => match xs with
  | [.tup ys] => Q (.tup ys) h
  | [d] => match listOf d h with
    | some ys => Q (.tup ys) h
    | none => False
  | _ => False
def lstM : M3 := fun xs h Q => match xs with
  | [d] => match itemsOf d h with
    | some ys => Q ys h
    | none => False
  | _ => False
def srtX : M3 := fun xs h Q => match intsOf xs with
  | some ns => ∀ ns' : List Int, ns'.Perm ns → ns'.Pairwise (· ≤ ·) → Q (ns'.map .int) h
  | none => False
def onLM (r : M3) : M3 := fun xs h Q => match xs with
  | [d] => match listOf d h with
    | some ys => r ys h Q
    | none => False
  | _ => False
section
variable {X : Cx}
theorem k_len : Call3 X (.builtin "len") lenR := by
  refine ⟨fun xs h Q Q' w q => ?_, _, call_len_str.or call_len_seq, fun m h H xs vs Q R rs q => ?_⟩
  · unfold lenR at q ⊢
    split at q
    · exact ⟨q.1, w _ _ q.2⟩
    · split at q
      · exact w _ _ q
      · exact q.elim
    · exact q.elim
  · unfold lenR at q
    split at q
    · cases rs with
      | cons r rr => cases rr; cases r; exact .inl ⟨_, rfl, by rw [sizeLine_eq]; exact q.1, q.2 m H _ .refl R (.int _)⟩
    · split at q
      next ys e =>
        cases rs with
        | cons r rr =>
          cases rr
          obtain ⟨a, ws, rfl, sq, rw'⟩ := itemsOf_lift R r e
          exact .inr ⟨a, ws, rfl, sq, by rw [← rw'.length]; exact q m H _ .refl R (.int _)⟩
      next => exact q.elim
    · exact q.elim
theorem k_min (hc : X.calm = true) : Call3 X (.builtin "min") minR := by
  refine ⟨fun xs h Q Q' w q => ?_, _, call_min2 hc, fun m h H xs vs Q R rs q => ?_⟩
  · unfold minR at q ⊢
    split at q
    · exact w _ _ q
    · exact q.elim
  · unfold minR at q
    split at q
    · match vs, rs with
      | [_, _], .cons (.int i) (.cons (.int j) .nil) => exact ⟨i, j, rfl, q m H _ .refl R (.int _)⟩
    · exact q.elim
theorem k_max (hc : X.calm = true) : Call3 X (.builtin "max") maxR := by
  refine ⟨fun xs h Q Q' w q => ?_, _, call_max2 hc, fun m h H xs vs Q R rs q => ?_⟩
  · unfold maxR at q ⊢
    split at q
    · exact w _ _ q
    · exact q.elim
  · unfold maxR at q
    split at q
    · match vs, rs with
      | [_, _], .cons (.int i) (.cons (.int j) .nil) => exact ⟨i, j, rfl, q m H _ .refl R (.int _)⟩
    · exact q.elim
theorem k_abs : Call3 X (.builtin "abs") absR := by
  refine ⟨fun xs h Q Q' w q => ?_, _, call_abs, fun m h H xs vs Q R rs q => ?_⟩
  · unfold absR at q ⊢
    split at q
    · exact w _ _ q
    · exact q.elim
  · unfold absR at q
    split at q
    · match vs, rs with
      | [_], .cons (.int i) .nil => exact ⟨i, rfl, q m H _ .refl R (.int _)⟩
    · exact q.elim
theorem k_int : Call3 X (.type "int") intR := by
  refine ⟨fun xs h Q Q' w q => ?_, _, call_int1, fun m h H xs vs Q R rs q => ?_⟩
  · unfold intR at q ⊢
    split at q
    · exact w _ _ q
    · exact w _ _ q
    · exact q.elim
  · unfold intR at q
    split at q
    · match vs, rs with
      | [_], .cons (.int i) .nil => exact .inl ⟨i, rfl, q m H _ .refl R (.int _)⟩
    · match vs, rs with
      | [_], .cons (.bl i) .nil => exact .inr ⟨i, rfl, q m H _ .refl R (.int _)⟩
    · exact q.elim
theorem kitB_all : ∀ a ∈ ["NoneType", "bool", "int", "str", "tuple", "list", "dict"], ∀ T ∈ ["int", "bool", "str", "tuple", "list", "dict"], kitB a T = some (isT a T) := by decide +kernel
theorem RelD.tyx {K : PySem.W.Frag} {m : List Addr} {h : Sto} {H : Hp} {d : D} {v : V} {a : String} (R : Rep K m h H) (r : RelD K m H d v) (e : tyN d h = some a) : TyX K H v (.type a) ∧ a ∈ ["NoneType", "bool", "int", "str", "tuple", "list", "dict"] := by
  cases r with
  | non => simp [tyN] at e; subst e; exact ⟨.base .non, by simp⟩
  | bl b => simp [tyN] at e; subst e; exact ⟨.base (.bl b), by simp⟩
  | int b => simp [tyN] at e; subst e; exact ⟨.base (.int b), by simp⟩
  | str b => simp [tyN] at e; subst e; exact ⟨.base (.str b), by simp⟩
  | ty b => simp [tyN] at e
  | adr b => simp [tyN] at e
  | tup sq r =>
    simp [tyN] at e; subst e
    refine ⟨?_, by simp⟩
    exact .base (.tup sq)
  | fl sq r =>
    simp [tyN] at e; subst e
    refine ⟨?_, by simp⟩
    rcases sq with ⟨o, sq⟩ | ⟨o, its, n, k1, k2, _⟩
    · exact .base (.frz sq)
    · exact .kList k1 k2
  | ref em =>
    simp only [tyN] at e
    split at e
    next e2 =>
      cases e
      obtain ⟨vs, q, r⟩ := R.at_ _ _ _ em e2
      exact ⟨.base (.lst q), by simp⟩
    next e2 =>
      cases e
      obtain ⟨vs, q, r⟩ := R.at_ _ _ _ em e2
      exact ⟨.base (.dK q), by simp⟩
    next e2 =>
      cases e
      obtain ⟨vs, q, r⟩ := R.at_ _ _ _ em e2
      exact ⟨.base (.dT q), by simp⟩
    next => cases e
theorem k_isi : Call3 X (.builtin "isinstance") isiR := by
  refine ⟨fun xs h Q Q' w q => ?_, _, call_isi, fun m h H xs vs Q R rs q => ?_⟩
  · unfold isiR at q ⊢
    split at q
    · obtain ⟨hT, q⟩ := q
      refine ⟨hT, ?_⟩
      split at q
      · exact w _ _ q
      · exact q.elim
    · exact q.elim
  · unfold isiR at q
    split at q
    next x T =>
      obtain ⟨hT, q⟩ := q
      split at q
      next a e =>
        match vs, rs with
        | [v, _], .cons r (.cons (.ty _) .nil) =>
          obtain ⟨ty, ha⟩ := RelD.tyx R r e
          exact ⟨v, .ty T, _, _, isT a T, rfl, .ty T, ty, kit_ty (kitB_all a ha T hT), q m H _ .refl R (.bl _)⟩
      next => exact q.elim
    next => exact q.elim
theorem kx_sum (hc : X.calm = true) : CallX3 X (.builtin "sum") sumX := by
  refine ⟨fun xs h Q Q' w q => ?_, _, cr_sum hc, fun m h H a xs vs Q R ea rs q => ?_⟩
  · unfold sumX at q ⊢
    split at q
    · exact w _ _ q
    · exact q.elim
  · unfold sumX at q
    split at q
    next ns e =>
      have e1 := intsOf_eq e
      subst e1
      exact ⟨a, ns, rfl, by rw [← rs.ints]; exact .inl (.inl ea), q m H _ .refl R (.int _)⟩
    next => exact q.elim
theorem kx_all (hc : X.calm = true) : CallX3 X (.builtin "all") allX := by
  refine ⟨fun xs h Q Q' w q => ?_, _, cr_all hc, fun m h H a xs vs Q R ea rs q => ?_⟩
  · unfold allX at q ⊢
    split at q
    · exact w _ _ q
    · exact q.elim
  · unfold allX at q
    split at q
    next ns e =>
      have e1 := blsOf_eq e
      subst e1
      exact ⟨a, ns, rfl, by rw [← rs.bls]; exact .inl (.inl ea), q m H _ .refl R (.bl _)⟩
    next => exact q.elim
theorem kx_any (hc : X.calm = true) : CallX3 X (.builtin "any") anyX := by
  refine ⟨fun xs h Q Q' w q => ?_, _, cr_any hc, fun m h H a xs vs Q R ea rs q => ?_⟩
  · unfold anyX at q ⊢
    split at q
    · exact w _ _ q
    · exact q.elim
  · unfold anyX at q
    split at q
    next ns e =>
      have e1 := blsOf_eq e
      subst e1
      exact ⟨a, ns, rfl, by rw [← rs.bls]; exact .inl (.inl ea), q m H _ .refl R (.bl _)⟩
    next => exact q.elim
theorem kx_max (hc : X.calm = true) : CallX3 X (.builtin "max") maxX := by
  refine ⟨fun xs h Q Q' w q => ?_, _, cr_max hc, fun m h H a xs vs Q R ea rs q => ?_⟩
  · unfold maxX at q ⊢
    split at q
    · exact ⟨q.1, fun m hm hy => w _ _ (q.2 m hm hy)⟩
    · exact q.elim
  · unfold maxX at q
    split at q
    next ns e =>
      have e1 := intsOf_eq e
      subst e1
      exact ⟨a, ns, rfl, by rw [← rs.ints]; exact .inl (.inl ea), q.1, fun k hk hy => q.2 k hk hy m H _ .refl R (.int _)⟩
    next => exact q.elim
theorem kx_min (hc : X.calm = true) : CallX3 X (.builtin "min") minX := by
  refine ⟨fun xs h Q Q' w q => ?_, _, cr_min hc, fun m h H a xs vs Q R ea rs q => ?_⟩
  · unfold minX at q ⊢
    split at q
    · exact ⟨q.1, fun m hm hy => w _ _ (q.2 m hm hy)⟩
    · exact q.elim
  · unfold minX at q
    split at q
    next ns e =>
      have e1 := intsOf_eq e
      subst e1
      exact ⟨a, ns, rfl, by rw [← rs.ints]; exact .inl (.inl ea), q.1, fun k hk hy => q.2 k hk hy m H _ .refl R (.int _)⟩
    next => exact q.elim
theorem kx_tuple : CallX3 X (.type "tuple") tupX :=
  ⟨fun xs h Q Q' w q => w _ _ q, _, call_tuple_of, fun m h H a xs vs Q R ea rs q => ⟨a, vs, rfl, .inl ⟨.inl (.inl ea), fun l hl => q m _ (.ref l) (Step.lay hl) (R.lay hl) (.tup upd_same (rs.step R (Step.lay hl)))⟩⟩⟩
theorem kx_len : CallX3 X (.builtin "len") lenX :=
  ⟨fun xs h Q Q' w q => w _ _ q, _, call_len_seq, fun m h H a xs vs Q R ea rs q => ⟨a, vs, rfl, .inl (.inl (.inl ea)), by rw [← rs.length]; exact q m H _ .refl R (.int _)⟩⟩
theorem k_tuple : Call3 X (.type "tuple") tupR := by
  refine ⟨fun xs h Q Q' w q => ?_, _, call_tuple_of, fun m h H xs vs Q R rs q => ?_⟩
  · unfold tupR at q ⊢
    split at q
    · exact w _ _ q
    · split at q
      · exact w _ _ q
      · exact q.elim
    · exact q.elim
  · unfold tupR at q
    split at q
    · match vs, rs with
      | [_], .cons (.tup sq r) .nil => exact ⟨_, _, rfl, .inr ⟨TH sq, q m H _ .refl R (.tup sq r)⟩⟩
    · split at q
      next ys e =>
        match vs, rs with
        | [_], .cons r .nil =>
          obtain ⟨a, ws, rfl, sq, rr⟩ := listOf_lift R r e
          exact ⟨a, ws, rfl, .inl ⟨sq, fun l hl => q m _ (.ref l) (Step.lay hl) (R.lay hl) (.tup upd_same (rr.step R (Step.lay hl)))⟩⟩
      next => exact q.elim
    · exact q.elim
theorem kl_list : CallL3 X (.type "list") lstM := by
  refine ⟨fun xs h Q Q' w q => ?_, _, call_list_of, fun m h H xs vs Q R rs q => ?_⟩
  · unfold lstM at q ⊢
    split at q
    · split at q
      · exact w _ _ q
      · exact q.elim
    · exact q.elim
  · unfold lstM at q
    split at q
    · split at q
      next ys e =>
        match vs, rs with
        | [_], .cons r .nil =>
          obtain ⟨a, ws, rfl, sq, rr⟩ := itemsOf_lift R r e
          exact ⟨a, ws, rfl, sq, UpX.laid R rr q⟩
      next => exact q.elim
    · exact q.elim
theorem klx_list : CallLX3 X (.type "list") (fun xs h Q => Q xs h) :=
  ⟨fun xs h Q Q' w q => w _ _ q, _, call_list_of, fun m h H a xs vs Q R ea rs q => ⟨a, vs, rfl, .inl (.inl (.inl ea)), UpX.laid R rs q⟩⟩
theorem srt_ints {K : PySem.W.Frag} {m : List Addr} {H : Hp} (ns : List Int) : RelDs K m H (ns.map D.int) (ns.map V.int) := by
  induction ns with
  | nil => exact .nil
  | cons n r ih => exact .cons (.int n) ih
theorem klx_sorted : CallLX3 X (.builtin "sorted") srtX := by
  refine ⟨fun xs h Q Q' w q => ?_, _, cr_sortedI, fun m h H a xs vs Q R ea rs q => ?_⟩
  · unfold srtX at q ⊢
    split at q
    · exact fun ns' h1 h2 => w _ _ (q ns' h1 h2)
    · exact q.elim
  · unfold srtX at q
    split at q
    next ns e =>
      have e1 := intsOf_eq e
      subst e1
      exact ⟨a, ns, rfl, by rw [← rs.ints]; exact .inl (.inl ea), fun ns' p h1 h2 hp => UpX.laid R (srt_ints ns') (q ns' h1 h2) p hp⟩
    next => exact q.elim
theorem kl_sorted : CallL3 X (.builtin "sorted") (onLM srtX) := by
  refine ⟨fun xs h Q Q' w q => ?_, _, cr_sortedI, fun m h H xs vs Q R rs q => ?_⟩
  · unfold onLM at q ⊢
    split at q
    · split at q
      · unfold srtX at q ⊢
        split at q
        · exact fun ns' h1 h2 => w _ _ (q ns' h1 h2)
        · exact q.elim
      · exact q.elim
    · exact q.elim
  · unfold onLM at q
    split at q
    · split at q
      next ys e =>
        match vs, rs with
        | [_], .cons r .nil =>
          obtain ⟨a, ws, rfl, sq, rr⟩ := listOf_lift R r e
          unfold srtX at q
          split at q
          next ns e =>
            have e1 := intsOf_eq e
            subst e1
            exact ⟨a, ns, rfl, by rw [← rr.ints]; exact sq, fun ns' p h1 h2 hp => UpX.laid R (srt_ints ns') (q ns' h1 h2) p hp⟩
          next => exact q.elim
      next => exact q.elim
    · exact q.elim
/-- a rule over a new list serves a list that is a cell, where it hangs on the reading alone -/
theorem k_sum (hc : X.calm = true) : Call3 X (.builtin "sum") (onL sumX) := by
  refine ⟨fun xs h Q Q' w q => ?_, _, cr_sum hc, fun m h H xs vs Q R rs q => ?_⟩
  · unfold onL at q ⊢
    split at q
    · split at q
      · exact (kx_sum hc).mono _ _ _ _ w q
      · exact q.elim
    · exact q.elim
  · unfold onL at q
    split at q
    · split at q
      next ys e =>
        match vs, rs with
        | [_], .cons r .nil =>
          obtain ⟨a, ws, rfl, sq, rr⟩ := listOf_lift R r e
          unfold sumX at q
          split at q
          next ns e =>
            have e1 := intsOf_eq e
            subst e1
            exact ⟨a, ns, rfl, by rw [← rr.ints]; exact sq, q m H _ .refl R (.int _)⟩
          next => exact q.elim
      next => exact q.elim
    · exact q.elim
theorem k_max1 (hc : X.calm = true) : Call3 X (.builtin "max") (onL maxX) := by
  refine ⟨fun xs h Q Q' w q => ?_, _, cr_max hc, fun m h H xs vs Q R rs q => ?_⟩
  · unfold onL at q ⊢
    split at q
    · split at q
      · exact (kx_max hc).mono _ _ _ _ w q
      · exact q.elim
    · exact q.elim
  · unfold onL at q
    split at q
    · split at q
      next ys e =>
        match vs, rs with
        | [_], .cons r .nil =>
          obtain ⟨a, ws, rfl, sq, rr⟩ := listOf_lift R r e
          unfold maxX at q
          split at q
          next ns e =>
            have e1 := intsOf_eq e
            subst e1
            exact ⟨a, ns, rfl, by rw [← rr.ints]; exact sq, q.1, fun k hk hy => q.2 k hk hy m H _ .refl R (.int _)⟩
          next => exact q.elim
      next => exact q.elim
    · exact q.elim
theorem k_min1 (hc : X.calm = true) : Call3 X (.builtin "min") (onL minX) := by
  refine ⟨fun xs h Q Q' w q => ?_, _, cr_min hc, fun m h H xs vs Q R rs q => ?_⟩
  · unfold onL at q ⊢
    split at q
    · split at q
      · exact (kx_min hc).mono _ _ _ _ w q
      · exact q.elim
    · exact q.elim
  · unfold onL at q
    split at q
    · split at q
      next ys e =>
        match vs, rs with
        | [_], .cons r .nil =>
          obtain ⟨a, ws, rfl, sq, rr⟩ := listOf_lift R r e
          unfold minX at q
          split at q
          next ns e =>
            have e1 := intsOf_eq e
            subst e1
            exact ⟨a, ns, rfl, by rw [← rr.ints]; exact sq, q.1, fun k hk hy => q.2 k hk hy m H _ .refl R (.int _)⟩
          next => exact q.elim
      next => exact q.elim
    · exact q.elim
/-! ### methods -/
def tBits3 (to : E3) : E3 := fun ρ h Q => to ρ h fun x h1 => match x with
  | .int i => Q (.int (Builtin.Int.intBits i : Nat)) h1
  | _ => False
theorem e3_bits {o : Expr} {to : E3} {apos pos : Pos} (ho : PE3 X o to) (hbase : attributeBase o "bit_length" X.env (eval o X.env) = eval o X.env := by rfl) (hline : (apos.endLine == pos.line) = true := by rfl) : PE3 X (.Call (.Attribute o "bit_length" apos) [] [] pos) (tBits3 to) := by
  refine ⟨PE.weak (pe_bits ho.pe hbase hline) fun σ H Q ⟨m, h, ρ, R, S, q⟩ => ?_, fun ρ h Q Q' w q => ho.mono _ _ _ _ (fun d h1 q1 => ?_) q⟩
  · refine LE.bind ho.mono R S q fun m1 H1 u y h1 s1 R1 ry S1 q1 => ?_
    cases ry with
    | int i => exact ⟨i, rfl, q1 m1 H1 _ s1 R1 (.int _)⟩
    | _ => exact q1.elim
  · cases d <;> first | exact w _ _ q1 | exact q1
/-- a method of a list that is a cell: what becomes of the list, and what is told -/
abbrev T3 := List D → List D → Sto → (D → List D → Prop) → Prop
def tLM (r : T3) (to : E3) (ta : A3) : E3 := fun ρ h Q => to ρ h fun x h1 => match x with
  | .ref n => (match h1[n]? with
    | some (.lst _) => True
    | _ => False) ∧ ta ρ h1 fun ds h2 => match h2[n]? with
      | some (.lst xs) => r xs ds h2 fun d ys => Q d (h2.set n (.lst ys))
      | _ => False
  | _ => False
structure Mt3 (X : Cx) (id : String) (r3 : T3) : Prop where
  mono : ∀ xs ds h (Q Q' : D → List D → Prop), (∀ d h', Q d h' → Q' d h') → r3 xs ds h Q → r3 xs ds h Q'
  ok : ∃ r, MtM X id r ∧ ∀ m h H a xs vs ds ws Q, Rep X.K m h H → H a = some (.lst vs) → a ∈ m → RelDs X.K m H xs vs → RelDs X.K m H ds ws →
    r3 xs ds h (fun d ys => ∀ v us, RelD X.K m H d v → RelDs X.K m H ys us → Q v (upd H a (.lst us))) → r (.ref a) ws H Q
theorem MonoE.lm {r : T3} {to : E3} {ta : A3} (mr : ∀ xs ds h (Q Q' : D → List D → Prop), (∀ d h', Q d h' → Q' d h') → r xs ds h Q → r xs ds h Q') (mo : MonoE to) (ma : MonoA ta) : MonoE (tLM r to ta) := fun ρ h Q Q' w q => mo _ _ _ _ (fun x h1 q1 => by
  cases x with
  | ref n =>
    refine ⟨q1.1, ma _ _ _ _ (fun ds h2 q2 => ?_) q1.2⟩
    split at q2
    · exact mr _ _ _ _ _ (fun d ys q => w _ _ q) q2
    · exact q2.elim
  | _ => exact q1) q
theorem lm_lift {id : String} {r3 : T3} {to : E3} {ta : A3} (c : Mt3 X id r3) (mo : MonoE to) (ma : MonoA ta) : ∃ r, MtM X id r ∧ ∀ σ H Q, LE X.K (tLM r3 to ta) σ H Q → tBM X.K "list" r (LE X.K to) (LA X.K ta) σ H Q := by
  obtain ⟨r, hr, w⟩ := c.ok
  refine ⟨r, hr, fun σ H Q ⟨m, h, ρ, R, S, q⟩ => ?_⟩
  refine LE.bind mo R S q fun m1 H1 u y h1 s1 R1 ry S1 q1 => ?_
  cases ry with
  | @ref n a em =>
    obtain ⟨t1, q1⟩ := q1
    refine ⟨?_, LA.bind ma R1 S1 q1 fun m2 H2 ws ds h2 s2 R2 rs S2 q2 => ?_⟩
    · split at t1
      next xs e =>
        obtain ⟨vs, q, r⟩ := R1.at_ _ _ _ em e
        exact .inl ⟨rfl, vs, .inl (.inl q)⟩
      next => exact t1.elim
    · split at q2
      next xs e =>
        have em2 := s2.get em
        obtain ⟨vs, ea, rx⟩ := R2.at_ _ _ _ em2 e
        have hm : a ∈ m2 := List.mem_of_getElem? em2
        refine w m2 h2 H2 a xs vs ds ws Q R2 ea hm rx rs (c.mono _ _ _ _ _ (fun d ys u v us rd ry => ?_) q2)
        exact u m2 _ v ((s1.trans s2).trans (Step.put hm)) (R2.put em2 ⟨us, upd_same, ry.step R2 (Step.put hm)⟩) (rd.step R2 (Step.put hm))
      next => exact q2.elim
  | _ => exact q1.elim
theorem e3_lm {o e : Expr} {es : List Expr} {name : Str} {id : String} {apos cpos : Pos} {r3 : T3} {to : E3} {ta : A3} (c : Mt3 X id r3) (slot : Slot "list" name id) (hty : typeOf (.builtin id) = pure (.type "method_descriptor")) (ho : PE3 X o to) (ha : PA3 X (e :: es) ta)
    (hbase : attributeBase o name X.env (eval o X.env) = eval o X.env := by rfl)
    (hfew : ((backTo cpos (starEach (e :: es) X.env)).all (fun x => !x.1) && (backToKw cpos (keywordEach [] X.env)).all (fun x => x.1.isSome)
      && decide ((e :: es).length + ([] : List Keyword).length + (if ([] : List Keyword).isEmpty then 0 else 1) < 30)) = true := by rfl)
    (hline : (apos.endLine == cpos.line) = true := by rfl) (hs : starEach (e :: es) X.env = (false, eval e X.env) :: starEach es X.env := by rfl) (hplain : (backTo cpos (starEach es X.env)).any (·.1) = false := by rfl) :
    PE3 X (.Call (.Attribute o name apos) (e :: es) [] cpos) (tLM r3 to ta) := by
  obtain ⟨r, hr, w⟩ := lm_lift c ho.mono ha.mono
  exact ⟨PE.weak (pe_bm PySem.F.plainAttrs_list slot hty hr ho.pe ha.pe hbase hfew hline hs hplain) w, .lm c.mono ho.mono ha.mono⟩
theorem MonoA.n3 : MonoA tN3 := fun ρ h Q Q' w q => w _ _ q
theorem e3_lm0 {o : Expr} {name : Str} {id : String} {apos cpos : Pos} {r3 : T3} {to : E3} (c : Mt3 X id r3) (slot : Slot "list" name id) (hty : typeOf (.builtin id) = pure (.type "method_descriptor")) (ho : PE3 X o to)
    (hbase : attributeBase o name X.env (eval o X.env) = eval o X.env := by rfl) (hline : (apos.endLine == cpos.line) = true := by rfl) :
    PE3 X (.Call (.Attribute o name apos) [] [] cpos) (tLM r3 to tN3) := by
  obtain ⟨r, hr, w⟩ := lm_lift c ho.mono MonoA.n3
  refine ⟨PE.weak (pe_bm0 PySem.F.plainAttrs_list slot hty hr ho.pe hbase hline) fun σ H Q q => ?_, .lm c.mono ho.mono MonoA.n3⟩
  obtain ⟨m, h, ρ, R, S, q⟩ := w σ H Q q
  refine ⟨m, h, ρ, R, S, ho.mono _ _ _ _ (fun d h1 q1 m1 H1 v s1 R1 rd => ?_) q⟩
  obtain ⟨t1, m2, h2, ρ2, R2, S2, q2⟩ := q1 m1 H1 v s1 R1 rd
  exact ⟨t1, q2 m2 H1 [] .refl R2 .nil⟩
def appT : T3 := fun xs ds _ Q => match ds with
  | [y] => xs.length < 16777216 ∧ Q .non (xs ++ [y])
  | _ => False
def extT : T3 := fun xs ds h Q => match ds with
  | [.ref n] => match h[n]? with
    | some (.lst zs) => xs.length + zs.length ≤ 16777216 ∧ Q .non (xs ++ zs)
    | _ => False
  | _ => False
def popT : T3 := fun xs ds _ Q => match ds with
  | [] => match xs[xs.length - 1]? with
    | some y => Q y xs.dropLast
    | none => False
  | _ => False
def popAtT : T3 := fun xs ds _ Q => match ds with
  | [.int i] => (-(2 ^ 63) ≤ i ∧ i < 2 ^ 63) ∧ match seqIndex? i xs.length with
    | some k => (match xs[k]? with
      | some y => Q y (xs.eraseIdx k)
      | none => False)
    | none => False
  | _ => False
def revT : T3 := fun xs ds _ Q => match ds with
  | [] => Q .non xs.reverse
  | _ => False
theorem m_append : Mt3 X "list.append" appT := by
  refine ⟨fun xs ds h Q Q' w q => ?_, _, mt_append, fun m h H a xs vs ds ws Q R ea hm rx rs q => ?_⟩
  · unfold appT at q ⊢
    split at q
    · exact ⟨q.1, w _ _ q.2⟩
    · exact q.elim
  · unfold appT at q
    split at q
    · match ws, rs with
      | [v], .cons r .nil => exact ⟨a, vs, v, rfl, rfl, ea, by rw [sizeLine_eq, ← rx.length]; exact q.1, q.2 _ _ .non (rx.append (.cons r .nil))⟩
    · exact q.elim
theorem m_pop : Mt3 X "list.pop" popT := by
  refine ⟨fun xs ds h Q Q' w q => ?_, _, mt_pop, fun m h H a xs vs ds ws Q R ea hm rx rs q => ?_⟩
  · unfold popT at q ⊢
    split at q
    · split at q
      · exact w _ _ q
      · exact q.elim
    · exact q.elim
  · unfold popT at q
    split at q
    · split at q
      next y ey =>
        cases rs
        rw [rx.length] at ey
        obtain ⟨v, ev, rv⟩ := rx.get ey
        exact ⟨a, vs, v, rfl, rfl, ea, ev, q _ _ rv rx.dropLast⟩
      next => exact q.elim
    · exact q.elim
theorem m_popAt : Mt3 X "list.pop" popAtT := by
  refine ⟨fun xs ds h Q Q' w q => ?_, _, mt_popAt, fun m h H a xs vs ds ws Q R ea hm rx rs q => ?_⟩
  · unfold popAtT at q ⊢
    split at q
    · refine ⟨q.1, ?_⟩
      have q2 := q.2
      split at q2
      · split at q2
        · exact w _ _ q2
        · exact q2.elim
      · exact q2.elim
    · exact q.elim
  · unfold popAtT at q
    split at q
    next i =>
      obtain ⟨hb, q2⟩ := q
      split at q2
      next k ek =>
        split at q2
        next y ey =>
          match ws, rs with
          | [_], .cons (.int _) .nil =>
            obtain ⟨v, ev, rv⟩ := rx.get ey
            exact ⟨a, vs, i, k, v, rfl, rfl, ea, hb.1, hb.2, by rw [← rx.length]; exact ek, ev, q2 _ _ rv (rx.erase k)⟩
        next => exact q2.elim
      next => exact q2.elim
    next => exact q.elim
theorem m_reverse : Mt3 X "list.reverse" revT := by
  refine ⟨fun xs ds h Q Q' w q => ?_, _, mt_reverse, fun m h H a xs vs ds ws Q R ea hm rx rs q => ?_⟩
  · unfold revT at q ⊢
    split at q
    · exact w _ _ q
    · exact q.elim
  · unfold revT at q
    split at q
    · cases rs
      exact ⟨a, vs, rfl, rfl, ea, q _ _ .non rx.reverse⟩
    · exact q.elim
theorem m_extend : Mt3 X "list.extend" extT := by
  refine ⟨fun xs ds h Q Q' w q => ?_, _, mt_extend, fun m h H a xs vs ds ws Q R ea hm rx rs q => ?_⟩
  · unfold extT at q ⊢
    split at q
    · split at q
      · exact ⟨q.1, w _ _ q.2⟩
      · exact q.elim
    · exact q.elim
  · unfold extT at q
    split at q
    · split at q
      next zs e =>
        match ws, rs with
        | [_], .cons r .nil =>
          obtain ⟨b, us, rfl, _, eb, r2⟩ := RelD.inst R r e
          exact ⟨a, b, vs, us, rfl, rfl, ea, eb, by rw [sizeLine_eq, ← rx.length, ← r2.length]; exact q.1, q.2 _ _ .non (rx.append r2)⟩
      next => exact q.elim
    · exact q.elim
end
end F3
/-! FI: small helps: targets, list(range(..)), promises in one form, the law's start, loops by invariants. -/
namespace F3
open PySem PySem.Spec PyProof.Rows L2

theorem gm_n {i : Nat} : ∀ d ρ h (Q Q' : S3 → Sto → Prop), (∀ ρ h, Q ρ h → Q' ρ h) → gN i d ρ h Q → gN i d ρ h Q' := fun d ρ h Q Q' w q => w _ _ q
theorem gm_nil : ∀ d ρ h (Q Q' : S3 → Sto → Prop), (∀ ρ h, Q ρ h → Q' ρ h) → gNil3 d ρ h Q → gNil3 d ρ h Q' := fun d ρ h Q Q' w q => by
  cases d with
  | nil => exact w _ _ q
  | cons a b => exact q
theorem gm_cons {g : G3} {r : Gs3} (h1 : ∀ d ρ h (Q Q' : S3 → Sto → Prop), (∀ ρ h, Q ρ h → Q' ρ h) → g d ρ h Q → g d ρ h Q') (h2 : ∀ d ρ h (Q Q' : S3 → Sto → Prop), (∀ ρ h, Q ρ h → Q' ρ h) → r d ρ h Q → r d ρ h Q') :
    ∀ d ρ h (Q Q' : S3 → Sto → Prop), (∀ ρ h, Q ρ h → Q' ρ h) → gCons3 g r d ρ h Q → gCons3 g r d ρ h Q' := fun d ρ h Q Q' w q => by
  cases d with
  | nil => exact q
  | cons a b => exact h1 _ _ _ _ _ (fun _ _ q => h2 _ _ _ _ _ w q) q
theorem gm_tup {n : Nat} {r : Gs3} (h2 : ∀ d ρ h (Q Q' : S3 → Sto → Prop), (∀ ρ h, Q ρ h → Q' ρ h) → r d ρ h Q → r d ρ h Q') :
    ∀ d ρ h (Q Q' : S3 → Sto → Prop), (∀ ρ h, Q ρ h → Q' ρ h) → gTup3 n r d ρ h Q → gTup3 n r d ρ h Q' := fun d ρ h Q Q' w q => by
  cases d with
  | tup xs => exact ⟨q.1, h2 _ _ _ _ _ w q.2⟩
  | _ => exact q

/-! ### promises in one form -/
/-- called with the arguments of a, where pre holds, any end that res tells -/
def spR {α : Type} (args : α → List D) (pre : α → Sto → Prop) (res : α → Sto → D → Sto → Prop) : Sp3 := fun ds h Q _ => ∃ a, ds = args a ∧ pre a h ∧ ∀ d h', res a h d h' → Q d h'
theorem mono_spR {α : Type} {args : α → List D} {pre : α → Sto → Prop} {res : α → Sto → D → Sto → Prop} : MonoS (spR args pre res) := fun ds h Q Q' E E' w _ ⟨a, e, p, q⟩ => ⟨a, e, p, fun d h' r => w _ _ (q d h' r)⟩
theorem len_spR {α : Type} {args : α → List D} {pre : α → Sto → Prop} {res : α → Sto → D → Sto → Prop} {n : Nat} (hl : ∀ a, (args a).length = n) : ∀ ds h Q E, spR args pre res ds h Q E → ds.length = n := fun ds h Q E ⟨a, e, _⟩ => by rw [e]; exact hl a
/-- the same where the end is one alone -/
def spD {α : Type} (args : α → List D) (pre : α → Sto → Prop) (val : α → Sto → D) (sto : α → Sto → Sto) : Sp3 := fun ds h Q _ => ∃ a, ds = args a ∧ pre a h ∧ Q (val a h) (sto a h)
theorem mono_spD {α : Type} {args : α → List D} {pre : α → Sto → Prop} {val : α → Sto → D} {sto : α → Sto → Sto} : MonoS (spD args pre val sto) := fun ds h Q Q' E E' w _ ⟨a, e, p, q⟩ => ⟨a, e, p, w _ _ q⟩
theorem len_spD {α : Type} {args : α → List D} {pre : α → Sto → Prop} {val : α → Sto → D} {sto : α → Sto → Sto} {n : Nat} (hl : ∀ a, (args a).length = n) : ∀ ds h Q E, spD args pre val sto ds h Q E → ds.length = n := fun ds h Q E ⟨a, e, _⟩ => by rw [e]; exact hl a
/-- the law: a script of at most 63 ints, True told -/
def sp_law : Sp3 := fun ds h Q _ => ∃ ns : List Int, ds = [.fl (ns.map .int)] ∧ ns.length ≤ 63 ∧ h = [] ∧ ∀ h', Q (.bl true) h'
theorem mono_law : MonoS sp_law := fun ds h Q Q' E E' w _ ⟨a, e, p, r, q⟩ => ⟨a, e, p, r, fun h' => w _ _ (q h')⟩
theorem len_law : ∀ ds h Q E, sp_law ds h Q E → ds.length = 1 := fun ds h Q E ⟨a, e, _⟩ => by rw [e]; rfl
theorem law_start {K : PySem.W.Frag} {H : Hp} {a : Addr} {ns : List Int} (hl : ns.length ≤ 63) (o : Only H) (s : SqL K H a (ns.map V.int)) {E : XK} (_ : True) : LSp K sp_law [.ref a] H (fun v _ => v = .bl true) E :=
  ⟨[], [], [.fl (ns.map .int)], ⟨rfl, List.nodup_nil, fun n b c e => by simp at e⟩, .cons (script3 o s) .nil, ns, rfl, hl, rfl, fun h' m' H' v _ _ r => by cases r; rfl⟩
theorem start_law : True := trivial

/-! ### loops by invariants -/
/-- a for: what holds ahead of each turn, by what is left -/
theorem forI_inv {g : G3} {b : C3} {st : Sto → Prop} {E : Ends3} (Inv : List D → S3 → Sto → Prop) (hs : ∀ xs ρ h, Inv xs ρ h → st h) (h0 : ∀ ρ h, Inv [] ρ h → E.nx ρ h)
    (h1 : ∀ x r ρ h, Inv (x :: r) ρ h → g x ρ h fun ρ' h' => b { E with nx := Inv r, ct := Inv r, bk := E.nx } ρ' h')
    (mg : ∀ d ρ h (Q Q' : S3 → Sto → Prop), (∀ ρ h, Q ρ h → Q' ρ h) → g d ρ h Q → g d ρ h Q') (mb : MonoC b) : ∀ xs ρ h, Inv xs ρ h → forI g b st E xs ρ h
  | [], ρ, h, i => ⟨hs _ _ _ i, h0 _ _ i⟩
  | x :: r, ρ, h, i => ⟨hs _ _ _ i, mg _ _ _ _ _ (fun ρ' h' q => mb { E with nx := Inv r, ct := Inv r, bk := E.nx } _ _ _ ⟨fun ρ h i => forI_inv Inv hs h0 h1 mg mb r ρ h i, fun _ _ q => q, fun _ _ q => q, fun ρ h i => forI_inv Inv hs h0 h1 mg mb r ρ h i⟩ q) (h1 x r ρ h i)⟩

/-! ### list(range(..)), list(reversed(..)) -/
def xIt (it : I3) : A3 := fun ρ h Q => it ρ h fun xs _ h1 => Q xs h1
end F3
/-! FJ: the readings' rows for the simplifier: each rule at values of a known kind. -/
namespace F3
open PySem PySem.Spec PyProof.Rows L2

section
variable {h : Sto} {Q : DK} {i j : Int} {a b : Bool} {x y : Str} {xs ys : List D} {n m : Nat} {d e : D} {ρ : S3}
/-- what stands at a cell that is a list -/
def onLst (o : Option Cell) (k : List D → Prop) : Prop := match o with
  | some (.lst xs) => k xs
  | _ => False
theorem onLst_some {k : List D → Prop} : onLst (some (.lst xs)) k = k xs := rfl
theorem addR_ii : addR (.int i) (.int j) h Q = Q (.int (i + j)) h := rfl
theorem addR_ss : addR (.str x) (.str y) h Q = (x.length + y.length ≤ 16777216 ∧ Q (.str (x ++ y)) h) := rfl
theorem addR_tt : addR (.tup xs) (.tup ys) h Q = (xs ≠ [] ∧ xs.length + ys.length ≤ 16777216 ∧ Q (.tup (xs ++ ys)) h) := rfl
theorem addR_rr : addR (.ref n) (.ref m) h Q = onLst h[n]? fun xs => onLst h[m]? fun ys => xs.length + ys.length ≤ 16777216 ∧ Q (.ref h.length) (h ++ [.lst (xs ++ ys)]) := by
  unfold addR onLst
  simp only
  cases h[n]? with
  | none => rfl
  | some c =>
    cases c with
    | lst xs =>
      cases h[m]? with
      | none => rfl
      | some c => cases c <;> rfl
    | _ => rfl
theorem subR_ii : subR (.int i) (.int j) h Q = Q (.int (i - j)) h := rfl
theorem mulR_ii : mulR (.int i) (.int j) h Q = (mulOk i j ∧ Q (.int (i * j)) h) := rfl
theorem mulR_ri : mulR (.ref n) (.int j) h Q = onLst h[n]? fun xs => (-(2 ^ 63) ≤ j ∧ j < 2 ^ 63 ∧ xs.length * j.toNat ≤ 16777216) ∧ Q (.ref h.length) (h ++ [.lst (List.replicate j.toNat xs).flatten]) := rfl
theorem divR_ii : divR (.int i) (.int j) h Q = (divOk j ∧ Q (.int (i / j)) h) := rfl
theorem modR_ii : modR (.int i) (.int j) h Q = (0 < j ∧ Q (.int (i % j)) h) := rfl
theorem powR_ii : powR (.int i) (.int j) h Q = ((0 ≤ j ∧ j ≤ 1000000 ∧ i.natAbs < 2 ^ 64) ∧ Q (.int (i ^ j.toNat)) h) := rfl
theorem ltR_ii : ltR (.int i) (.int j) h Q = Q (.bl (decide (i < j))) h := rfl
theorem leR_ii : leR (.int i) (.int j) h Q = Q (.bl (decide (i ≤ j))) h := rfl
theorem gtR_ii : gtR (.int i) (.int j) h Q = Q (.bl (decide (j < i))) h := rfl
theorem geR_ii : geR (.int i) (.int j) h Q = Q (.bl (decide (j ≤ i))) h := rfl
theorem negR_i : negR (.int i) h Q = Q (.int (-i)) h := rfl
/-- == by the data -/
def eqP (o p : Option PyData) (k : Bool → Prop) : Prop := match o, p with
  | some p, some q => k (PyData.eqv p q)
  | _, _ => False
theorem eqP_some {p q : PyData} {k : Bool → Prop} : eqP (some p) (some q) k = k (PyData.eqv p q) := rfl
theorem eqR_ii : eqR (.int i) (.int j) h Q = Q (.bl (decide (i = j))) h := rfl
theorem neR_ii : neR (.int i) (.int j) h Q = Q (.bl (!decide (i = j))) h := rfl
theorem eqR_bb : eqR (.bl a) (.bl b) h Q = Q (.bl (a == b)) h := rfl
theorem neR_bb : neR (.bl a) (.bl b) h Q = Q (.bl (!(a == b))) h := rfl
theorem eqR_gen (hd : ∀ i j, d = .int i → e = .int j → False) : eqR d e h Q = eqP (toP h 9 d) (toP h 9 e) fun b => Q (.bl b) h := by
  unfold eqR eqP
  split
  · exact (hd _ _ rfl rfl).elim
  · rfl
theorem neR_gen (hd : ∀ i j, d = .int i → e = .int j → False) : neR d e h Q = eqP (toP h 9 d) (toP h 9 e) fun b => Q (.bl (!b)) h := by
  unfold neR eqP
  split
  · exact (hd _ _ rfl rfl).elim
  · rfl
theorem eqR_te : eqR (.tup xs) e h Q = eqP (toP h 9 (.tup xs)) (toP h 9 e) fun b => Q (.bl b) h := eqR_gen (by simp)
theorem neR_te : neR (.tup xs) e h Q = eqP (toP h 9 (.tup xs)) (toP h 9 e) fun b => Q (.bl (!b)) h := neR_gen (by simp)
theorem eqR_re : eqR (.ref n) e h Q = eqP (toP h 9 (.ref n)) (toP h 9 e) fun b => Q (.bl b) h := eqR_gen (by simp)
theorem neR_re : neR (.ref n) e h Q = eqP (toP h 9 (.ref n)) (toP h 9 e) fun b => Q (.bl (!b)) h := neR_gen (by simp)
theorem eqR_se : eqR (.str x) e h Q = eqP (toP h 9 (.str x)) (toP h 9 e) fun b => Q (.bl b) h := eqR_gen (by simp)
theorem neR_se : neR (.str x) e h Q = eqP (toP h 9 (.str x)) (toP h 9 e) fun b => Q (.bl (!b)) h := neR_gen (by simp)
theorem eqR_ne : eqR .non e h Q = eqP (toP h 9 .non) (toP h 9 e) fun b => Q (.bl b) h := eqR_gen (by simp)
theorem neR_ne : neR .non e h Q = eqP (toP h 9 .non) (toP h 9 e) fun b => Q (.bl (!b)) h := neR_gen (by simp)
theorem isR_n : isR d .non h Q = Q (.bl d.isN) h := rfl
theorem isnR_n : isnR d .non h Q = Q (.bl (!d.isN)) h := rfl
theorem isR_bb : isR (.bl a) (.bl b) h Q = Q (.bl (decide (a = b))) h := rfl
theorem isnR_bb : isnR (.bl a) (.bl b) h Q = Q (.bl (!decide (a = b))) h := rfl
theorem isN_non : D.isN .non = true := rfl
theorem isN_int : D.isN (.int i) = false := rfl
theorem isN_tup : D.isN (.tup xs) = false := rfl
theorem isN_ref : D.isN (.ref n) = false := rfl
theorem isN_bl : D.isN (.bl a) = false := rfl
theorem isN_str : D.isN (.str x) = false := rfl
theorem itemsOf_t : itemsOf (.tup xs) h = some xs := rfl
theorem itemsOf_f : itemsOf (.fl xs) h = some xs := rfl
theorem itemsOf_r (e : h[n]? = some (.lst xs)) : itemsOf (.ref n) h = some xs := by unfold itemsOf; simp only [e]
theorem listOf_f : listOf (.fl xs) h = some xs := rfl
theorem listOf_r (e : h[n]? = some (.lst xs)) : listOf (.ref n) h = some xs := by unfold listOf; simp only [e]
theorem ixR_ti : ixR (.tup xs) (.int i) h Q = atD xs i fun d => Q d h := rfl
theorem ixR_fi : ixR (.fl xs) (.int i) h Q = atD xs i fun d => Q d h := rfl
theorem ixR_ri : ixR (.ref n) (.int i) h Q = onLst h[n]? fun xs => atD xs i fun d => Q d h := by
  unfold ixR onLst itemsOf
  simp only
  cases h[n]? with
  | none => rfl
  | some c => cases c <;> rfl
theorem ixR_si : ixR (.str x) (.int i) h Q = (x.length ≤ 16777216 ∧ (match atI x.cps.toList i with | some c => Q (.str ⟨#[c]⟩) h | none => False)) := rfl
theorem atD_of {k : D → Prop} (e : atI xs i = some d) : atD xs i k = k d := by unfold atD; rw [e]
theorem atD_all {k : D → Prop} (h0 : 0 ≤ i) (h1 : i < xs.length) (q : ∀ d ∈ xs, k d) : atD xs i k := by
  have e : atI xs i = xs[i.toNat]? := by
    unfold atI ixN
    rw [if_pos h0, if_pos h1]; rfl
  have hl : i.toNat < xs.length := by omega
  rw [atD_of (e.trans (List.getElem?_eq_getElem hl))]
  exact q _ (List.getElem_mem _)
theorem atD_0 {k : D → Prop} : atD (d :: xs) 0 k = k d := by
  have : atI (d :: xs) 0 = some d := by
    unfold atI ixN
    rw [if_pos (by decide), if_pos (by simp only [List.length_cons]; omega)]; rfl
  unfold atD; rw [this]
theorem atD_s {k : D → Prop} {i : Int} (hi : 0 ≤ i) : atD (d :: xs) (i + 1) k = atD xs i k := by
  have : atI (d :: xs) (i + 1) = atI xs i := by
    unfold atI ixN
    rw [if_pos (by omega), if_pos hi]
    by_cases hl : i < xs.length
    · rw [if_pos (by simp only [List.length_cons]; omega), if_pos hl, show (i + 1).toNat = i.toNat + 1 by omega]; rfl
    · rw [if_neg (by simp only [List.length_cons]; omega), if_neg hl]; rfl
  unfold atD; rw [this]
theorem atD_1 {k : D → Prop} : atD (d :: xs) 1 k = atD xs 0 k := atD_s (i := 0) (by decide)
theorem atD_2 {k : D → Prop} : atD (d :: xs) 2 k = atD xs 1 k := atD_s (i := 1) (by decide)
theorem atD_3 {k : D → Prop} : atD (d :: xs) 3 k = atD xs 2 k := atD_s (i := 2) (by decide)
theorem atD_last {k : D → Prop} : atD (xs ++ [d]) (-1) k = k d := by
  unfold atD
  rw [atI_last]
theorem setR_ri {Q : Sto → Prop} : setR (.ref n) (.int i) d h Q = onLst h[n]? fun xs => (match ixN xs.length i with | some j => Q (h.set n (.lst (xs.set j d))) | none => False) := rfl
theorem ixN2_0 : ixN 2 0 = some 0 := rfl
theorem ixN2_1 : ixN 2 1 = some 1 := rfl
theorem ixN1_0 : ixN 1 0 = some 0 := rfl
theorem slR_t {lo hi : Option Int} : slR (.tup xs) lo hi h Q = (¬ (HT.sIx xs.length 0 lo = 0 ∧ HT.sIx xs.length xs.length hi = xs.length) ∧ Q (.tup (cutD xs lo hi)) h) := rfl
theorem slR_f {lo hi : Option Int} : slR (.fl xs) lo hi h Q = Q (.ref h.length) (h ++ [.lst (cutD xs lo hi)]) := rfl
theorem slR_r {lo hi : Option Int} : slR (.ref n) lo hi h Q = onLst h[n]? fun xs => Q (.ref h.length) (h ++ [.lst (cutD xs lo hi)]) := by
  unfold slR onLst listOf
  simp only
  cases h[n]? with
  | none => rfl
  | some c => cases c <;> rfl
theorem slR_s {lo hi : Option Int} : slR (.str x) lo hi h Q = (x.length ≤ 16777216 ∧ Q (.str (cutS x lo hi)) h) := rfl
theorem oSo_i {t : E3} {Q : Option Int → Sto → Prop} : oSo t ρ h Q = t ρ h fun d h1 => match d with | .int i => Q (some i) h1 | _ => False := rfl
theorem lenR_s : lenR [.str x] h Q = (x.length ≤ 16777216 ∧ Q (.int x.length) h) := rfl
theorem lenR_t : lenR [.tup xs] h Q = Q (.int xs.length) h := rfl
theorem lenR_f : lenR [.fl xs] h Q = Q (.int xs.length) h := rfl
theorem lenR_r : lenR [.ref n] h Q = onLst h[n]? fun xs => Q (.int xs.length) h := by
  unfold lenR onLst itemsOf
  simp only
  cases h[n]? with
  | none => rfl
  | some c => cases c <;> rfl
theorem minR_ii : minR [.int i, .int j] h Q = Q (.int (if j < i then j else i)) h := rfl
theorem maxR_ii : maxR [.int i, .int j] h Q = Q (.int (if j > i then j else i)) h := rfl
theorem absR_i : absR [.int i] h Q = Q (.int (if i < 0 then -i else i)) h := rfl
theorem intR_i : intR [.int i] h Q = Q (.int i) h := rfl
theorem intR_b : intR [.bl a] h Q = Q (.int (if a then 1 else 0)) h := rfl
/-- isinstance, by the names of the classes -/
def isB (o : Option String) (T : String) (k : Bool → Prop) : Prop := match o with
  | some a => k (isT a T)
  | none => False
theorem isB_some {s T : String} {k : Bool → Prop} : isB (some s) T k = k (isT s T) := rfl
theorem isiR_gen {T : String} (hT : T ∈ ["int", "bool", "str", "tuple", "list", "dict"]) : isiR [d, .ty T] h Q = isB (tyN d h) T fun b => Q (.bl b) h := by
  have e : isiR [d, .ty T] h Q = (T ∈ ["int", "bool", "str", "tuple", "list", "dict"] ∧ isB (tyN d h) T fun b => Q (.bl b) h) := rfl
  rw [e]
  exact propext ⟨fun q => q.2, fun q => ⟨hT, q⟩⟩
theorem isiR_int : isiR [d, .ty "int"] h Q = isB (tyN d h) "int" fun b => Q (.bl b) h := isiR_gen (by decide)
theorem isiR_bool : isiR [d, .ty "bool"] h Q = isB (tyN d h) "bool" fun b => Q (.bl b) h := isiR_gen (by decide)
theorem isiR_str : isiR [d, .ty "str"] h Q = isB (tyN d h) "str" fun b => Q (.bl b) h := isiR_gen (by decide)
theorem isiR_tuple : isiR [d, .ty "tuple"] h Q = isB (tyN d h) "tuple" fun b => Q (.bl b) h := isiR_gen (by decide)
theorem isiR_list : isiR [d, .ty "list"] h Q = isB (tyN d h) "list" fun b => Q (.bl b) h := isiR_gen (by decide)
theorem isiR_dict : isiR [d, .ty "dict"] h Q = isB (tyN d h) "dict" fun b => Q (.bl b) h := isiR_gen (by decide)
theorem tyN_non : tyN .non h = some "NoneType" := rfl
theorem tyN_bl : tyN (.bl a) h = some "bool" := rfl
theorem tyN_int : tyN (.int i) h = some "int" := rfl
theorem tyN_str : tyN (.str x) h = some "str" := rfl
theorem tyN_tup : tyN (.tup xs) h = some "tuple" := rfl
theorem tyN_fl : tyN (.fl xs) h = some "list" := rfl
theorem tyN_r (e : h[n]? = some (.lst xs)) : tyN (.ref n) h = some "list" := by unfold tyN; simp only [e]
theorem isT_1 : isT "bool" "int" = true := by decide
theorem isT_2 : isT "bool" "bool" = true := by decide
theorem isT_3 : isT "int" "int" = true := by decide
theorem isT_4 : isT "int" "bool" = false := by decide
theorem isT_5 : isT "tuple" "tuple" = true := by decide
theorem isT_6 : isT "list" "list" = true := by decide
theorem isT_7 : isT "str" "str" = true := by decide
theorem isT_8 : isT "tuple" "list" = false := by decide
theorem isT_9 : isT "list" "tuple" = false := by decide
theorem isT_10 : isT "tuple" "int" = false := by decide
theorem isT_11 : isT "list" "int" = false := by decide
theorem isT_12 : isT "str" "int" = false := by decide
theorem isT_13 : isT "NoneType" "int" = false := by decide
theorem isT_14 : isT "int" "tuple" = false := by decide
theorem isT_15 : isT "bool" "tuple" = false := by decide
theorem isT_16 : isT "str" "tuple" = false := by decide
theorem isT_17 : isT "NoneType" "tuple" = false := by decide
theorem isT_18 : isT "int" "list" = false := by decide
theorem isT_19 : isT "bool" "list" = false := by decide
theorem isT_20 : isT "str" "list" = false := by decide
theorem isT_21 : isT "NoneType" "list" = false := by decide
theorem isT_22 : isT "tuple" "bool" = false := by decide
theorem isT_23 : isT "list" "bool" = false := by decide
theorem isT_24 : isT "str" "bool" = false := by decide
theorem isT_25 : isT "NoneType" "bool" = false := by decide
theorem isT_26 : isT "int" "str" = false := by decide
theorem isT_27 : isT "bool" "str" = false := by decide
theorem isT_28 : isT "tuple" "str" = false := by decide
theorem isT_29 : isT "list" "str" = false := by decide
theorem isT_30 : isT "NoneType" "str" = false := by decide
theorem onL_f {r : N3} : onL r [.fl xs] h Q = r xs h Q := rfl
theorem onL_r {r : N3} : onL r [.ref n] h Q = onLst h[n]? fun xs => r xs h Q := by
  unfold onL onLst listOf
  simp only
  cases h[n]? with
  | none => rfl
  | some c => cases c <;> rfl
theorem tupR_t : tupR [.tup xs] h Q = Q (.tup xs) h := rfl
theorem tupR_f : tupR [.fl xs] h Q = Q (.tup xs) h := rfl
theorem tupR_r : tupR [.ref n] h Q = onLst h[n]? fun xs => Q (.tup xs) h := by
  unfold tupR onLst listOf
  simp only
  cases h[n]? with
  | none => rfl
  | some c => cases c <;> rfl
theorem lstM_t {Q : List D → Sto → Prop} : lstM [.tup xs] h Q = Q xs h := rfl
theorem lstM_f {Q : List D → Sto → Prop} : lstM [.fl xs] h Q = Q xs h := rfl
theorem lstM_r {Q : List D → Sto → Prop} : lstM [.ref n] h Q = onLst h[n]? fun xs => Q xs h := by
  unfold lstM onLst itemsOf
  simp only
  cases h[n]? with
  | none => rfl
  | some c => cases c <;> rfl
theorem onLM_f {r : M3} {Q : List D → Sto → Prop} : onLM r [.fl xs] h Q = r xs h Q := rfl
theorem onLM_r {r : M3} {Q : List D → Sto → Prop} : onLM r [.ref n] h Q = onLst h[n]? fun xs => r xs h Q := by
  unfold onLM onLst listOf
  simp only
  cases h[n]? with
  | none => rfl
  | some c => cases c <;> rfl
/-! ### truths -/
def ifB (d : D) (A B : Prop) : Prop := match d with
  | .bl true => A
  | .bl false => B
  | _ => False
theorem ifB_b {A B : Prop} : ifB (.bl a) A B = (if a = true then A else B) := by cases a <;> simp [ifB]
theorem tAndE_eq {ta tb : E3} : tAndE ta tb ρ h Q = ta ρ h fun x h1 => ifB x (tb ρ h1 Q) (Q (.bl false) h1) := rfl
theorem tOrE_eq {ta tb : E3} : tOrE ta tb ρ h Q = ta ρ h fun x h1 => ifB x (Q (.bl true) h1) (tb ρ h1 Q) := rfl
theorem tCh_eq {r r' : R3} {ta tb tc : E3} : tCh r r' ta tb tc ρ h Q = ta ρ h fun x h1 => tb ρ h1 fun y h2 => r x y h2 fun z h3 => ifB z (tc ρ h3 fun w h4 => r' y w h4 Q) (Q (.bl false) h3) := rfl
/-! ### walked things -/
def iSeqD (d : D) (h : Sto) (Q : List D → (Sto → Prop) → Sto → Prop) : Prop := match d with
  | .tup xs => Q xs (fun _ => True) h
  | .fl xs => Q xs (fun _ => True) h
  | .ref n => onLst h[n]? fun xs => Q xs (fun h' => h'[n]? = some (.lst xs)) h
  | _ => False
theorem iSeq_eq {t : E3} {Q : List D → (Sto → Prop) → Sto → Prop} : iSeq t ρ h Q = t ρ h fun d h1 => iSeqD d h1 Q := by
  have : (fun (d : D) (h1 : Sto) => iSeqD d h1 Q) = fun d h1 => match d with
      | .tup xs => Q xs (fun _ => True) h1
      | .fl xs => Q xs (fun _ => True) h1
      | .ref n => match h1[n]? with
        | some (.lst xs) => Q xs (fun h' => h'[n]? = some (.lst xs)) h1
        | _ => False
      | _ => False := by
    funext d h1
    unfold iSeqD onLst
    cases d <;> rfl
  rw [this]
  rfl
theorem iSeqD_t {Q : List D → (Sto → Prop) → Sto → Prop} : iSeqD (.tup xs) h Q = Q xs (fun _ => True) h := rfl
theorem iSeqD_f {Q : List D → (Sto → Prop) → Sto → Prop} : iSeqD (.fl xs) h Q = Q xs (fun _ => True) h := rfl
theorem iSeqD_r {Q : List D → (Sto → Prop) → Sto → Prop} : iSeqD (.ref n) h Q = onLst h[n]? fun xs => Q xs (fun h' => h'[n]? = some (.lst xs)) h := rfl
def rngD (vs : List D) (h : Sto) (Q : List D → (Sto → Prop) → Sto → Prop) : Prop := match vs with
  | [.int j] => (-(2 ^ 62) ≤ j ∧ j < 2 ^ 62) ∧ Q ((List.range j.toNat).map fun (k : Nat) => D.int k) (fun _ => True) h
  | [.int i, .int j] => (-(2 ^ 62) ≤ i ∧ i < 2 ^ 62 ∧ -(2 ^ 62) ≤ j ∧ j < 2 ^ 62) ∧ Q ((List.range (j - i).toNat).map fun (k : Nat) => D.int (i + k)) (fun _ => True) h
  | _ => False
theorem iRng_eq {ta : A3} {Q : List D → (Sto → Prop) → Sto → Prop} : iRng ta ρ h Q = ta ρ h fun vs h1 => rngD vs h1 Q := rfl
theorem rngD_1 {Q : List D → (Sto → Prop) → Sto → Prop} : rngD [.int j] h Q = ((-(2 ^ 62) ≤ j ∧ j < 2 ^ 62) ∧ Q ((List.range j.toNat).map fun (k : Nat) => D.int k) (fun _ => True) h) := rfl
theorem rngD_2 {Q : List D → (Sto → Prop) → Sto → Prop} : rngD [.int i, .int j] h Q = ((-(2 ^ 62) ≤ i ∧ i < 2 ^ 62 ∧ -(2 ^ 62) ≤ j ∧ j < 2 ^ 62) ∧ Q ((List.range (j - i).toNat).map fun (k : Nat) => D.int (i + k)) (fun _ => True) h) := rfl
theorem seqOf_f {Q : List D → (Sto → Prop) → Prop} : seqOf (.fl xs) h Q = Q xs fun _ => True := rfl
theorem seqOf_r {Q : List D → (Sto → Prop) → Prop} : seqOf (.ref n) h Q = onLst h[n]? fun xs => Q xs fun h' => h'[n]? = some (.lst xs) := rfl
def zipD (vs : List D) (h : Sto) (Q : List D → (Sto → Prop) → Sto → Prop) : Prop := match vs with
  | [.tup xs, .tup ys] => Q (List.zipWith (fun x y => D.tup [x, y]) xs ys) (fun _ => True) h
  | [x, y] => seqOf x h fun xs s1 => seqOf y h fun ys s2 => Q (List.zipWith (fun x y => D.tup [x, y]) xs ys) (fun h => s1 h ∧ s2 h) h
  | _ => False
theorem iZip3_eq {ta : A3} {Q : List D → (Sto → Prop) → Sto → Prop} : iZip3 ta ρ h Q = ta ρ h fun vs h1 => zipD vs h1 Q := rfl
theorem zipD_tt {Q : List D → (Sto → Prop) → Sto → Prop} : zipD [.tup xs, .tup ys] h Q = Q (List.zipWith (fun x y => D.tup [x, y]) xs ys) (fun _ => True) h := rfl
theorem zipD_rr {Q : List D → (Sto → Prop) → Sto → Prop} : zipD [.ref n, .ref m] h Q = seqOf (.ref n) h fun xs s1 => seqOf (.ref m) h fun ys s2 => Q (List.zipWith (fun x y => D.tup [x, y]) xs ys) (fun h => s1 h ∧ s2 h) h := rfl
end
end F3
/-! FK: list(range(..)), list(reversed(..)). -/
namespace F3
open PySem PySem.Spec PyProof.Rows L2

def xRg (i j : Int) (h : Sto) (Q : List D → Sto → Prop) : Prop := (-(2 ^ 62) ≤ i ∧ i < 2 ^ 62 ∧ -(2 ^ 62) ≤ j ∧ j < 2 ^ 62 ∧ (j - i).toNat ≤ 2 ^ 24) ∧ Q ((List.range (j - i).toNat).map fun (k : Nat) => D.int (i + k)) h
def xRg1 (t : E3) : A3 := fun ρ h Q => t ρ h fun d h1 => match d with
  | .int n => xRg 0 n h1 Q
  | _ => False
def xRg2 (t u : E3) : A3 := fun ρ h Q => t ρ h fun d h1 => u ρ h1 fun e h2 => match d, e with
  | .int i, .int j => xRg i j h2 Q
  | _, _ => False
section
variable {X : Cx}
theorem rel_rg {K : PySem.W.Frag} {m : List Addr} {H : Hp} (i : Int) : ∀ ks : List Nat, RelDs K m H (ks.map fun (k : Nat) => D.int (i + k)) (ks.map fun (k : Nat) => V.int (i + k))
  | [] => .nil
  | _ :: r => .cons (.int _) (rel_rg i r)
theorem x3_rg1 {a : Expr} {t : E3} {p pos p2 pos2 : Pos} (hc : X.calm = true) (hm : X.mg "list" = none) (hm2 : X.mg "range" = none) (ha : PE3 X a t) (hg : Gl X "list" := by rfl) (hg2 : Gl X "range" := by rfl)
    (na : starEach [a] X.env = (false, eval a X.env) :: starEach [] X.env := by rfl) (na2 : starEach [.Call (.Name "range" p2) [a] [] pos2] X.env = (false, eval (.Call (.Name "range" p2) [a] [] pos2) X.env) :: starEach [] X.env := by rfl) :
    PX3 X (.Call (.Name "list" p) [.Call (.Name "range" p2) [a] [] pos2] [] pos) (xRg1 t) := by
  refine ⟨PE.weak (pe_listRg hc hg hm (prg_1 hg2 hm2 ha.pe na) na2) fun σ H Q ⟨m, h, ρ, R, S, q⟩ => ?_, fun ρ h Q Q' w q => ha.mono _ _ _ _ (fun d h1 q1 => ?_) q⟩
  · refine LE.bind ha.mono R S q fun m1 H1 v x h1 s1 R1 rx S1 q1 => ?_
    cases rx with
    | int n => exact ⟨n, rfl, q1.1, UpX.laid R1 (rel_rg 0 _) (UpX.step s1 R1 q1.2)⟩
    | _ => exact q1.elim
  · cases d with
    | int n => exact ⟨q1.1, w _ _ q1.2⟩
    | _ => exact q1
theorem x3_rg2 {a b : Expr} {t u : E3} {p pos p2 pos2 : Pos} (hc : X.calm = true) (hm : X.mg "list" = none) (hm2 : X.mg "range" = none) (ha : PE3 X a t) (hb : PE3 X b u) (hg : Gl X "list" := by rfl) (hg2 : Gl X "range" := by rfl)
    (na : starEach [a, b] X.env = (false, eval a X.env) :: starEach [b] X.env := by rfl) (nb : starEach [b] X.env = (false, eval b X.env) :: starEach [] X.env := by rfl) (hp : (backTo pos2 (starEach [b] X.env)).any (·.1) = false := by rfl)
    (na2 : starEach [.Call (.Name "range" p2) [a, b] [] pos2] X.env = (false, eval (.Call (.Name "range" p2) [a, b] [] pos2) X.env) :: starEach [] X.env := by rfl) :
    PX3 X (.Call (.Name "list" p) [.Call (.Name "range" p2) [a, b] [] pos2] [] pos) (xRg2 t u) := by
  refine ⟨PE.weak (pe_listRg hc hg hm (prg_2 hg2 hm2 ha.pe hb.pe na nb hp) na2) fun σ H Q ⟨m, h, ρ, R, S, q⟩ => ?_, fun ρ h Q Q' w q => ha.mono _ _ _ _ (fun d h1 q1 => hb.mono _ _ _ _ (fun e h2 q2 => ?_) q1) q⟩
  · refine LE.bind ha.mono R S q fun m1 H1 v x h1 s1 R1 rx S1 q1 => ?_
    refine LE.bind hb.mono R1 S1 q1 fun m2 H2 v2 y h2 s2 R2 ry S2 q2 => ?_
    cases rx with
    | int i =>
      cases ry with
      | int j => exact ⟨i, j, rfl, rfl, q2.1, UpX.laid R2 (rel_rg i _) (UpX.step (s1.trans s2) R2 q2.2)⟩
      | _ => exact q2.elim
    | _ => exact q2.elim
  · cases d with
    | int i =>
      cases e with
      | int j => exact ⟨q2.1, w _ _ q2.2⟩
      | _ => exact q2
    | _ => exact q2
end
/-! ### the store made smaller, in use -/
theorem cl_ints {n : Nat} : ∀ ns : List Int, ClDs n (ns.map .int)
  | [] => by simp only [List.map_nil, ClDs]
  | _ :: r => by simp only [List.map_cons, ClDs, ClD, true_and]; exact cl_ints r
theorem ClS.set {n : Nat} {h : Sto} (hs : ClS n h) (a : Nat) {c : Cell} (hc : ClC n c) : ClS n (h.set a c) := fun c' hm => by
  rcases List.mem_or_eq_of_mem_set hm with z | z
  · exact hs c' z
  · rw [z]; exact hc
theorem cl_draw {n : Nat} {c s : Int} : ClC n (.lst [.int c, .int s]) := by simp only [ClC, ClDs, ClD, and_self]
theorem gq_one {h g : Sto} {k n : Nat} {xs : List D} {Q : DK} (hn : n = h.length) (hk : g[k]? = some (.lst xs)) (hx : ClDs h.length xs) (hs : ClS h.length h) (q : Q (.ref h.length) (h ++ [.lst xs])) : GQ n Q (.ref (h.length + k)) (h ++ g) := by
  subst hn
  exact .inr ⟨_, _, Gc.one hk hx hs, q⟩
theorem gq_tail {h g : Sto} {n : Nat} {d : D} {Q : DK} (hn : n = h.length) (hd : ClD h.length d) (hs : ClS h.length h) (q : Q d h) : GQ n Q d (h ++ g) := by
  subst hn
  exact .inr ⟨_, _, Gc.tail hd hs, q⟩
theorem ClDs.all {n : Nat} : ∀ {xs : List D}, (∀ x ∈ xs, ClD n x) → ClDs n xs
  | [], _ => by simp only [ClDs]
  | x :: r, h => by simp only [ClDs]; exact ⟨h x List.mem_cons_self, ClDs.all fun y hy => h y (List.mem_cons_of_mem _ hy)⟩
theorem ClDs.mem {n : Nat} : ∀ {xs : List D}, ClDs n xs → ∀ x ∈ xs, ClD n x
  | _ :: _, h, x, hx => by
    simp only [ClDs] at h
    rcases List.mem_cons.mp hx with e | e
    · rw [e]; exact h.1
    · exact ClDs.mem h.2 x e
theorem get_app {h g : Sto} {k : Nat} : (h ++ g)[h.length + k]? = g[k]? := by rw [List.getElem?_append_right (by omega)]; congr 1; omega
theorem get_app0 {h : Sto} {c : Cell} {g : Sto} : (h ++ c :: g)[h.length]? = some c := by rw [List.getElem?_append_right (by omega)]; simp
theorem set_app0 {h : Sto} {c c' : Cell} {g : Sto} : (h ++ c :: g).set h.length c' = h ++ c' :: g := by rw [List.set_append]; simp
/-- one turn of a for; what follows the turn has a name -/
theorem forI_step {g : G3} {b : C3} {st : Sto → Prop} {E : Ends3} {x : D} {r : List D} {ρ : S3} {h : Sto} (hs : st h) (q : ∀ F : S3 → Sto → Prop, F = forI g b st E r → g x ρ h fun ρ' h' => b { E with nx := F, ct := F, bk := E.nx } ρ' h') : forI g b st E (x :: r) ρ h := ⟨hs, q _ rfl⟩
end F3
/-! FL: sorted(set(xs)) of a list of ints. -/
namespace F3
open PySem PySem.Spec PyProof.Rows L2

/-- the new set that a call of set lays, empty -/
abbrev bareSet (w : World) : Obj := { cls := .type "set", dict := none, data := .set #[] 0 (.fresh 0 0 (!w.params.followText "set-order")) }
section
variable {P : Program} {w : World} {A : Around} {E : Value → Shared → Prop} {s : Shared}
set_option maxHeartbeats 6400000 in
/-- set(xs), xs a list of ints: what stands then, told by SetR -/
theorem set_of_lst {l : Addr} {items : Array Value} (ns : List Int) {Q : Value → Shared → Prop} (hh : A.handled = none) (hl : s.heap.IsList l items) (hit : IntsAre items.toList ns) (hb : ns.length + 1 < scanBound)
    (q : ∀ (h' : Heap) (tk c : Nat), SetR w h' s.heap.objs.size (fun j => decide (j ∈ ns)) c → c ≤ ns.length → (∀ b o, s.heap.get? b = some o → h'.get? b = some o) → Q (.ref s.heap.objs.size) { s with heap := h', toks := tk }) :
    wpAny (model P w) A (call (.type "set") [.ref l]) Q E s := by
  have hz : items.size = ns.length := by have e := IntsAre.length hit; rwa [Array.length_toList] at e
  obtain ⟨_, _, mro⟩ := PySem.F.called_set.mro
  have f1 := PySem.F.called_set.made; have f2 := PySem.F.called_set.sub
  refine wpAny_call (codeAny_of_tree (?_ : wpAny _ _ (callAny (.type "set") _) _ _ _))
  refine wpAny_pure ⟨Code.quiet_builtin _ (by decide +kernel), codeAny_builtin PySem.F.entry_type_call ?_⟩
  rw [Around.under_plain (weight_type_call_type "set" [.ref l] []) rfl]
  have f3 := PySem.F.called_set.notType; have f4 := PySem.F.called_set.canCreate; have f5 := PySem.F.typeCall_set_1 (.ref l)
  repeat (any_goals (first | assumption | wp_step))
  -- the object itself
  refine codeAny_mono (code_set_led1 (.ref l) (E := E) (Q₁ := fun x t => x = .ref s.heap.objs.size ∧ t = { s with heap := s.heap.push (bareSet w) }) ⟨rfl, rfl⟩) fun r t hr => ?_
  match r, hr with
  | .error _, hr => exact hr
  | .ok .next, hr => exact hr.elim
  | .ok .brk, hr => exact hr.elim
  | .ok .cont, hr => exact hr.elim
  | .ok (.ret x), hr =>
    obtain ⟨rfl, rfl⟩ := hr
    have g0 : (s.heap.push (bareSet w)).get? s.heap.objs.size = some (bareSet w) := Heap.get?_push_size _ rfl
    have ty : Shared.TypeIs { s with heap := s.heap.push (bareSet w) } (.ref s.heap.objs.size) "set" := ⟨_, g0, rfl⟩
    have f6 := PySem.F.called_set.init.lookup; have f7 := PySem.F.called_set.init.bind (.ref s.heap.objs.size)
    repeat (any_goals (first | assumption | wp_step))
    -- its items, one by one
    refine codeAny_mono (codeAny_call_builtin (R := wants (fun r t => r = .none ∧ ∃ h' tk c, t = { s with heap := h', toks := tk } ∧ SetR w h' s.heap.objs.size (fun j => decide (j ∈ ns)) c ∧ c ≤ ns.length ∧ ∀ b o, s.heap.get? b = some o → h'.get? b = some o) E)
      PySem.F.called_set.init.plain PySem.F.entry_set_init (check_set_init_1 ty ?_)) fun r t hr => ?_
    · obtain ⟨⟨oc, od, oa, os⟩, g1, k1, nl, k2⟩ := hl
      simp only at k1 k2
      subst k1; subst k2
      have lt : l < s.heap.objs.size := Heap.lt_size g1
      have g2 : (s.heap.push (bareSet w)).get? l = some { cls := .type "list", dict := od, data := .seq items nl, slots := os } := Heap.get?_push_of_some _ g1
      have isl : (s.heap.push (bareSet w)).IsList l items := ⟨_, g2, rfl, nl, rfl⟩
      have f8 := PySem.F.sub_list_set; have f9 := PySem.F.sub_list_frozenset
      have f10 : (Value.type "list" == Value.type "dict") = false := by decide
      unfold Builtin.«set.__init__» noKeywords Builtin.Frozenset.updateFrom
      generalize eIt : pyIter = it
      wp_walk
      subst eIt
      refine wpAny_pyIter_list isl (wpAny_bind (wpAny_runValue ?_))
      have sz : (s.heap.push (bareSet w)).objs.size = s.heap.objs.size + 1 := Heap.size_push ..
      have n1 : l ≠ (s.heap.push (bareSet w)).objs.size := by rw [sz]; exact Nat.ne_of_lt (Nat.lt_succ_of_lt lt)
      have n2 : s.heap.objs.size ∉ [(s.heap.push (bareSet w)).objs.size, l] := by
        rw [sz]; simp only [List.mem_cons, List.not_mem_nil, or_false, not_or]; exact ⟨Nat.ne_of_lt (Nat.lt_succ_self _), Nat.ne_of_gt lt⟩
      refine set_update_ints ((Walks.list (show A.in1.in1.in1.handled = none by simp [hh]) _ l n1 items).toS) s.heap.objs.size n2 ns hz hb (fun i v hv => ?_) (items.size - 0) 0 _ (by omega) (Nat.zero_le _)
        ⟨⟨_, Heap.get?_push_size _ rfl, rfl, rfl⟩, isl.push _⟩ ⟨0, Nat.le_refl 0, setR_new_at (Heap.get?_push_of_some _ g0)⟩ fun t c mv hc R => ?_
      · have hi : i < ns.length := by rw [← hz]; exact (Array.getElem?_eq_some_iff.mp hv).1
        obtain ⟨tk, e⟩ := PyProof.Rows.IntsAre.int_at hit i v (by rw [Array.getElem?_toList]; exact hv)
        exact ⟨ns[i], tk, List.getElem?_eq_getElem hi, by rw [e, List.getD_eq_getElem?_getD, List.getElem?_eq_getElem hi]; rfl⟩
      · obtain ⟨h', g', d', tk', o'⟩ := t
        cases (show g' = s.gens from mv.gens); cases (show d' = s.drawn from mv.drawn); cases (show o' = s.os from mv.os)
        refine wpAny_pure (?_ : wpAny _ _ (ret Value.none) _ _ _)
        refine wpAny_pure ⟨rfl, h', tk', c, rfl, R, by omega, fun b o e => mv.heap b o ?_ (Heap.get?_push_of_some _ (Heap.get?_push_of_some _ e))⟩
        have lb := Heap.lt_size e
        rw [sz]; simp only [List.mem_cons, List.not_mem_nil, or_false, not_or]; exact ⟨Nat.ne_of_lt lb, Nat.ne_of_lt (Nat.lt_succ_of_lt lb)⟩
    · match r, hr with
      | .error _, hr => exact hr
      | .ok .next, hr => exact hr.elim
      | .ok .brk, hr => exact hr.elim
      | .ok .cont, hr => exact hr.elim
      | .ok (.ret _), hr =>
        obtain ⟨rfl, h', tk, c, rfl, R, hc, kp⟩ := hr
        repeat (any_goals (first | assumption | wp_step))
        exact q _ _ _ R hc kp
end
/-- a list's items -/
def onLst' (d : D) (h : Sto) (k : List D → Prop) : Prop := match listOf d h with
  | some xs => k xs
  | none => False
theorem onLst'_mono {d : D} {h : Sto} {k k' : List D → Prop} (w : ∀ xs, k xs → k' xs) (q : onLst' d h k) : onLst' d h k' := by
  unfold onLst' at q ⊢
  split at q
  · exact w _ q
  · exact q
theorem onLst'_some {d : D} {h : Sto} {k : List D → Prop} (q : onLst' d h k) : ∃ xs, listOf d h = some xs ∧ k xs := by
  unfold onLst' at q
  split at q
  next xs e => exact ⟨xs, e, q⟩
  next => exact q.elim
theorem onLst'_r {n : Nat} {h : Sto} {k : List D → Prop} : onLst' (.ref n) h k = onLst h[n]? k := by
  unfold onLst' onLst listOf
  simp only
  cases h[n]? with
  | none => rfl
  | some c => cases c <;> rfl
theorem onLst'_f {xs : List D} {h : Sto} {k : List D → Prop} : onLst' (.fl xs) h k = k xs := rfl
section
variable {X : Cx}
def rSetL (K : PySem.W.Frag) (w : World) : List V → Hp → VK → Prop := fun vs H Q => ∃ (l : Addr) (ns : List Int), vs = [.ref l] ∧ SqL K H l (ns.map V.int) ∧ ns.length < 64 ∧ ∀ a c, H a = none → c ≤ ns.length → Q (.ref a) (upd H a (SetO w a (fun j => decide (j ∈ ns)) c))
theorem cr_setL (hc : X.calm = true) : CallR X (.type "set") (rSetL X.K X.w) := by
  intro pins s σ H xs us Q I r h
  obtain ⟨l, ns, rfl, hs, hn, q⟩ := h
  rw [Vals.ref1 r]
  obtain ⟨its, rv, pl, hz⟩ := I.list hs
  refine set_of_lst ns (I.ok.hd hc) pl.isList ?_ (by unfold scanBound; omega) fun h' tk c R hcl kp => ?_
  · rw [List.toList_toArray]
    exact Vals.ints rv
  · exact ⟨.ref s.heap.objs.size, _, I.laid (t' := tk) kp (Nat.le_refl _) (setO_new R), rfl, q _ c (I.hok.fresh (Nat.le_refl _)) hcl⟩
def tSSet (t : A3) : A3 := fun ρ h Q => t ρ h fun xs h1 => match intsOf xs with
  | some ns => ns.length < 64 ∧ ∀ ms : List Int, ms.Pairwise (· < ·) → (∀ k, k ∈ ms ↔ k ∈ ns) → Q (ms.map .int) h1
  | none => False
theorem MonoA.sset {t : A3} (mt : MonoA t) : MonoA (tSSet t) := fun ρ h Q Q' w q => mt _ _ _ _ (fun xs h1 q1 => by
  split at q1
  · exact ⟨q1.1, fun ms h1 h2 => w _ _ (q1.2 ms h1 h2)⟩
  · exact q1) q
theorem sset_core {K : PySem.W.Frag} {w : World} {m m1 : List Addr} {H H1 : Hp} {h1 : Sto} {l : Addr} {xs : List D} {vs : List V} {Q : VK} (s1 : Step m H m1 H1) (R1 : Rep K m1 h1 H1) (sq : SqL K H1 l vs) (rs : RelDs K m1 H1 xs vs)
    (q : match intsOf xs with
      | some ns => ns.length < 64 ∧ ∀ ms : List Int, ms.Pairwise (· < ·) → (∀ k, k ∈ ms ↔ k ∈ ns) → UpX K m H Q (ms.map .int) h1
      | none => False) : rSetL K w [.ref l] H1 fun x H2 => rSortedSet w [x] H2 Q := by
  split at q
  next ns e =>
    have e1 := intsOf_eq e
    subst e1
    refine ⟨l, ns, rfl, by rw [← rs.ints]; exact sq, q.1, fun a c ha hcl => ⟨a, _, c, rfl, upd_same, by omega, fun ms p h1' h2 h3 hp => ?_⟩⟩
    refine UpX.laid (R1.lay ha) (srt_ints ms) ?_ p hp
    exact UpX.step (s1.trans (Step.lay ha)) (R1.lay ha) (q.2 ms h1' fun k => by rw [h2 k]; exact decide_eq_true_iff)
  next => exact q.elim
theorem x3_ssetx {e : Expr} {t : A3} {p pos p2 pos2 : Pos} (hc : X.calm = true) (hm : X.mg "sorted" = none) (hm2 : X.mg "set" = none) (ha : PX3 X e t) (hg : Gl X "sorted" := by rfl) (hg2 : Gl X "set" := by rfl)
    (he : starEach [e] X.env = (false, eval e X.env) :: starEach [] X.env := by rfl) (hpl : (backTo pos2 (starEach [] X.env)).any (·.1) = false := by rfl)
    (he2 : starEach [.Call (.Name "set" p2) [e] [] pos2] X.env = (false, eval (.Call (.Name "set" p2) [e] [] pos2) X.env) :: starEach [] X.env := by rfl) (hpl2 : (backTo pos (starEach [] X.env)).any (·.1) = false := by rfl) :
    PX3 X (.Call (.Name "sorted" p) [.Call (.Name "set" p2) [e] [] pos2] [] pos) (tSSet t) := by
  refine ⟨PE.weak (pe_callB (cr_sortedSet hc) hg hm (by decide +kernel) (pa_cons (pe_callTy (cr_setL hc) hg2 hm2 (by decide +kernel) (pa_cons ha.pe pa_nil he) (by decide) (by decide) he hpl) pa_nil he2) (by decide) (by decide) he2 hpl2) fun σ H Q ⟨m, h, ρ, R, S, q⟩ => ?_, .sset ha.mono⟩
  refine LX.bind ha.mono R S q fun m1 H1 a vs xs h1 s1 R1 ea na hm rs S1 q1 => ?_
  exact sset_core s1 R1 (.inl (.inl ea)) rs q1
theorem x3_sset {e : Expr} {t : E3} {p pos p2 pos2 : Pos} (hc : X.calm = true) (hm : X.mg "sorted" = none) (hm2 : X.mg "set" = none) (ha : PE3 X e t) (hg : Gl X "sorted" := by rfl) (hg2 : Gl X "set" := by rfl)
    (he : starEach [e] X.env = (false, eval e X.env) :: starEach [] X.env := by rfl) (hpl : (backTo pos2 (starEach [] X.env)).any (·.1) = false := by rfl)
    (he2 : starEach [.Call (.Name "set" p2) [e] [] pos2] X.env = (false, eval (.Call (.Name "set" p2) [e] [] pos2) X.env) :: starEach [] X.env := by rfl) (hpl2 : (backTo pos (starEach [] X.env)).any (·.1) = false := by rfl) :
    PX3 X (.Call (.Name "sorted" p) [.Call (.Name "set" p2) [e] [] pos2] [] pos) (tSSet fun ρ h Q => t ρ h fun d h1 => onLst' d h1 fun xs => Q xs h1) := by
  have mo : MonoA (fun ρ h Q => t ρ h fun d h1 => onLst' d h1 fun xs => Q xs h1) := fun ρ h Q Q' w q => ha.mono _ _ _ _ (fun d h1 q1 => onLst'_mono (fun xs q => w _ _ q) q1) q
  refine ⟨PE.weak (pe_callB (cr_sortedSet hc) hg hm (by decide +kernel) (pa_cons (pe_callTy (cr_setL hc) hg2 hm2 (by decide +kernel) (pa_cons ha.pe pa_nil he) (by decide) (by decide) he hpl) pa_nil he2) (by decide) (by decide) he2 hpl2) fun σ H Q ⟨m, h, ρ, R, S, q⟩ => ?_, .sset mo⟩
  refine LE.bind ha.mono R S q fun m1 H1 v d h1 s1 R1 rd S1 q1 => ?_
  obtain ⟨xs, e, q2⟩ := onLst'_some q1
  obtain ⟨a, vs, rfl, sq, rs⟩ := listOf_lift R1 rd e
  exact sset_core s1 R1 sq rs q2
end
end F3
set_option maxHeartbeats 1000000
/-! FM: sorted of a tuple of ints; sorted(set(xs)) of a list of pairs of ints. -/
namespace F3
open PySem PySem.Spec PyProof.Rows L2

section
variable {prog : Program} {w : World} {A : Around} {E : Value → Shared → Prop} {s : Shared}
theorem collect_tup {l : Addr} {vs : List Value} {Q : List Value → Shared → Prop} (hl : IsTup s.heap l vs.toArray)
    (h : Q vs { s with heap := (s.heap.push (seqObj "list" #[] 0)).update s.heap.objs.size (Obj.mapSeq (· ++ vs.toArray)) }) (hsz : vs.length ≤ sizeLine) :
    wpAny (model prog w) A (collect (.ref l)) Q E s := by
  obtain ⟨o, ho, hc, n, hd⟩ := id hl
  unfold collect
  refine wpAny_bind (wpAny_runValue (codeAny_builtin entry_proto_collect' ?_))
  refine wpAny_bind (wpAny_newList (wpAny_pure ⟨Code.quiet_builtin _ (by decide +kernel), codeAny_builtin entry_list_iadd' ?_⟩))
  show wpAny _ _ (Builtin.List.listExtendWith (.ref s.heap.objs.size) (.ref l) (.ref s.heap.objs.size)) _ _ { s with heap := s.heap.push (seqObj "list" #[] 0) }
  unfold Builtin.List.listExtendWith
  have ho' : (s.heap.push (seqObj "list" #[] 0)).get? l = some o := Heap.get?_push_of_some _ ho
  refine wpAny_bind (wpAny_typeOf (T := "tuple") ⟨o, ho', hc⟩ ?_)
  have ht : (Value.type "tuple" == Value.type "tuple") = true := by rfl
  rw [if_pos (by rw [ht]; simp)]
  refine wpAny_bind (listItems_at ho' hd ?_)
  refine wpAny_bind (listItems_at (xs := #[]) (n := 0) (Heap.get?_push_size _ rfl) rfl ?_)
  rw [if_neg (by simp)]
  refine wpAny_bind (listUpdate_at (xs := #[]) (n := 0) (Heap.get?_push_size _ rfl) rfl ?_ (Nat.zero_le _) (by show (#[] ++ vs.toArray).size ≤ sizeLine + 1; simp only [Array.size_append, List.size_toArray, List.length_nil]; omega))
  refine wpAny_pure ?_
  refine wpAny_bind (wpAny_load (get?_update_seq (Heap.get?_push_size _ rfl) _) ?_)
  show wpAny _ _ (pure ((#[] : Array Value) ++ vs.toArray).toList) Q E _
  rw [show ((#[] : Array Value) ++ vs.toArray).toList = vs by simp]
  exact wpAny_pure h
open SrtO in
theorem sorted_tup {l : Addr} {vs : List Value} {ltv : Value → Value → Bool} {Q : Value → Shared → Prop} (O : Swo ltv) (hl : IsTup s.heap l vs.toArray) (hz : vs.length ≤ sizeLine)
    (hS : 2 ≤ vs.length → ∀ (h₁ : Heap) (a : Addr), h₁.get? a = some (seqObj "list" vs.toArray 0) → (∀ b o, s.heap.get? b = some o → b ≠ a ∧ h₁.get? b = some o) → SortableO prog w A.in1.in1 { s with heap := h₁ } a vs ltv)
    (h : ∀ out : List Value, Srtd ltv out → Stb ltv out vs → Q (.ref (s.heap.objs.size + 1)) { s with heap := sortedAll s.heap vs out.toArray }) :
    wpAny (model prog w) A (call (.builtin "sorted") [.ref l]) Q E s := by
  refine Calls.call_function_entry kind_sorted plain_sorted entry_sorted (args_sorted1 _) ?_
  unfold Builtin.«sorted»
  refine wpAny_bind (m := checkCount "sorted" 1 1 _) (wpAny_pure ?_)
  refine wpAny_bind (collect_tup hl ?_ hz)
  refine wpAny_bind (wpAny_newList ?_ hz)
  have hsz : ((s.heap.push (seqObj "list" #[] 0)).update s.heap.objs.size (Obj.mapSeq (· ++ vs.toArray))).objs.size = s.heap.objs.size + 1 := by
    rw [Heap.size_update, size_push']
  have hoL : (((s.heap.push (seqObj "list" #[] 0)).update s.heap.objs.size (Obj.mapSeq (· ++ vs.toArray))).push (seqObj "list" vs.toArray 0)).get? (s.heap.objs.size + 1) = some (seqObj "list" vs.toArray 0) := by
    rw [← hsz]; exact Heap.get?_push_size _ rfl
  have keep : ∀ b o, s.heap.get? b = some o → b ≠ s.heap.objs.size + 1 ∧ (((s.heap.push (seqObj "list" #[] 0)).update s.heap.objs.size (Obj.mapSeq (· ++ vs.toArray))).push (seqObj "list" vs.toArray 0)).get? b = some o := fun b o q => by
    have hlt : b < s.heap.objs.size := Heap.lt_size q
    refine ⟨Nat.ne_of_lt (Nat.lt_succ_of_lt hlt), Heap.get?_push_of_some _ ?_⟩
    rw [Heap.get?_update_ne _ _ _ _ (Nat.ne_of_lt hlt)]
    exact Heap.get?_push_of_some _ q
  show wpAny _ _ _ _ _ { s with heap := ((s.heap.push (seqObj "list" #[] 0)).update s.heap.objs.size (Obj.mapSeq (· ++ vs.toArray))).push (seqObj "list" vs.toArray 0) }
  rw [hsz]
  refine wpAny_bind (wpAny_holding (wpAny_call_entry slot_list_sort ⟨_, hoL, rfl⟩ entry_list_sort (list_sort_ord O hoL hz (fun h2 => hS h2 _ _ hoL keep) fun out hs hb => ⟨_, rfl, ?_⟩) (args_list_sort _)))
  exact wpAny_pure ⟨_, rfl, h out hs hb⟩
end
section
variable {X : Cx}
def rSortedIT (K : PySem.W.Frag) : List V → Hp → VK → Prop := fun vs H Q => ∃ (a : Addr) (ns : List Int), vs = [V.ref a] ∧ SqT K H a (ns.map V.int) ∧
  ∀ (ns' : List Int) (p : Addr), ns'.Perm ns → ns'.Pairwise (· ≤ ·) → H p = none → Q (.ref p) (upd H p (.lst (ns'.map V.int)))
theorem cr_sortedIT : CallR X (.builtin "sorted") (rSortedIT X.K) := by
  intro pins s σ H vs us Q I r h
  obtain ⟨a, ns, rfl, hs, q⟩ := h
  obtain ⟨its, rv, hl, hz⟩ := I.tuple hs
  rw [Vals.ref1 r]
  have hi := rv.ints
  refine sorted_tup SrtO.swo_int hl (by rw [← rv.length]; exact hz) (fun h2 h₁ a' _ _ => SrtO.ints_sortable hi h2) fun out h1 h2 => ?_
  obtain ⟨k1, k2, k3⟩ := SrtO.ints_out hi h1 h2
  obtain ⟨ep, he'⟩ := PyProof.Rows.sortedAll_at s.heap its out.toArray
  have hlen : ((out.map SrtO.iv).map V.int).length ≤ sizeLine := by
    rw [List.length_map, k2.length_eq]
    rw [List.length_map] at hz
    exact hz
  exact ⟨.ref _, upd H (s.heap.objs.size + 1) (.lst ((out.map SrtO.iv).map V.int)), I.laid (t' := s.toks) (fun _ _ => PyProof.Rows.sortedAll_old) (Nat.le_succ _) ⟨hlen, out, ep, vals_of_ints k1, he'⟩, rfl, q _ _ k2 k3 (I.hok.fresh (Nat.le_succ _))⟩
/-- of a tuple -/
def onTM (r : M3) : M3 := fun xs h Q => match xs with
  | [.tup ys] => r ys h Q
  | _ => False
theorem onTM_t {r : M3} {ys : List D} {h : Sto} {Q : List D → Sto → Prop} : onTM r [.tup ys] h Q = r ys h Q := rfl
theorem kl_sortedT : CallL3 X (.builtin "sorted") (onTM srtX) := by
  refine ⟨fun xs h Q Q' w q => ?_, _, cr_sortedIT, fun m h H xs vs Q R rs q => ?_⟩
  · unfold onTM at q ⊢
    split at q
    · unfold srtX at q ⊢
      split at q
      · exact fun ns' h1 h2 => w _ _ (q ns' h1 h2)
      · exact q.elim
    · exact q.elim
  · unfold onTM at q
    split at q
    · match vs, rs with
      | [_], .cons (.tup sq rr) .nil =>
        unfold srtX at q
        split at q
        next ns e =>
          have e1 := intsOf_eq e
          subst e1
          exact ⟨_, ns, rfl, by rw [← rr.ints]; exact TH sq, fun ns' p h1 h2 hp => UpX.laid R (srt_ints ns') (q ns' h1 h2) p hp⟩
        next => exact q.elim
    · exact q.elim
/-! ### pairs -/
def prD (p : Int × Int) : D := .tup [.int p.1, .int p.2]
def prsOf : List D → Option (List (Int × Int))
  | [] => some []
  | .tup [.int x, .int y] :: r => (prsOf r).map ((x, y) :: ·)
  | _ :: _ => none
theorem prsOf_map : ∀ ns : List (Int × Int), prsOf (ns.map prD) = some ns
  | [] => rfl
  | p :: r => by
    rw [List.map_cons]
    unfold prD
    simp only [prsOf]
    have := prsOf_map r
    unfold prD at this
    rw [this]
    rfl
theorem prsOf_eq : ∀ {xs : List D} {ns : List (Int × Int)}, prsOf xs = some ns → xs = ns.map prD := by
  intro xs
  induction xs with
  | nil => intro ns e; simp [prsOf] at e; subst e; rfl
  | cons x r ih =>
    intro ns e
    unfold prsOf at e
    split at e
    next => simp_all
    next z1 a b r' ez =>
      injection ez with e1 e2
      subst e1 e2
      simp only [Option.map_eq_some_iff] at e
      obtain ⟨ms, e, rfl⟩ := e
      rw [ih e]
      rfl
    next => cases e
def pkey (p : Int × Int) : Int := p.1 * 10000000000000000000000000000000000000000000000000000000000000000000000 + p.2
def PB (p : Int × Int) : Prop := 0 ≤ p.1 ∧ p.1 < 10000000000000000000000000000000000000000000000000000000000000000000000 ∧ 0 ≤ p.2 ∧ p.2 < 10000000000000000000000000000000000000000000000000000000000000000000000
def tSSet2 (t : A3) : A3 := fun ρ h Q => t ρ h fun xs h1 => match prsOf xs with
  | some ns => ns.length < 64 ∧ (∀ p ∈ ns, PB p) ∧ ∀ ms : List (Int × Int), ms.Pairwise (fun p q => pkey p < pkey q) → (∀ p, p ∈ ms ↔ p ∈ ns) → Q (ms.map prD) h1
  | none => False
theorem MonoA.sset2 {t : A3} (mt : MonoA t) : MonoA (tSSet2 t) := fun ρ h Q Q' w q => mt _ _ _ _ (fun xs h1 q1 => by
  split at q1
  · exact ⟨q1.1, q1.2.1, fun ms h1 h2 => w _ _ (q1.2.2 ms h1 h2)⟩
  · exact q1) q
theorem rel_prs {K : PySem.W.Frag} {m : List Addr} {H : Hp} : ∀ {ns : List (Int × Int)} {vs : List V}, RelDs K m H (ns.map prD) vs → ∃ ks : List (Addr × List Int), vs = ks.map (fun p => V.ref p.1) ∧ ks.map (·.2) = ns.map (fun p => [p.1, p.2]) ∧ ∀ p ∈ ks, H p.1 = some (.tup (p.2.map V.int))
  | [], _, .nil => ⟨[], rfl, rfl, fun _ h => nomatch h⟩
  | p :: ns, _, .cons (.tup (a := a) sq rr) t => by
    obtain ⟨ks, e1, e2, e3⟩ := rel_prs t
    have e4 := RelDs.ints (ns := [p.1, p.2]) rr
    refine ⟨(a, [p.1, p.2]) :: ks, by rw [e1]; rfl, by rw [List.map_cons, List.map_cons, e2], fun q hq => ?_⟩
    rcases List.mem_cons.mp hq with rfl | hq
    · rw [← e4]; exact sq
    · exact e3 q hq
theorem code128 (x y : Int) : TS.code 10000000000000000000000000000000000000000000000000000000000000000000000 [x, y] = x * 10000000000000000000000000000000000000000000000000000000000000000000000 + y := by
  have e1 : (10000000000000000000000000000000000000000000000000000000000000000000000 : Int) ^ 1 = 10000000000000000000000000000000000000000000000000000000000000000000000 := by rw [Int.pow_succ, Int.pow_zero, Int.one_mul]
  have e0 : (10000000000000000000000000000000000000000000000000000000000000000000000 : Int) ^ 0 = 1 := Int.pow_zero _
  show x * 10000000000000000000000000000000000000000000000000000000000000000000000 ^ 1 + (y * 10000000000000000000000000000000000000000000000000000000000000000000000 ^ 0 + 0) = x * 10000000000000000000000000000000000000000000000000000000000000000000000 + y
  rw [e1, e0, Int.mul_one, Int.add_zero]
def tp : List Int → Int × Int
  | [x, y] => (x, y)
  | _ => (0, 0)
theorem rel_tp {K : PySem.W.Frag} {m : List Addr} {H : Hp} : ∀ (L : List (Addr × List Int)), (∀ q ∈ L, H q.1 = some (.tup (q.2.map V.int)) ∧ ∃ x y, q.2 = [x, y]) → RelDs K m H ((L.map fun q => tp q.2).map prD) (L.map fun q => V.ref q.1)
  | [], _ => .nil
  | q :: L, h => by
    obtain ⟨sq, x, y, e⟩ := h q List.mem_cons_self
    refine .cons ?_ (rel_tp L fun q hq => h q (List.mem_cons_of_mem _ hq))
    show RelD K m H (prD (tp q.2)) (V.ref q.1)
    rw [e] at sq ⊢
    exact .tup sq (.cons (.int x) (.cons (.int y) .nil))
theorem sset2_core {K : PySem.W.Frag} {P : Program} {w : World} {m m1 : List Addr} {H H1 : Hp} {h1 : Sto} {l : Addr} {xs : List D} {vs : List V} {Q : VK} (s1 : Step m H m1 H1) (R1 : Rep K m1 h1 H1) (sq : SqL K H1 l vs) (rs : RelDs K m1 H1 xs vs)
    (q : match prsOf xs with
      | some ns => ns.length < 64 ∧ (∀ p ∈ ns, PB p) ∧ ∀ ms : List (Int × Int), ms.Pairwise (fun p q => pkey p < pkey q) → (∀ p, p ∈ ms ↔ p ∈ ns) → UpX K m H Q (ms.map prD) h1
      | none => False) : rSetOfT K P w [.ref l] H1 fun x H2 => rSortedT K P w [x] H2 Q := by
  split at q
  next ns e =>
    have e1 := prsOf_eq e
    subst e1
    obtain ⟨ks, ek, en, hk⟩ := rel_prs rs
    have hpr : ∀ p ∈ ks, ∃ x y, p.2 = [x, y] ∧ (x, y) ∈ ns := fun p hp => by
      have : p.2 ∈ ns.map (fun p => [p.1, p.2]) := by rw [← en]; exact List.mem_map_of_mem hp
      obtain ⟨r, hr, er⟩ := List.mem_map.mp this
      exact ⟨r.1, r.2, er.symm, hr⟩
    have hback : ∀ r ∈ ns, ∃ p ∈ ks, p.2 = [r.1, r.2] := fun r hr => by
      have : [r.1, r.2] ∈ ks.map (·.2) := by rw [en]; exact List.mem_map_of_mem (f := fun p : Int × Int => [p.1, p.2]) hr
      obtain ⟨p, hp, ep⟩ := List.mem_map.mp this
      exact ⟨p, hp, ep⟩
    have hlen : ks.length = ns.length := by have := congrArg List.length en; simpa using this
    refine ⟨l, ks, rfl, by rw [← ek]; exact sq, fun p hp => TH (hk p hp), by rw [hlen]; exact q.1, fun a L ha h1' h2 => ⟨a, L, 2, 10000000000000000000000000000000000000000000000000000000000000000000000, rfl, upd_same, fun p hp => SqT.step R1 (Step.lay ha) (TH (hk p (h1' p hp))), by decide, fun p hp => ?_, fun L' p pm nd _ pw hp => ?_⟩⟩
    · obtain ⟨x, y, exy, hm⟩ := hpr p (h1' p hp)
      have b := q.2.1 _ hm
      unfold PB at b
      refine ⟨by rw [exy]; rfl, ?_⟩
      rw [exy]
      intro z hz
      rcases List.mem_cons.mp hz with rfl | hz
      · exact ⟨b.1, b.2.1⟩
      · rw [List.mem_singleton.mp hz]; exact ⟨b.2.2.1, b.2.2.2⟩
    · have hin : ∀ r ∈ L', r ∈ ks := fun r hr => h1' r (pm.mem_iff.mp hr)
      refine UpX.laid (R1.lay ha) (rel_tp L' fun r hr => ?_) ?_ p hp
      · obtain ⟨x, y, exy, _⟩ := hpr r (hin r hr)
        exact ⟨(Step.lay ha).keep _ _ (R1.notup (hk r (hin r hr))) (hk r (hin r hr)), x, y, exy⟩
      · refine UpX.step (s1.trans (Step.lay ha)) (R1.lay ha) (q.2.2 _ ?_ fun r => ?_)
        · rw [List.pairwise_map]
          have nd' : L'.Pairwise (fun a b => a.2 ≠ b.2) := List.pairwise_map.mp nd
          refine (pw.and nd').imp_of_mem fun {u v} hu hv ⟨h3, h4⟩ => ?_
          obtain ⟨x, y, exy, hm⟩ := hpr u (hin u hu)
          obtain ⟨x', y', exy', hm'⟩ := hpr v (hin v hv)
          rw [exy, exy', code128, code128] at h3
          rw [exy, exy'] at h4 ⊢
          have b := q.2.1 _ hm
          have b' := q.2.1 _ hm'
          simp only [PB] at b b'
          simp only [tp, pkey]
          rcases Int.lt_or_eq_of_le h3 with h3 | h3
          · exact h3
          · exfalso
            apply h4
            have e1 : x = x' := by omega
            have e2 : y = y' := by omega
            rw [e1, e2]
        · constructor
          · intro hr
            obtain ⟨u, hu, rfl⟩ := List.mem_map.mp hr
            obtain ⟨x, y, exy, hm⟩ := hpr u (hin u hu)
            rw [exy]
            exact hm
          · intro hr
            obtain ⟨u, hu, eu⟩ := hback r hr
            obtain ⟨v, hv, ev⟩ := List.mem_map.mp (h2 u hu)
            refine List.mem_map.mpr ⟨v, pm.mem_iff.mpr hv, ?_⟩
            rw [ev, eu]
            rfl
  next => exact q.elim
theorem x3_sset2 {e : Expr} {t : A3} {p pos p2 pos2 : Pos} (hc : X.calm = true) (hu : X.A.units + 64 < cLine) (hm : X.mg "sorted" = none) (hm2 : X.mg "set" = none) (ha : PX3 X e t) (hg : Gl X "sorted" := by rfl) (hg2 : Gl X "set" := by rfl)
    (he : starEach [e] X.env = (false, eval e X.env) :: starEach [] X.env := by rfl) (hpl : (backTo pos2 (starEach [] X.env)).any (·.1) = false := by rfl)
    (he2 : starEach [.Call (.Name "set" p2) [e] [] pos2] X.env = (false, eval (.Call (.Name "set" p2) [e] [] pos2) X.env) :: starEach [] X.env := by rfl) (hpl2 : (backTo pos (starEach [] X.env)).any (·.1) = false := by rfl) :
    PX3 X (.Call (.Name "sorted" p) [.Call (.Name "set" p2) [e] [] pos2] [] pos) (tSSet2 t) := by
  refine ⟨PE.weak (pe_callB (cr_sortedT hc) hg hm (by decide +kernel) (pa_cons (pe_callTy (cr_setOfT hc hu) hg2 hm2 (by decide +kernel) (pa_cons ha.pe pa_nil he) (by decide) (by decide) he hpl) pa_nil he2) (by decide) (by decide) he2 hpl2) fun σ H Q ⟨m, h, ρ, R, S, q⟩ => ?_, .sset2 ha.mono⟩
  refine LX.bind ha.mono R S q fun m1 H1 a vs xs h1 s1 R1 ea na hm rs S1 q1 => ?_
  exact sset2_core s1 R1 (.inl (.inl ea)) rs q1
end
end F3
/-! LP: the laws' own helps: a cell of the script, a purse of draws, a digit taken. -/
namespace F3
open PySem PySem.Spec PyProof.Rows L2

theorem atI_get {α : Type} {xs : List α} {k : Int} (h0 : 0 ≤ k) (h1 : k < xs.length) : atI xs k = xs[k.toNat]? := by
  unfold atI ixN
  rw [if_pos h0, if_pos h1]; rfl
theorem atI_some {α : Type} {xs : List α} {k : Int} (h0 : 0 ≤ k) (h1 : k < xs.length) : ∃ x, atI xs k = some x ∧ xs[k.toNat]? = some x := by
  rw [atI_get h0 h1]
  have hl : k.toNat < xs.length := by omega
  exact ⟨xs[k.toNat], List.getElem?_eq_getElem hl, List.getElem?_eq_getElem hl⟩
theorem atI_map {α β : Type} (f : α → β) (xs : List α) (k : Int) : atI (xs.map f) k = (atI xs k).map f := by
  unfold atI
  rw [List.length_map]
  cases ixN xs.length k with
  | none => rfl
  | some j => simp

def t_cell_at : C3 :=
  (cSeq (cIf (tT (tO ltR (tV 1) (tB3 lenR (tC3 (tV 0) tN3)))) (cRet (tO ixR (tV 0) (tV 1))) cNext)
    (cRet (tK (.int 0))))

def sp_cell_at : Sp3 := spR (fun (a : List Int × Int) => [.fl (a.1.map .int), .int a.2]) (fun a _ => 0 ≤ a.2) (fun a h d h' => ∃ c : Int, .int c = d ∧ h = h')
theorem mono_cell_at : MonoS sp_cell_at := mono_spR
theorem len_cell_at : ∀ ds h Q E, sp_cell_at ds h Q E → ds.length = 2 := len_spR fun _ => rfl
theorem rd_cell_at : ∀ ds h Q E, ClS h.length h → ClDs h.length ds → sp_cell_at ds h Q E → t_cell_at (ends3 (GQ h.length Q)) (start3 2 ds) h := by
  rintro ds h Q E _ _ ⟨⟨ns, k⟩, rfl, hk, q⟩
  try simp only [tV, tK, tO, tT, tN3, tC3, cNext, cSeq, cRet, cIf, tB3, start3, ends3, ltR_ii, ixR_fi, lenR_f, List.getElem?_cons_zero, List.getElem?_cons_succ, List.map_cons, List.map_nil, List.cons_append, List.nil_append, List.length_cons, List.length_nil, List.replicate_zero, decide_eq_true_eq, Nat.reduceAdd, Nat.reduceSub, t_cell_at]
  split
  next hlt =>
    obtain ⟨x, e, _⟩ := atI_some (xs := ns) (k := k) hk (by simpa using hlt)
    rw [atD_of (by rw [atI_map, e]; rfl)]
    exact .inl (q _ _ ⟨x, rfl, rfl⟩)
  next => exact .inl (q _ _ ⟨0, rfl, rfl⟩)

/-- a purse of draws: a number and a seed -/
def DrawOk (c s : Int) : Prop := 0 ≤ c ∧ 0 ≤ s ∧ s < 2147483648
def draw (c s : Int) : Cell := .lst [.int c, .int s]
def b_purse_1 : C3 :=
  (cSeq (cAsg (tO addR (tO addR (tO mulR (tV 3) (tK (.int 48271))) (tO modR (tCall3 sp_cell_at (tC3 (tV 0) (tC3 (tO addR (tV 1) (tV 4)) tN3))) (tK (.int 2147483647)))) (tO mulR (tK (.int 131)) (tV 4))) (gN 3))
    (cAsg (tO modR (tV 3) (tK (.int 2147483629))) (gN 3)))
def r_purse_1 : C3 :=
  (cSeq (cAsg (tO addR (tO mulR (tK (.int 17)) (tV 1)) (tK (.int 5))) (gN 3))
    (cSeq (cFor (iRng (tC3 (tK (.int 9)) tN3)) (gN 4) b_purse_1)
    (cRet (tNew (tC3 (tK (.int 0)) (tC3 (tO addR (tV 3) (tK (.int 1))) tN3))))))
def t_purse : C3 :=
  (cSeq (cAsg (tCall3 sp_cell_at (tC3 (tV 0) (tC3 (tV 1) tN3))) (gN 2))
    (cSeq (cIf (tT (tO geR (tV 2) (tO powR (tK (.int 10)) (tK (.int 18))))) (cRet (tNew (tC3 (tV 2) (tC3 (tK (.int 0)) tN3)))) cNext)
    r_purse_1))

def sp_purse : Sp3 := spR (fun (a : List Int × Int) => [.fl (a.1.map .int), .int a.2]) (fun a _ => 0 ≤ a.2 ∧ a.2 < 1000) (fun a h d h' => ∃ c s : Int, DrawOk c s ∧ .ref h.length = d ∧ h' = h ++ [draw c s])
theorem mono_purse : MonoS sp_purse := mono_spR
theorem len_purse : ∀ ds h Q E, sp_purse ds h Q E → ds.length = 2 := len_spR fun _ => rfl
theorem purse_loop {E : Ends3} {ns : List Int} {k : Int} {o2 : Option D} {h : Sto} (hk : 0 ≤ k) : ∀ (xs : List D), (∀ x ∈ xs, ∃ j : Int, x = .int j ∧ 0 ≤ j) → ∀ (seed : Int) (o4 : Option D), 0 ≤ seed → seed < 2147483647 →
    (∀ (seed : Int) (o4 : Option D), 0 ≤ seed → seed < 2147483647 → E.nx [some (.fl (ns.map .int)), some (.int k), o2, some (.int seed), o4] h) →
    forI (gN 4) b_purse_1 (fun _ => True) E xs [some (.fl (ns.map .int)), some (.int k), o2, some (.int seed), o4] h := by
  intro xs
  induction xs with
  | nil => exact fun _ seed o4 h0 h1 q => ⟨trivial, q seed o4 h0 h1⟩
  | cons x r ih =>
    intro hx seed o4 h0 h1 q
    obtain ⟨j, rfl, hj⟩ := hx x List.mem_cons_self
    try simp only [tV, tK, tO, tN3, tC3, cSeq, cAsg, gN, tCall3, addR_ii, mulR_ii, List.getElem?_cons_zero, List.getElem?_cons_succ, List.set_cons_zero, List.set_cons_succ, true_and, forI, b_purse_1]
    refine ⟨mulOk_r (by decide), (ns, k + j), rfl, by show 0 ≤ k + j; omega, ?_⟩
    rintro _ _ ⟨c', rfl, rfl⟩
    try simp only [addR_ii, modR_ii]
    refine ⟨by decide, mulOk_l (by decide), by decide, ?_⟩
    exact ih (fun x hx' => hx x (List.mem_cons_of_mem _ hx')) _ _ (by omega) (by omega) q
theorem rd_purse : ∀ ds h Q E, ClS h.length h → ClDs h.length ds → sp_purse ds h Q E → t_purse (ends3 (GQ h.length Q)) (start3 5 ds) h := by
  rintro ds h Q E _ _ ⟨⟨ns, k⟩, rfl, hk, q⟩
  try simp only [tV, tK, tO, tT, tN3, tC3, tNew, cNext, cSeq, cRet, cIf, cAsg, gN, tCall3, start3, ends3, powR_ii, List.getElem?_cons_zero, List.getElem?_cons_succ, List.set_cons_zero, List.set_cons_succ, List.map_cons, List.map_nil, List.cons_append, List.nil_append, List.length_cons, List.length_nil, List.replicate_succ, List.replicate_zero, Nat.reduceAdd, Nat.reduceSub, t_purse]
  refine ⟨(ns, k), rfl, hk.1, ?_⟩
  rintro _ _ ⟨c, rfl, rfl⟩
  try simp only [geR_ii, decide_eq_true_eq]
  refine ⟨by decide, ?_⟩
  split
  next h18 =>
    have : (0 : Int) ≤ 10 ^ (Int.toNat 18) := by decide
    exact .inl (q _ _ ⟨c, 0, ⟨by omega, by decide, by decide⟩, rfl, rfl⟩)
  next =>
    refine ⟨mulOk_l (by decide), by decide, ?_⟩
    have hk' : 0 ≤ k ∧ k < 1000 := hk
    refine purse_loop hk'.1 _ (fun x hx => ?_) _ _ (by omega) (by omega) fun seed o4 h0 h1 => ?_
    · obtain ⟨j, hj, rfl⟩ := List.mem_map.mp hx
      have := List.mem_range.mp hj
      exact ⟨j, rfl, by omega⟩
    · try simp only [tV, tK, tO, tN3, tC3, tNew, cRet, addR_ii, List.getElem?_cons_zero, List.getElem?_cons_succ]
      exact .inl (q _ _ ⟨0, seed + 1, ⟨by decide, by omega, by omega⟩, rfl, rfl⟩)

def b_take_1 : C3 :=
  (cSeq (cAsg (tO modR (tO mulR (tO ixR (tV 0) (tK (.int 1))) (tK (.int 48271))) (tK (.int 2147483647))) (gSub3 (tV 0) (tK (.int 1))))
    (cAsg (tO addR (tO mulR (tV 3) (tK (.int 2147483647))) (tO modR (tO mulR (tO ixR (tV 0) (tK (.int 1))) (tO ixR (tV 0) (tK (.int 1)))) (tK (.int 2147483629)))) (gN 3)))
def r_take_1 : C3 :=
  (cSeq (cAsg (tK (.int 0)) (gN 3))
    (cSeq (cFor (iRng (tC3 (tO addR (tK (.int 1)) (tO divR (tBits3 (tV 1)) (tK (.int 28)))) tN3)) (gN 4) b_take_1)
    (cRet (tO modR (tO divR (tV 3) (tK (.int 7))) (tV 1)))))
def t_take : C3 :=
  (cSeq (cIf (tT (tO eqR (tO ixR (tV 0) (tK (.int 1))) (tK (.int 0)))) (cSeq (cAsg (tO modR (tO ixR (tV 0) (tK (.int 0))) (tV 1)) (gN 2))
    (cSeq (cAsg (tO divR (tO ixR (tV 0) (tK (.int 0))) (tV 1)) (gSub3 (tV 0) (tK (.int 0))))
    (cRet (tV 2)))) cNext)
    r_take_1)

def sp_take : Sp3 := spR (fun (a : Nat × Int × Int × Int) => [.ref a.1, .int a.2.2.2]) (fun a h => h[a.1]? = some (draw a.2.1 a.2.2.1) ∧ DrawOk a.2.1 a.2.2.1 ∧ 0 < a.2.2.2 ∧ a.2.2.2 < 2 ^ 2000)
  (fun a h d h' => ∃ c s r : Int, DrawOk c s ∧ 0 ≤ r ∧ r < a.2.2.2 ∧ .int r = d ∧ h' = h.set a.1 (draw c s))
theorem mono_take : MonoS sp_take := mono_spR
theorem len_take : ∀ ds h Q E, sp_take ds h Q E → ds.length = 2 := len_spR fun _ => rfl
theorem getElem?_set_of {α : Type} {h : List α} {n : Nat} {c c' : α} (e : h[n]? = some c) : (h.set n c')[n]? = some c' := List.getElem?_set_self (List.getElem?_eq_some_iff.mp e).1
theorem intBits_le {n : Int} (h0 : 0 < n) (h : n < 2 ^ 2000) : Builtin.Int.intBits n ≤ 2001 := by
  unfold Builtin.Int.intBits
  split
  · omega
  · have : n.natAbs < 2 ^ 2000 := by omega
    have := PySem.Flt.log2_lt_of (by decide) this
    omega
theorem set_same {α : Type} {h : List α} {n : Nat} {c : α} (e : h[n]? = some c) : h.set n c = h := by
  apply List.ext_getElem?
  intro i
  by_cases hi : n = i
  · subst hi
    rw [getElem?_set_of e, e]
  · rw [List.getElem?_set_ne hi]
theorem take_loop {E : Ends3} {a : Nat} {c n : Int} {o2 : Option D} : ∀ (xs : List D) (h : Sto) (s found : Int) (o4 : Option D), h[a]? = some (draw c s) → 0 ≤ s → s < 2147483648 →
    (∀ (s found : Int) (o4 : Option D), 0 ≤ s → s < 2147483648 → E.nx [some (.ref a), some (.int n), o2, some (.int found), o4] (h.set a (draw c s))) →
    forI (gN 4) b_take_1 (fun _ => True) E xs [some (.ref a), some (.int n), o2, some (.int found), o4] h := by
  intro xs
  induction xs with
  | nil =>
    intro h s found o4 ha h0 h1 q
    have := q s found o4 h0 h1
    rw [set_same ha] at this
    exact ⟨trivial, this⟩
  | cons x r ih =>
    intro h s found o4 ha h0 h1 q
    have ha' : h[a]? = some (Cell.lst [.int c, .int s]) := ha
    have i1 : ∀ u v : D, atI [u, v] 1 = some v := fun _ _ => rfl
    have j1 : ixN 2 1 = some 1 := rfl
    try simp only [tV, tK, tO, cSeq, cAsg, gN, gSub3, onLst_some, mulR_ii, modR_ii, ixR_ri, atD_0, atD_1, setR_ri, List.getElem?_cons_zero, List.getElem?_cons_succ, List.set_cons_zero, List.set_cons_succ, List.length_cons, List.length_nil, Nat.reduceAdd, true_and, forI, b_take_1, ha', j1]
    refine ⟨mulOk_r (by decide), by decide, ?_⟩
    try simp only [onLst_some, addR_ii, mulR_ii, modR_ii, atD_0, atD_1, getElem?_set_of ha']
    refine ⟨mulOk_r (by decide), mulOk_l (by omega), by decide, ?_⟩
    refine ih _ (s * 48271 % 2147483647) _ _ (getElem?_set_of ha') (by omega) (by omega) fun s' f' o' g0 g1 => ?_
    rw [List.set_set]
    exact q s' f' o' g0 g1
theorem rd_take : ∀ ds h Q E, ClS h.length h → ClDs h.length ds → sp_take ds h Q E → t_take (ends3 (GQ h.length Q)) (start3 5 ds) h := by
  rintro ds h Q E _ _ ⟨⟨a, c, s, n⟩, rfl, ⟨ha, hd, hn0, hn1⟩, q⟩
  have ha' : h[a]? = some (Cell.lst [.int c, .int s]) := ha
  have hn0' : 0 < n := hn0
  have hn1' : n < 2 ^ 2000 := hn1
  have hd' : 0 ≤ c ∧ 0 ≤ s ∧ s < 2147483648 := hd
  have i1 : ∀ u v : D, atI [u, v] 1 = some v := fun _ _ => rfl
  have i0 : ∀ u v : D, atI [u, v] 0 = some u := fun _ _ => rfl
  have j0 : ixN 2 0 = some 0 := rfl
  have j1 : ixN 2 1 = some 1 := rfl
  have hdiv : divOk n := divOk_of hn0' (Int.lt_of_lt_of_le hn1' (by decide))
  try simp only [tV, tK, tO, tT, cNext, cSeq, cRet, cIf, cAsg, gN, gSub3, start3, ends3, onLst_some, divR_ii, modR_ii, eqR_ii, ixR_ri, atD_0, atD_1, setR_ri, ixN2_0, List.getElem?_cons_zero, List.getElem?_cons_succ, List.set_cons_zero, List.set_cons_succ, List.map_cons, List.map_nil, List.cons_append, List.nil_append, List.length_cons, List.length_nil, List.replicate_succ, List.replicate_zero, decide_eq_true_eq, Nat.reduceAdd, Nat.reduceSub, t_take, ha']
  split
  next hs =>
    refine ⟨hn0', hdiv, ?_⟩
    exact .inl (q _ _ ⟨c / n, s, c % n, ⟨Int.ediv_nonneg hd'.1 (by omega), hd'.2⟩, Int.emod_nonneg _ (by omega), Int.emod_lt_of_pos _ hn0', rfl, rfl⟩)
  next hs =>
    have hb := intBits_le hn0' hn1'
    refine ⟨⟨by decide, by decide⟩, ⟨by omega, by omega⟩, ?_⟩
    refine take_loop _ h s 0 _ ha hd'.2.1 hd'.2.2 fun s found o4 h0 h1 => ?_
    try simp only [tV, tK, tO, cRet, divR_ii, modR_ii, List.getElem?_cons_zero, List.getElem?_cons_succ]
    refine ⟨⟨by decide, by decide⟩, hn0', .inl (q _ _ ⟨c, s, found / 7 % n, ⟨hd'.1, h0, h1⟩, Int.emod_nonneg _ (by omega), Int.emod_lt_of_pos _ hn0', rfl, rfl⟩)⟩
end F3
/-! LQ: sizes and pairings drawn. -/
namespace F3
open PySem PySem.Spec PyProof.Rows L2

/-- a draw more from the purse at a -/
theorem take_at {a : Nat} {c s n : Int} {h : Sto} {Q : DK} {E : X3} (ha : h[a]? = some (draw c s)) (hd : DrawOk c s) (h0 : 0 < n) (h1 : n < 2 ^ 2000)
    (q : ∀ c s r : Int, DrawOk c s → 0 ≤ r → r < n → Q (.int r) (h.set a (draw c s))) : sp_take [.ref a, .int n] h Q E :=
  ⟨(a, c, s, n), rfl, ⟨ha, hd, h0, h1⟩, by
    rintro _ _ ⟨c, s, r, hd, h0, h1, rfl, rfl⟩
    exact q c s r hd h0 h1⟩
theorem atI3 {α : Type} {xs : List α} {r : Int} (h0 : 0 ≤ r) (h1 : r < xs.length) : ∃ x, x ∈ xs ∧ atI xs r = some x := by
  obtain ⟨x, e1, e2⟩ := atI_some (xs := xs) h0 h1
  exact ⟨x, List.mem_of_getElem? e2, e1⟩

def t_size : C3 :=
  (cRet (tCall3 sp_take (tC3 (tV 0) (tC3 (tIxX (tC3 (tK (.int 4)) (tC3 (tK (.int 12)) (tC3 (tK (.int 40)) (tC3 (tO powR (tK (.int 10)) (tK (.int 6))) (tC3 (tO powR (tK (.int 10)) (tK (.int 30))) (tC3 (tO powR (tK (.int 10)) (tK (.int 60))) tN3)))))) (tCall3 sp_take (tC3 (tV 0) (tC3 (tK (.int 6)) tN3)))) tN3))))

def sp_size : Sp3 := spR (fun (a : Nat × Int × Int) => [.ref a.1]) (fun a h => h[a.1]? = some (draw a.2.1 a.2.2) ∧ DrawOk a.2.1 a.2.2)
  (fun a h d h' => ∃ c s r : Int, DrawOk c s ∧ 0 ≤ r ∧ r < 10 ^ 60 ∧ .int r = d ∧ h' = h.set a.1 (draw c s))
theorem mono_size : MonoS sp_size := mono_spR
theorem len_size : ∀ ds h Q E, sp_size ds h Q E → ds.length = 1 := len_spR fun _ => rfl
theorem rd_size : ∀ ds h Q E, ClS h.length h → ClDs h.length ds → sp_size ds h Q E → t_size (ends3 (GQ h.length Q)) (start3 1 ds) h := by
  rintro ds h Q E _ _ ⟨⟨a, c, s⟩, rfl, ⟨ha, hd⟩, q⟩
  try simp only [tV, tK, tO, tN3, tC3, cRet, tCall3, tIxX, start3, ends3, powR_ii, List.getElem?_cons_zero, List.map_cons, List.map_nil, List.cons_append, List.nil_append, List.length_cons, List.length_nil, List.replicate_zero, Nat.reduceAdd, Nat.reduceSub, t_size]
  refine ⟨by decide, by decide, by decide, take_at ha hd (by decide) (by decide) fun c s r hd h0 h1 => ?_⟩
  refine atD_all h0 h1 fun x hx => ?_
  have hx : ∃ n : Int, x = .int n ∧ 0 < n ∧ n ≤ 10 ^ 60 := by
    simp only [List.mem_cons, List.not_mem_nil, or_false] at hx
    rcases hx with rfl | rfl | rfl | rfl | rfl | rfl <;> exact ⟨_, rfl, by decide, by decide⟩
  obtain ⟨n, rfl, hn0, hn1⟩ := hx
  refine take_at (getElem?_set_of ha) hd hn0 (Int.lt_of_le_of_lt hn1 (by decide)) fun c s r hd h0 h1 => ?_
  rw [List.set_set]
  exact .inl (q _ _ ⟨c, s, r, hd, h0, by omega, rfl, rfl⟩)
theorem size_at {a : Nat} {c s : Int} {h : Sto} {Q : DK} {E : X3} (ha : h[a]? = some (draw c s)) (hd : DrawOk c s)
    (q : ∀ c s r : Int, DrawOk c s → 0 ≤ r → r < 10 ^ 60 → Q (.int r) (h.set a (draw c s))) : sp_size [.ref a] h Q E :=
  ⟨(a, c, s), rfl, ⟨ha, hd⟩, by
    rintro _ _ ⟨c, s, r, hd, h0, h1, rfl, rfl⟩
    exact q c s r hd h0 h1⟩
/-- a pairing as a value -/
def pr (low high long : Int) (t : Bool) : D := .tup [.int low, .int high, .int long, .bl t]
def r_pairing_1 : C3 :=
  (cRet (tTup3 (tC3 (tV 1) (tC3 (tO addR (tV 1) (tV 4)) (tC3 (tV 2) (tC3 (tO eqR (tCall3 sp_take (tC3 (tV 0) (tC3 (tK (.int 2)) tN3))) (tK (.int 1))) tN3))))))
def t_pairing : C3 :=
  (cSeq (cAsg (tCall3 sp_size (tC3 (tV 0) tN3)) (gN 1))
    (cSeq (cAsg (tO addR (tK (.int 1)) (tCall3 sp_size (tC3 (tV 0) tN3))) (gN 2))
    (cSeq (cAsg (tCall3 sp_take (tC3 (tV 0) (tC3 (tK (.int 6)) tN3))) (gN 3))
    (cSeq (cAsg (tCall3 sp_size (tC3 (tV 0) tN3)) (gN 4))
    (cSeq (cIf (tT (tO ltR (tV 3) (tK (.int 4)))) (cAsg (tIxX (tC3 (tK (.int 0)) (tC3 (tO modR (tV 4) (tV 2)) (tC3 (tV 2) (tC3 (tO addR (tV 2) (tV 4)) tN3)))) (tV 3)) (gN 4)) cNext)
    r_pairing_1)))))

def sp_pairing : Sp3 := spR (fun (a : Nat × Int × Int) => [.ref a.1]) (fun a h => h[a.1]? = some (draw a.2.1 a.2.2) ∧ DrawOk a.2.1 a.2.2)
  (fun a h d h' => ∃ c s low gap long : Int, ∃ t : Bool, DrawOk c s ∧ 0 ≤ low ∧ 0 ≤ gap ∧ 1 ≤ long ∧ low < 10 ^ 60 ∧ gap ≤ 2 * 10 ^ 60 ∧ long ≤ 10 ^ 60 ∧ pr low (low + gap) long t = d ∧ h' = h.set a.1 (draw c s))
theorem mono_pairing : MonoS sp_pairing := mono_spR
theorem len_pairing : ∀ ds h Q E, sp_pairing ds h Q E → ds.length = 1 := len_spR fun _ => rfl
theorem rd_pairing : ∀ ds h Q E, ClS h.length h → ClDs h.length ds → sp_pairing ds h Q E → t_pairing (ends3 (GQ h.length Q)) (start3 5 ds) h := by
  rintro ds h Q E _ _ ⟨⟨a, c, s⟩, rfl, ⟨ha, hd⟩, q⟩
  try simp only [tV, tK, tO, tT, tN3, tC3, cNext, cSeq, cIf, cAsg, gN, tCall3, tIxX, start3, ends3, List.getElem?_cons_zero, List.getElem?_cons_succ, List.set_cons_zero, List.set_cons_succ, List.map_cons, List.map_nil, List.cons_append, List.nil_append, List.length_cons, List.length_nil, List.replicate_succ, List.replicate_zero, Nat.reduceAdd, Nat.reduceSub, t_pairing]
  refine size_at ha hd fun c s low hd l0 l1 => ?_
  have ha := getElem?_set_of (c' := draw c s) ha
  refine size_at ha hd fun c s long hd g0 g1 => ?_
  have ha := getElem?_set_of (c' := draw c s) ha
  try simp only [addR_ii]
  refine take_at ha hd (by decide) (by decide) fun c s way hd w0 w1 => ?_
  have ha := getElem?_set_of (c' := draw c s) ha
  refine size_at ha hd fun c s gap hd p0 p1 => ?_
  have ha := getElem?_set_of (c' := draw c s) ha
  try simp only [addR_ii, modR_ii, ltR_ii, decide_eq_true_eq, List.set_set]
  try simp only [List.set_set] at ha
  have fin : ∀ gap : Int, 0 ≤ gap → gap ≤ 2 * 10 ^ 60 → r_pairing_1 (ends3 (GQ h.length Q)) [some (.ref a), some (.int low), some (.int (1 + long)), some (.int way), some (.int gap)] (h.set a (draw c s)) := fun gap q0 q1 => by
    try simp only [tV, tK, tO, tN3, tC3, tTup3, cRet, tCall3, ends3, addR_ii, List.getElem?_cons_zero, List.getElem?_cons_succ, r_pairing_1]
    refine take_at ha hd (by decide) (by decide) fun c s r hd h0 h1 => ?_
    try simp only [eqR_ii, List.set_set]
    exact .inl (q _ _ ⟨c, s, low, gap, 1 + long, decide (r = 1), hd, l0, q0, by omega, l1, q1, by omega, rfl, rfl⟩)
  split
  next hw =>
    refine ⟨by omega, ?_⟩
    refine atD_all w0 hw fun x hx => ?_
    have hx : ∃ n : Int, x = .int n ∧ 0 ≤ n ∧ n ≤ 2 * 10 ^ 60 := by
      have m0 := Int.emod_nonneg gap (show (1 + long) ≠ 0 by omega)
      have m1 := Int.emod_lt_of_pos gap (show 0 < 1 + long by omega)
      simp only [List.mem_cons, List.not_mem_nil, or_false] at hx
      rcases hx with rfl | rfl | rfl | rfl <;> exact ⟨_, rfl, by omega, by omega⟩
    obtain ⟨n, rfl, hn0, hn1⟩ := hx
    exact fin n hn0 hn1
  next hw => exact fin gap p0 (by omega)
theorem pairing_at {a : Nat} {c s : Int} {h : Sto} {Q : DK} {E : X3} (ha : h[a]? = some (draw c s)) (hd : DrawOk c s)
    (q : ∀ c s low gap long t, DrawOk c s → 0 ≤ low → 0 ≤ gap → 1 ≤ long → low < 10 ^ 60 → gap ≤ 2 * 10 ^ 60 → long ≤ 10 ^ 60 → Q (pr low (low + gap) long t) (h.set a (draw c s))) : sp_pairing [.ref a] h Q E :=
  ⟨(a, c, s), rfl, ⟨ha, hd⟩, by
    rintro _ _ ⟨c, s, low, gap, long, t, hd, h0, h1, h2, h3, h4, h5, rfl, rfl⟩
    exact q c s low gap long t hd h0 h1 h2 h3 h4 h5⟩
end F3
/-! LR: pairings of the program: is_whole, is_pairing, paired, partner, forth, back, is_turn. -/
namespace F3
open PySem PySem.Spec PyProof.Rows L2

def isW : D → Bool
  | .int _ => true
  | _ => false
/-- a thing whose class is known -/
def Kn (h : Sto) (d : D) : Prop := ∃ a, tyN d h = some a
def t_is_whole : C3 :=
  (cRet (tAndE (tB3 isiR (tC3 (tV 0) (tC3 (tK (.ty "int")) tN3))) (tNotE (tB3 isiR (tC3 (tV 0) (tC3 (tK (.ty "bool")) tN3))))))

def sp_is_whole : Sp3 := spD (fun (d : D) => [d]) (fun d h => Kn h d) (fun d _ => .bl (isW d)) (fun _ h => h)
theorem mono_is_whole : MonoS sp_is_whole := mono_spD
theorem len_is_whole : ∀ ds h Q E, sp_is_whole ds h Q E → ds.length = 1 := len_spD fun _ => rfl
theorem tyN_w {d : D} {h : Sto} {a : String} (e : tyN d h = some a) : (isT a "int" && !isT a "bool") = isW d ∧ (isT a "bool" = true → ∃ b, d = .bl b) ∧ (isT a "tuple" = true → ∃ xs, d = .tup xs) := by
  have no : ∀ {a T : String}, isT a T = false → isT a T = true → False := fun h1 h2 => by rw [h1] at h2; cases h2
  have nob : ∀ {a : String} {d : D}, isT a "int" = false → isT a "bool" = false → isT a "tuple" = false → isW d = false → (isT a "int" && !isT a "bool") = isW d ∧ (isT a "bool" = true → ∃ b, d = .bl b) ∧ (isT a "tuple" = true → ∃ xs, d = .tup xs) := fun h1 h2 h3 h4 =>
    ⟨by rw [h1, h4]; rfl, fun h => (no h2 h).elim, fun h => (no h3 h).elim⟩
  cases d with
  | ref n =>
    simp only [tyN] at e
    split at e <;> first | (cases e; exact nob (by decide) (by decide) (by decide) rfl) | (cases e)
  | non => cases e; exact nob (by decide) (by decide) (by decide) rfl
  | bl b => cases e; exact ⟨rfl, fun _ => ⟨b, rfl⟩, fun h => (no (by decide) h).elim⟩
  | int b => cases e; exact ⟨rfl, fun h => (no (by decide) h).elim, fun h => (no (by decide) h).elim⟩
  | str b => cases e; exact nob (by decide) (by decide) (by decide) rfl
  | tup b => cases e; exact ⟨rfl, fun h => (no (by decide) h).elim, fun _ => ⟨b, rfl⟩⟩
  | fl b => cases e; exact nob (by decide) (by decide) (by decide) rfl
  | ty b => cases e
  | adr b => cases e
theorem rd_is_whole : ∀ ds h Q E, ClS h.length h → ClDs h.length ds → sp_is_whole ds h Q E → t_is_whole (ends3 (GQ h.length Q)) (start3 1 ds) h := by
  rintro ds h Q E _ _ ⟨d, rfl, ⟨a, e⟩, q⟩
  try simp only [tV, tK, tNotE, tN3, tC3, cRet, tB3, start3, ends3, isB_some, isiR_int, isiR_bool, ifB_b, tAndE_eq, List.getElem?_cons_zero, List.map_cons, List.map_nil, List.cons_append, List.nil_append, List.length_cons, List.length_nil, List.replicate_zero, Nat.reduceAdd, Nat.reduceSub, t_is_whole, e]
  have e2 := (tyN_w e).1
  have q' : Q (.bl (isW d)) h := q
  rw [← e2] at q'
  cases h1 : isT a "int" <;> cases h2 : isT a "bool" <;> simp only [h1, h2, Bool.not_true, Bool.not_false, Bool.and_true, Bool.and_false, Bool.true_and, Bool.false_and, if_true, if_false, Bool.false_eq_true] at q' ⊢ <;> exact .inl q'
theorem whole_at {d : D} {h : Sto} {Q : DK} {E : X3} (hk : Kn h d) (q : Q (.bl (isW d)) h) : sp_is_whole [d] h Q E := ⟨d, rfl, hk, q⟩
theorem kn_int {h : Sto} {i : Int} : Kn h (.int i) := ⟨_, rfl⟩
theorem kn_bl {h : Sto} {i : Bool} : Kn h (.bl i) := ⟨_, rfl⟩
theorem kn_tup {h : Sto} {i : List D} : Kn h (.tup i) := ⟨_, rfl⟩
theorem kn_str {h : Sto} {i : Str} : Kn h (.str i) := ⟨_, rfl⟩
theorem kn_non {h : Sto} : Kn h .non := ⟨_, rfl⟩
theorem kn_lst {h : Sto} {n : Nat} {xs : List D} (e : h[n]? = some (.lst xs)) : Kn h (.ref n) := ⟨_, tyN_r e⟩

def isPairing : D → Bool
  | .tup [.int low, .int high, .int long, .bl _] => decide (0 ≤ low) && (decide (low ≤ high) && decide (1 ≤ long))
  | _ => false
def r_is_pairing_2 : C3 :=
  (cRet (tAndE (tCh leR leR (tK (.int 0)) (tV 1) (tV 2)) (tO geR (tV 3) (tK (.int 1)))))
def r_is_pairing_1 : C3 :=
  (cSeq (cAsg (tV 0) (gTup3 4 (gCons3 (gN 1) (gCons3 (gN 2) (gCons3 (gN 3) (gCons3 (gN 4) gNil3))))))
    (cSeq (cIf (tOr3 (tNot3 (tT (tCall3 sp_is_whole (tC3 (tV 1) tN3)))) (tOr3 (tNot3 (tT (tCall3 sp_is_whole (tC3 (tV 2) tN3)))) (tOr3 (tNot3 (tT (tCall3 sp_is_whole (tC3 (tV 3) tN3)))) (tNot3 (tT (tB3 isiR (tC3 (tV 4) (tC3 (tK (.ty "bool")) tN3)))))))) (cRet (tK (.bl false))) cNext)
    r_is_pairing_2))
def t_is_pairing : C3 :=
  (cSeq (cIf (tOr3 (tNot3 (tT (tB3 isiR (tC3 (tV 0) (tC3 (tK (.ty "tuple")) tN3))))) (tT (tO neR (tB3 lenR (tC3 (tV 0) tN3)) (tK (.int 4))))) (cRet (tK (.bl false))) cNext)
    r_is_pairing_1)

def sp_is_pairing : Sp3 := spD (fun (d : D) => [d]) (fun d h => Kn h d ∧ ∀ xs, d = .tup xs → ∀ x ∈ xs, Kn h x) (fun d _ => .bl (isPairing d)) (fun _ h => h)
theorem mono_is_pairing : MonoS sp_is_pairing := mono_spD
theorem len_is_pairing : ∀ ds h Q E, sp_is_pairing ds h Q E → ds.length = 1 := len_spD fun _ => rfl
theorem isW_int {d : D} (h : isW d = true) : ∃ i, d = .int i := by
  cases d <;> first | exact ⟨_, rfl⟩ | cases h
theorem not_pairing {d : D} (h : ∀ xs, d = .tup xs → xs.length ≠ 4) : isPairing d = false := by
  unfold isPairing
  split
  · exact absurd rfl (h _ rfl)
  · rfl
theorem not_pairing4 {a b c t : D} (h : isW a = false ∨ isW b = false ∨ isW c = false ∨ ∀ x, t ≠ .bl x) : isPairing (.tup [a, b, c, t]) = false := by
  unfold isPairing
  split
  next e =>
    cases e
    rcases h with h | h | h | h
    · cases h
    · cases h
    · cases h
    · exact absurd rfl (h _)
  · rfl
theorem rd_is_pairing : ∀ ds h Q E, ClS h.length h → ClDs h.length ds → sp_is_pairing ds h Q E → t_is_pairing (ends3 (GQ h.length Q)) (start3 5 ds) h := by
  rintro ds h Q E _ _ ⟨d, rfl, ⟨⟨ty, e⟩, hk⟩, q⟩
  have q' : Q (.bl (isPairing d)) h := q
  try simp only [tV, tK, tO, tT, tOr3, tNot3, tN3, tC3, cNext, cSeq, cRet, cIf, tB3, start3, ends3, isB_some, isiR_tuple, List.getElem?_cons_zero, List.map_cons, List.map_nil, List.cons_append, List.nil_append, List.length_cons, List.length_nil, List.replicate_succ, List.replicate_zero, Bool.not_eq_true', Nat.reduceAdd, Nat.reduceSub, if_true, t_is_pairing, e]
  cases ht : isT ty "tuple" with
  | false =>
    try simp only [if_true]
    rw [not_pairing] at q'
    · exact .inl q'
    · rintro xs rfl
      cases e
      exact absurd ht (by decide)
  | true =>
    obtain ⟨xs, rfl⟩ := (tyN_w e).2.2 ht
    try simp only [neR_ii, lenR_t, Bool.not_eq_true', decide_eq_false_iff_not, Bool.true_eq_false, if_false]
    by_cases hl : (xs.length : Int) = 4
    · match xs, hl, hk xs rfl, q' with
      | [a, b, c, t], _, hk, q' =>
        have ka := hk a (by simp)
        have kb := hk b (by simp)
        have kc := hk c (by simp)
        obtain ⟨tt, et⟩ := hk t (by simp)
        try simp only [tV, tK, tT, tOr3, tNot3, tN3, tC3, cNext, cSeq, cRet, cIf, cAsg, gN, gNil3, gCons3, gTup3, tCall3, tB3, isiR_bool, List.getElem?_cons_zero, List.getElem?_cons_succ, List.set_cons_zero, List.set_cons_succ, List.length_cons, List.length_nil, Bool.not_eq_true', Nat.reduceAdd, true_and, if_true, r_is_pairing_1]
        refine whole_at ka ?_
        cases wa : isW a with
        | false => try simp only [if_true]; rw [not_pairing4 (.inl wa)] at q'; exact .inl q'
        | true =>
          try simp only [Bool.true_eq_false, if_false]
          refine whole_at kb ?_
          cases wb : isW b with
          | false => try simp only [if_true]; rw [not_pairing4 (.inr (.inl wb))] at q'; exact .inl q'
          | true =>
            try simp only [Bool.true_eq_false, if_false]
            refine whole_at kc ?_
            cases wc : isW c with
            | false => try simp only [if_true]; rw [not_pairing4 (.inr (.inr (.inl wc)))] at q'; exact .inl q'
            | true =>
              try simp only [isB_some, Bool.true_eq_false, if_false, et]
              cases wt : isT tt "bool" with
              | false =>
                try simp only [if_true]
                rw [not_pairing4 (.inr (.inr (.inr ?_)))] at q'
                · exact .inl q'
                · rintro x rfl
                  cases et
                  exact absurd wt (by decide)
              | true =>
                obtain ⟨x, rfl⟩ := (tyN_w et).2.1 wt
                obtain ⟨low, rfl⟩ := isW_int wa
                obtain ⟨high, rfl⟩ := isW_int wb
                obtain ⟨long, rfl⟩ := isW_int wc
                try simp only [tV, tK, tO, cRet, leR_ii, geR_ii, ifB_b, tAndE_eq, tCh_eq, List.getElem?_cons_zero, List.getElem?_cons_succ, decide_eq_true_eq, Bool.true_eq_false, Bool.false_eq_true, if_false, r_is_pairing_2]
                have q2 : Q (.bl (decide (0 ≤ low) && (decide (low ≤ high) && decide (1 ≤ long)))) h := q'
                by_cases h1 : 0 ≤ low <;> by_cases h2 : low ≤ high <;> by_cases h3 : 1 ≤ long <;> simp only [h1, h2, h3, decide_true, decide_false, Bool.and_true, Bool.and_false, Bool.true_and, Bool.false_and, if_true, if_false, Bool.false_eq_true] at q2 ⊢ <;> exact .inl q2
    · simp only [hl, decide_false, Bool.not_false, if_true]
      rw [not_pairing] at q'
      · exact .inl q'
      · rintro ys e2 hl'
        cases e2
        exact hl (by omega)
theorem pairing_is {d : D} {h : Sto} {Q : DK} {E : X3} (hk : Kn h d) (hk2 : ∀ xs, d = .tup xs → ∀ x ∈ xs, Kn h x) (q : Q (.bl (isPairing d)) h) : sp_is_pairing [d] h Q E := ⟨d, rfl, ⟨hk, hk2⟩, q⟩
theorem pairing_is4 {a b c : Int} {t : Bool} {h : Sto} {Q : DK} {E : X3} (q : Q (.bl (isPairing (pr a b c t))) h) : sp_is_pairing [pr a b c t] h Q E :=
  pairing_is ⟨_, rfl⟩ (fun xs e x hx => by
    cases e
    simp only [List.mem_cons, List.not_mem_nil, or_false] at hx
    rcases hx with rfl | rfl | rfl | rfl
    · exact kn_int
    · exact kn_int
    · exact kn_int
    · exact kn_bl) q

def t_paired : C3 :=
  (cRet (tTup3 (tC3 (tB3 minR (tC3 (tV 0) (tC3 (tV 1) tN3))) (tC3 (tB3 maxR (tC3 (tV 0) (tC3 (tV 1) tN3))) (tC3 (tV 2) (tC3 (tV 3) tN3))))))

def mn (a b : Int) : Int := if b < a then b else a
def mx (a b : Int) : Int := if b > a then b else a
def sp_paired : Sp3 := spD (fun (a : Int × Int × Int × Bool) => [.int a.1, .int a.2.1, .int a.2.2.1, .bl a.2.2.2]) (fun _ _ => True) (fun a _ => pr (mn a.1 a.2.1) (mx a.1 a.2.1) a.2.2.1 a.2.2.2) (fun _ h => h)
theorem mono_paired : MonoS sp_paired := mono_spD
theorem len_paired : ∀ ds h Q E, sp_paired ds h Q E → ds.length = 4 := len_spD fun _ => rfl
theorem rd_paired : ∀ ds h Q E, ClS h.length h → ClDs h.length ds → sp_paired ds h Q E → t_paired (ends3 (GQ h.length Q)) (start3 4 ds) h := by
  rintro ds h Q E _ _ ⟨⟨a, b, c, t⟩, rfl, _, q⟩
  try simp only [tV, tN3, tC3, tTup3, cRet, tB3, start3, ends3, minR_ii, maxR_ii, List.getElem?_cons_zero, List.getElem?_cons_succ, List.map_cons, List.map_nil, List.cons_append, List.nil_append, List.length_cons, List.length_nil, List.replicate_zero, Nat.reduceAdd, Nat.reduceSub, t_paired]
  exact .inl q

/-- to where a place is led -/
def partnerV (b g l : Int) (t : Bool) (p : Int) : Option Int := if b ≤ p ∧ p < b + l then some (if t = true then g + b + l - 1 - p else g + p - b) else none
def optD : Option Int → D
  | some i => .int i
  | none => .non
def r_partner_2 : C3 :=
  (cRet (tO subR (tO addR (tV 1) (tV 4)) (tV 0)))
def r_partner_1 : C3 :=
  (cSeq (cIf (tT (tV 3)) (cRet (tO subR (tO subR (tO addR (tO addR (tV 1) (tV 0)) (tV 2)) (tK (.int 1))) (tV 4))) cNext)
    r_partner_2)
def t_partner : C3 :=
  (cSeq (cIf (tNot3 (tT (tCh leR ltR (tV 0) (tV 4) (tO addR (tV 0) (tV 2))))) (cRet (tK .non)) cNext)
    r_partner_1)

def sp_partner : Sp3 := spD (fun (a : Int × Int × Int × Bool × Int) => [.int a.1, .int a.2.1, .int a.2.2.1, .bl a.2.2.2.1, .int a.2.2.2.2]) (fun _ _ => True) (fun a _ => optD (partnerV a.1 a.2.1 a.2.2.1 a.2.2.2.1 a.2.2.2.2)) (fun _ h => h)
theorem mono_partner : MonoS sp_partner := mono_spD
theorem len_partner : ∀ ds h Q E, sp_partner ds h Q E → ds.length = 5 := len_spD fun _ => rfl
theorem rd_partner : ∀ ds h Q E, ClS h.length h → ClDs h.length ds → sp_partner ds h Q E → t_partner (ends3 (GQ h.length Q)) (start3 5 ds) h := by
  rintro ds h Q E _ _ ⟨⟨b, g, l, t, p⟩, rfl, _, q⟩
  have q' : Q (optD (if b ≤ p ∧ p < b + l then some (if t = true then g + b + l - 1 - p else g + p - b) else none)) h := q
  try simp only [tV, tK, tO, tT, tNot3, cNext, cSeq, cRet, cIf, start3, ends3, addR_ii, ltR_ii, leR_ii, ifB_b, tCh_eq, List.getElem?_cons_zero, List.getElem?_cons_succ, List.map_cons, List.map_nil, List.cons_append, List.nil_append, List.length_cons, List.length_nil, List.replicate_zero, decide_eq_true_eq, Bool.not_eq_true', decide_eq_false_iff_not, Nat.reduceAdd, Nat.reduceSub, if_true, t_partner]
  by_cases h1 : b ≤ p
  · by_cases h2 : p < b + l
    · simp only [h1, h2, and_self, if_true, optD] at q'
      simp only [h1, h2, if_true, decide_true, Bool.not_true, Bool.false_eq_true, if_false]
      try simp only [tV, tK, tO, tT, cNext, cSeq, cRet, cIf, addR_ii, subR_ii, List.getElem?_cons_zero, List.getElem?_cons_succ, if_false, not_true_eq_false, r_partner_1, r_partner_2]
      cases t
      · exact .inl q'
      · exact .inl q'
    · simp only [h2, and_false, if_false, optD] at q'
      simp only [h1, h2, if_true, decide_false, Bool.not_false]
      exact .inl q'
  · simp only [h1, false_and, if_false, optD] at q'
    simp only [h1, if_false, Bool.not_false, if_true]
    exact .inl q'
def t_forth : C3 :=
  (cSeq (cAsg (tV 0) (gTup3 4 (gCons3 (gN 2) (gCons3 (gN 3) (gCons3 (gN 4) (gCons3 (gN 5) gNil3))))))
    (cRet (tCall3 sp_partner (tC3 (tV 2) (tC3 (tV 3) (tC3 (tV 4) (tC3 (tV 5) (tC3 (tV 1) tN3))))))))

def t_back : C3 :=
  (cSeq (cAsg (tV 0) (gTup3 4 (gCons3 (gN 2) (gCons3 (gN 3) (gCons3 (gN 4) (gCons3 (gN 5) gNil3))))))
    (cRet (tCall3 sp_partner (tC3 (tV 3) (tC3 (tV 2) (tC3 (tV 4) (tC3 (tV 5) (tC3 (tV 1) tN3))))))))

def sp_forth : Sp3 := spD (fun (a : Int × Int × Int × Bool × Int) => [pr a.1 a.2.1 a.2.2.1 a.2.2.2.1, .int a.2.2.2.2]) (fun _ _ => True) (fun a _ => optD (partnerV a.1 a.2.1 a.2.2.1 a.2.2.2.1 a.2.2.2.2)) (fun _ h => h)
theorem mono_forth : MonoS sp_forth := mono_spD
theorem len_forth : ∀ ds h Q E, sp_forth ds h Q E → ds.length = 2 := len_spD fun _ => rfl
theorem rd_forth : ∀ ds h Q E, ClS h.length h → ClDs h.length ds → sp_forth ds h Q E → t_forth (ends3 (GQ h.length Q)) (start3 6 ds) h := by
  rintro ds h Q E _ _ ⟨⟨b, g, l, t, p⟩, rfl, _, q⟩
  try simp only [tV, tN3, tC3, cSeq, cRet, cAsg, gN, gNil3, gCons3, gTup3, tCall3, start3, ends3, List.getElem?_cons_zero, List.getElem?_cons_succ, List.set_cons_zero, List.set_cons_succ, List.map_cons, List.map_nil, List.cons_append, List.nil_append, List.length_cons, List.length_nil, List.replicate_succ, List.replicate_zero, Nat.reduceAdd, Nat.reduceSub, true_and, t_forth, pr]
  exact ⟨(b, g, l, t, p), rfl, trivial, .inl q⟩
def sp_back : Sp3 := spD (fun (a : Int × Int × Int × Bool × Int) => [pr a.1 a.2.1 a.2.2.1 a.2.2.2.1, .int a.2.2.2.2]) (fun _ _ => True) (fun a _ => optD (partnerV a.2.1 a.1 a.2.2.1 a.2.2.2.1 a.2.2.2.2)) (fun _ h => h)
theorem mono_back : MonoS sp_back := mono_spD
theorem len_back : ∀ ds h Q E, sp_back ds h Q E → ds.length = 2 := len_spD fun _ => rfl
theorem rd_back : ∀ ds h Q E, ClS h.length h → ClDs h.length ds → sp_back ds h Q E → t_back (ends3 (GQ h.length Q)) (start3 6 ds) h := by
  rintro ds h Q E _ _ ⟨⟨b, g, l, t, p⟩, rfl, _, q⟩
  try simp only [tV, tN3, tC3, cSeq, cRet, cAsg, gN, gNil3, gCons3, gTup3, tCall3, start3, ends3, List.getElem?_cons_zero, List.getElem?_cons_succ, List.set_cons_zero, List.set_cons_succ, List.map_cons, List.map_nil, List.cons_append, List.nil_append, List.length_cons, List.length_nil, List.replicate_succ, List.replicate_zero, Nat.reduceAdd, Nat.reduceSub, true_and, t_back, pr]
  exact ⟨(g, b, l, t, p), rfl, trivial, .inl q⟩
theorem forth_at {b g l p : Int} {t : Bool} {h : Sto} {Q : DK} {E : X3} (q : Q (optD (partnerV b g l t p)) h) : sp_forth [pr b g l t, .int p] h Q E := ⟨(b, g, l, t, p), rfl, trivial, q⟩
theorem back_at {b g l p : Int} {t : Bool} {h : Sto} {Q : DK} {E : X3} (q : Q (optD (partnerV g b l t p)) h) : sp_back [pr b g l t, .int p] h Q E := ⟨(b, g, l, t, p), rfl, trivial, q⟩
theorem paired_at {a b l : Int} {t : Bool} {h : Sto} {Q : DK} {E : X3} (q : Q (pr (mn a b) (mx a b) l t) h) : sp_paired [.int a, .int b, .int l, .bl t] h Q E := ⟨(a, b, l, t), rfl, trivial, q⟩
theorem purse_at {ns : List Int} {k : Int} {h : Sto} {Q : DK} {E : X3} (h0 : 0 ≤ k) (h1 : k < 1000) (q : ∀ c s, DrawOk c s → Q (.ref h.length) (h ++ [draw c s])) : sp_purse [.fl (ns.map .int), .int k] h Q E :=
  ⟨(ns, k), rfl, ⟨h0, h1⟩, by
    rintro _ _ ⟨c, s, hd, rfl, rfl⟩
    exact q c s hd⟩
end F3
/-! LS: the laws' helps about pairings: tiny ones, a place's mate, places to ask. -/
namespace F3
open PySem PySem.Spec PyProof.Rows L2

/-- a law's walk: the cells asked -/
theorem cells_range {n : Int} (hn : n ≤ 1000) : ∀ x ∈ (List.range n.toNat).map fun (k : Nat) => D.int k, ∃ j : Int, x = .int j ∧ 0 ≤ j ∧ j < 1000 := fun x hx => by
  obtain ⟨j, hj, rfl⟩ := List.mem_map.mp hx
  have := List.mem_range.mp hj
  exact ⟨j, rfl, by omega, by omega⟩
theorem min_len {n m : Int} {ns : List Int} (h0 : 0 ≤ n) (h1 : n ≤ 500) : -(2 ^ 62) ≤ (1 + if ((ns.map D.int).length : Int) < n then ((ns.map D.int).length : Int) else n) ∧ (1 + if ((ns.map D.int).length : Int) < n then ((ns.map D.int).length : Int) else n) < 2 ^ 62 ∧ (1 + if ((ns.map D.int).length : Int) < n then ((ns.map D.int).length : Int) else n) ≤ 1000 := by
  split <;> omega

def t_tiny : C3 :=
  (cSeq (cAsg (tO addR (tK (.int 1)) (tCall3 sp_take (tC3 (tV 0) (tC3 (tK (.int 20)) tN3)))) (gN 1))
    (cSeq (cAsg (tCall3 sp_take (tC3 (tV 0) (tC3 (tK (.int 20)) tN3))) (gN 2))
    (cSeq (cAsg (tIxX (tC3 (tK (.int 0)) (tC3 (tCall3 sp_take (tC3 (tV 0) (tC3 (tV 1) tN3))) (tC3 (tV 1) (tC3 (tCall3 sp_take (tC3 (tV 0) (tC3 (tK (.int 40)) tN3))) tN3)))) (tCall3 sp_take (tC3 (tV 0) (tC3 (tK (.int 4)) tN3)))) (gN 3))
    (cRet (tTup3 (tC3 (tV 2) (tC3 (tO addR (tV 2) (tV 3)) (tC3 (tV 1) (tC3 (tO eqR (tCall3 sp_take (tC3 (tV 0) (tC3 (tK (.int 2)) tN3))) (tK (.int 1))) tN3)))))))))

def sp_tiny : Sp3 := spR (fun (a : Nat × Int × Int) => [.ref a.1]) (fun a h => h[a.1]? = some (draw a.2.1 a.2.2) ∧ DrawOk a.2.1 a.2.2)
  (fun a h d h' => ∃ c s low gap long : Int, ∃ t : Bool, DrawOk c s ∧ 0 ≤ low ∧ 0 ≤ gap ∧ 1 ≤ long ∧ low < 20 ∧ gap < 40 ∧ long ≤ 20 ∧ pr low (low + gap) long t = d ∧ h' = h.set a.1 (draw c s))
theorem mono_tiny : MonoS sp_tiny := mono_spR
theorem len_tiny : ∀ ds h Q E, sp_tiny ds h Q E → ds.length = 1 := len_spR fun _ => rfl
theorem rd_tiny : ∀ ds h Q E, ClS h.length h → ClDs h.length ds → sp_tiny ds h Q E → t_tiny (ends3 (GQ h.length Q)) (start3 4 ds) h := by
  rintro ds h Q E _ _ ⟨⟨a, c, s⟩, rfl, ⟨ha, hd⟩, q⟩
  try simp only [tV, tK, tO, tN3, tC3, tTup3, cSeq, cRet, cAsg, gN, tCall3, tIxX, start3, ends3, List.getElem?_cons_zero, List.getElem?_cons_succ, List.set_cons_zero, List.set_cons_succ, List.map_cons, List.map_nil, List.cons_append, List.nil_append, List.length_cons, List.length_nil, List.replicate_succ, List.replicate_zero, Nat.reduceAdd, Nat.reduceSub, t_tiny]
  refine take_at ha hd (by decide) (by decide) fun c s long hd l0 l1 => ?_
  have ha := getElem?_set_of (c' := draw c s) ha
  try simp only [addR_ii]
  refine take_at ha hd (by decide) (by decide) fun c s low hd m0 m1 => ?_
  have ha := getElem?_set_of (c' := draw c s) ha
  skip
  refine take_at ha hd (by omega) (by omega) fun c s g1 hd g0 g1' => ?_
  have ha := getElem?_set_of (c' := draw c s) ha
  skip
  refine take_at ha hd (by decide) (by decide) fun c s g2 hd k0 k1 => ?_
  have ha := getElem?_set_of (c' := draw c s) ha
  skip
  refine take_at ha hd (by decide) (by decide) fun c s way hd w0 w1 => ?_
  have ha := getElem?_set_of (c' := draw c s) ha
  refine atD_all w0 w1 fun x hx => ?_
  have hx : ∃ n : Int, x = .int n ∧ 0 ≤ n ∧ n < 40 := by
    simp only [List.mem_cons, List.not_mem_nil, or_false] at hx
    rcases hx with rfl | rfl | rfl | rfl <;> exact ⟨_, rfl, by omega, by omega⟩
  obtain ⟨gap, rfl, hn0, hn1⟩ := hx
  try simp only [addR_ii]
  refine take_at ha hd (by decide) (by decide) fun c s r hd h0 h1 => ?_
  try simp only [eqR_ii, List.set_set]
  exact .inl (q _ _ ⟨c, s, low, gap, 1 + long, decide (r = 1), hd, m0, hn0, by omega, m1, hn1, by omega, rfl, rfl⟩)
theorem tiny_at {a : Nat} {c s : Int} {h : Sto} {Q : DK} {E : X3} (ha : h[a]? = some (draw c s)) (hd : DrawOk c s)
    (q : ∀ c s low gap long t, DrawOk c s → 0 ≤ low → 0 ≤ gap → 1 ≤ long → low < 20 → gap < 40 → long ≤ 20 → Q (pr low (low + gap) long t) (h.set a (draw c s))) : sp_tiny [.ref a] h Q E :=
  ⟨(a, c, s), rfl, ⟨ha, hd⟩, by
    rintro _ _ ⟨c, s, low, gap, long, t, hd, h0, h1, h2, h3, h4, h5, rfl, rfl⟩
    exact q c s low gap long t hd h0 h1 h2 h3 h4 h5⟩
def r_mate_1 : C3 :=
  (cRet (tO addR (tV 3) (tV 1)))
def t_mate : C3 :=
  (cSeq (cAsg (tV 0) (gTup3 4 (gCons3 (gN 2) (gCons3 (gN 3) (gCons3 (gN 4) (gCons3 (gN 5) gNil3))))))
    (cSeq (cIf (tT (tV 5)) (cRet (tO subR (tO subR (tO addR (tV 3) (tV 4)) (tK (.int 1))) (tV 1))) cNext)
    r_mate_1))

def mate (high long : Int) (t : Bool) (i : Int) : Int := if t = true then high + long - 1 - i else high + i
def sp_mate : Sp3 := spD (fun (a : Int × Int × Int × Bool × Int) => [pr a.1 a.2.1 a.2.2.1 a.2.2.2.1, .int a.2.2.2.2]) (fun _ _ => True) (fun a _ => .int (mate a.2.1 a.2.2.1 a.2.2.2.1 a.2.2.2.2)) (fun _ h => h)
theorem mono_mate : MonoS sp_mate := mono_spD
theorem len_mate : ∀ ds h Q E, sp_mate ds h Q E → ds.length = 2 := len_spD fun _ => rfl
theorem rd_mate : ∀ ds h Q E, ClS h.length h → ClDs h.length ds → sp_mate ds h Q E → t_mate (ends3 (GQ h.length Q)) (start3 6 ds) h := by
  rintro ds h Q E _ _ ⟨⟨b, g, l, t, p⟩, rfl, _, q⟩
  try simp only [tV, tK, tO, tT, cNext, cSeq, cRet, cIf, cAsg, gN, gNil3, gCons3, gTup3, start3, ends3, addR_ii, subR_ii, List.getElem?_cons_zero, List.getElem?_cons_succ, List.set_cons_zero, List.set_cons_succ, List.map_cons, List.map_nil, List.cons_append, List.nil_append, List.length_cons, List.length_nil, List.replicate_succ, List.replicate_zero, Nat.reduceAdd, Nat.reduceSub, true_and, t_mate, pr, r_mate_1]
  cases t
  · exact .inl q
  · exact .inl q
theorem mate_at {b g l p : Int} {t : Bool} {h : Sto} {Q : DK} {E : X3} (q : Q (.int (mate g l t p)) h) : sp_mate [pr b g l t, .int p] h Q E := ⟨(b, g, l, t, p), rfl, trivial, q⟩
def t_whole : C3 :=
  (cRet (tAndE (tB3 isiR (tC3 (tV 0) (tC3 (tK (.ty "int")) tN3))) (tNotE (tB3 isiR (tC3 (tV 0) (tC3 (tK (.ty "bool")) tN3))))))

def sp_whole : Sp3 := sp_is_whole
theorem mono_whole : MonoS sp_whole := mono_spD
theorem len_whole : ∀ ds h Q E, sp_whole ds h Q E → ds.length = 1 := len_is_whole
theorem rd_whole : ∀ ds h Q E, ClS h.length h → ClDs h.length ds → sp_whole ds h Q E → t_whole (ends3 (GQ h.length Q)) (start3 1 ds) h := rd_is_whole
theorem whole_at' {d : D} {h : Sto} {Q : DK} {E : X3} (hk : Kn h d) (q : Q (.bl (isW d)) h) : sp_whole [d] h Q E := ⟨d, rfl, hk, q⟩
def b_numbers_1 : C3 :=
  (cDrop (tLM appT (tV 2) (tC3 (tCall3 sp_take (tC3 (tV 0) (tC3 (tV 1) tN3))) tN3)))
def r_numbers_1 : C3 :=
  (cSeq (cAsg (tNew (tC3 (tK (.int 0)) (tC3 (tK (.int 1)) (tC3 (tO subR (tV 1) (tK (.int 2))) (tC3 (tO subR (tV 1) (tK (.int 1))) tN3))))) (gN 2))
    (cSeq (cFor (iRng (tC3 (tK (.int 8)) tN3)) (gN 3) b_numbers_1)
    (cRet (tV 2))))
def t_numbers : C3 :=
  (cSeq (cIf (tT (tO ltR (tV 1) (tK (.int 21)))) (cRet (tNew (xRg1 (tV 1)))) cNext)
    r_numbers_1)

def sp_numbers : Sp3 := spR (fun (a : Nat × Int × Int × Int) => [.ref a.1, .int a.2.2.2]) (fun a h => h[a.1]? = some (draw a.2.1 a.2.2.1) ∧ DrawOk a.2.1 a.2.2.1 ∧ 1 ≤ a.2.2.2 ∧ a.2.2.2 < 2 ^ 2000)
  (fun a h d h' => ∃ c s : Int, ∃ ns : List Int, DrawOk c s ∧ (∀ n ∈ ns, 0 ≤ n ∧ n < a.2.2.2) ∧ .ref h.length = d ∧ h' = h.set a.1 (draw c s) ++ [.lst (ns.map .int)])
theorem mono_numbers : MonoS sp_numbers := mono_spR
theorem len_numbers : ∀ ds h Q E, sp_numbers ds h Q E → ds.length = 2 := len_spR fun _ => rfl
theorem numbers_loop {E : Ends3} {a : Nat} {long : Int} {h : Sto} (hl : 1 ≤ long ∧ long < 2 ^ 2000) (hal : a < h.length) : ∀ (xs : List D) (c s : Int) (ns : List Int) (o3 : Option D), DrawOk c s → (∀ n ∈ ns, 0 ≤ n ∧ n < long) → ns.length + xs.length ≤ 100 →
    (∀ (c s : Int) (ns : List Int) (o3 : Option D), DrawOk c s → (∀ n ∈ ns, 0 ≤ n ∧ n < long) → E.nx [some (.ref a), some (.int long), some (.ref h.length), o3] (h.set a (draw c s) ++ [.lst (ns.map .int)])) →
    forI (gN 3) b_numbers_1 (fun _ => True) E xs [some (.ref a), some (.int long), some (.ref h.length), o3] (h.set a (draw c s) ++ [.lst (ns.map .int)]) := by
  intro xs
  induction xs with
  | nil => exact fun c s ns o3 hd hn _ q => ⟨trivial, q c s ns o3 hd hn⟩
  | cons x r ih =>
    intro c s ns o3 hd hn hz q
    have e1 : (h.set a (draw c s) ++ [Cell.lst (ns.map .int)])[h.length]? = some (.lst (ns.map .int)) := by
      rw [List.getElem?_append_right (by simp)]; simp
    have e2 : (h.set a (draw c s) ++ [Cell.lst (ns.map .int)])[a]? = some (draw c s) := by
      rw [List.getElem?_append_left (by simpa using hal)]
      exact List.getElem?_set_self hal
    try simp only [tV, tN3, tC3, cDrop, gN, tCall3, tLM, appT, List.getElem?_cons_zero, List.getElem?_cons_succ, List.set_cons_zero, List.set_cons_succ, true_and, forI, b_numbers_1, e1]
    refine take_at e2 hd (by omega) hl.2 fun c' s' r' hd' r0 r1 => ?_
    have e3 : (h.set a (draw c s) ++ [Cell.lst (ns.map .int)]).set a (draw c' s') = h.set a (draw c' s') ++ [.lst (ns.map .int)] := by
      rw [List.set_append, if_pos (by simpa using hal), List.set_set]
    have e4 : (h.set a (draw c' s') ++ [Cell.lst (ns.map .int)])[h.length]? = some (.lst (ns.map .int)) := by
      rw [List.getElem?_append_right (by simp)]; simp
    try simp only [e3, e4]
    refine ⟨by simp; simp at hz; omega, ?_⟩
    have e5 : (h.set a (draw c' s') ++ [Cell.lst (ns.map .int)]).set h.length (.lst (ns.map .int ++ [.int r'])) = h.set a (draw c' s') ++ [.lst ((ns ++ [r']).map .int)] := by
      rw [List.set_append, if_neg (by simp)]
      simp
    rw [e5]
    refine ih c' s' (ns ++ [r']) _ hd' (fun n hm => ?_) (by simp at hz ⊢; omega) q
    rcases List.mem_append.mp hm with z | z
    · exact hn n z
    · rw [List.mem_singleton.mp z]; exact ⟨r0, r1⟩
theorem rd_numbers : ∀ ds h Q E, ClS h.length h → ClDs h.length ds → sp_numbers ds h Q E → t_numbers (ends3 (GQ h.length Q)) (start3 4 ds) h := by
  rintro ds h Q E _ _ ⟨⟨a, c, s, long⟩, rfl, ⟨ha, hd, hl0, hl1⟩, q⟩
  have hl0' : 1 ≤ long := hl0
  have hl1' : long < 2 ^ 2000 := hl1
  have hal : a < h.length := (List.getElem?_eq_some_iff.mp ha).1
  have same : h.set a (draw c s) = h := set_same ha
  try simp only [tV, tK, tO, tT, tNew, cNext, cSeq, cRet, cIf, start3, ends3, ltR_ii, List.getElem?_cons_zero, List.getElem?_cons_succ, List.map_cons, List.map_nil, List.cons_append, List.nil_append, List.length_cons, List.length_nil, List.replicate_succ, List.replicate_zero, decide_eq_true_eq, Nat.reduceAdd, Nat.reduceSub, t_numbers]
  split
  next hlt =>
    refine ⟨by omega, .inl (q _ _ ⟨c, s, (List.range (long - 0).toNat).map fun (k : Nat) => 0 + (k : Int), hd, fun n hm => ?_, rfl, ?_⟩)⟩
    · obtain ⟨k, hk, rfl⟩ := List.mem_map.mp hm
      have := List.mem_range.mp hk
      show 0 ≤ 0 + (k : Int) ∧ 0 + (k : Int) < long
      omega
    · show _ = h.set a (draw c s) ++ _
      rw [same, List.map_map]
      rfl
  next hlt =>
    try simp only [tV, tK, tO, tN3, tC3, tNew, cSeq, cAsg, gN, cFor, subR_ii, iRng_eq, rngD_1, List.getElem?_cons_zero, List.getElem?_cons_succ, List.set_cons_zero, List.set_cons_succ, r_numbers_1]
    refine ⟨by decide, ?_⟩
    have := numbers_loop (E := { nx := cRet (tV 2) { nx := fun x h_1 => GQ h.length Q D.non h_1, rt := GQ h.length Q, bk := fun x x_1 => False, ct := fun x x_1 => False }, rt := GQ h.length Q, bk := fun x x_1 => False, ct := fun x x_1 => False }) (a := a) (h := h) ⟨hl0', hl1'⟩ hal ((List.range (Int.toNat 8)).map fun (k : Nat) => D.int k) c s [0, 1, long - 2, long - 1] none hd (fun n hm => by
      simp only [List.mem_cons, List.not_mem_nil, or_false] at hm
      omega) (by simp) (fun c s ns o3 hd hn => by
      try simp only [tV, cRet, List.getElem?_cons_zero, List.getElem?_cons_succ]
      exact .inl (q _ _ ⟨c, s, ns, hd, hn, rfl, rfl⟩))
    rw [same] at this
    exact this
theorem numbers_at {a : Nat} {c s long : Int} {h : Sto} {Q : DK} {E : X3} (ha : h[a]? = some (draw c s)) (hd : DrawOk c s) (h0 : 1 ≤ long) (h1 : long < 2 ^ 2000)
    (q : ∀ (c s : Int) (ns : List Int), DrawOk c s → (∀ n ∈ ns, 0 ≤ n ∧ n < long) → Q (.ref h.length) (h.set a (draw c s) ++ [.lst (ns.map .int)])) : sp_numbers [.ref a, .int long] h Q E :=
  ⟨(a, c, s, long), rfl, ⟨ha, hd, h0, h1⟩, by
    rintro _ _ ⟨c, s, ns, hd, hn, rfl, rfl⟩
    exact q c s ns hd hn⟩
def t_beside : C3 :=
  (cSeq (cAsg (tNew (tC3 (tO addR (tV 0) (tV 1)) (tC3 (tO addR (tO addR (tV 0) (tV 1)) (tK (.int 1))) (tC3 (tO addR (tO addR (tV 0) (tO mulR (tK (.int 2)) (tV 1))) (tK (.int 7))) tN3)))) (gN 2))
    (cSeq (cIf (tT (tO gtR (tV 0) (tK (.int 0)))) (cAsg (tO addR (tV 2) (tNew (tC3 (tO subR (tV 0) (tK (.int 1))) (tC3 (tK (.int 0)) tN3)))) (gN 2)) cNext)
    (cRet (tV 2))))

def sp_beside : Sp3 := spR (fun (a : Int × Int) => [.int a.1, .int a.2]) (fun a h => 0 ≤ a.1 ∧ 1 ≤ a.2)
  (fun a h d h' => ∃ ns : List Int, (∀ n ∈ ns, n < a.1 ∨ a.1 + a.2 ≤ n) ∧ ns.length ≤ 5 ∧ .ref h.length = d ∧ h' = h ++ [.lst (ns.map .int)])
theorem mono_beside : MonoS sp_beside := mono_spR
theorem len_beside : ∀ ds h Q E, sp_beside ds h Q E → ds.length = 2 := len_spR fun _ => rfl
theorem rd_beside : ∀ ds h Q E, ClS h.length h → ClDs h.length ds → sp_beside ds h Q E → t_beside (ends3 (GQ h.length Q)) (start3 3 ds) h := by
  rintro ds h Q E hcl _ ⟨⟨b, l⟩, rfl, ⟨hb, hl⟩, q⟩
  have hb' : 0 ≤ b := hb
  have hl' : 1 ≤ l := hl
  try simp only [tV, tK, tO, tT, tN3, tC3, tNew, cNext, cSeq, cRet, cIf, cAsg, gN, start3, ends3, addR_ii, addR_rr, subR_ii, mulR_ii, gtR_ii, List.getElem?_cons_zero, List.getElem?_cons_succ, List.set_cons_zero, List.set_cons_succ, List.map_cons, List.map_nil, List.cons_append, List.nil_append, List.length_cons, List.length_nil, List.replicate_succ, List.replicate_zero, decide_eq_true_eq, Nat.reduceAdd, Nat.reduceSub, t_beside]
  refine ⟨mulOk_l (by decide), ?_⟩
  split
  next hlt =>
    have e1 : ∀ (h : Sto) (c d : Cell), (h ++ [c] ++ [d])[h.length]? = some c := fun h c d => by
      rw [List.append_assoc]; exact get_app0
    have e2 : ∀ (h : Sto) (c d : Cell), (h ++ [c] ++ [d])[(h ++ [c]).length]? = some d := fun h c d => by simp
    try simp only [onLst_some, List.cons_append, List.nil_append, List.length_cons, List.length_nil, Nat.reduceAdd, Nat.reduceLeDiff, true_and, e1, e2]
    have : GQ h.length Q (.ref (h.length + 2)) (h ++ [.lst [.int (b + l), .int (b + l + 1), .int (b + 2 * l + 7)], .lst [.int (b - 1), .int 0], .lst [.int (b + l), .int (b + l + 1), .int (b + 2 * l + 7), .int (b - 1), .int 0]]) := by
      refine gq_one rfl (xs := [b + l, b + l + 1, b + 2 * l + 7, b - 1, 0].map .int) rfl (cl_ints _) hcl (q _ _ ⟨[b + l, b + l + 1, b + 2 * l + 7, b - 1, 0], fun n hm => ?_, by simp, rfl, rfl⟩)
      show n < b ∨ b + l ≤ n
      simp only [List.mem_cons, List.not_mem_nil, or_false] at hm
      omega
    simpa using this
  next hlt =>
    refine .inl (q _ _ ⟨[b + l, b + l + 1, b + 2 * l + 7], fun n hm => ?_, by simp, rfl, rfl⟩)
    show n < b ∨ b + l ≤ n
    simp only [List.mem_cons, List.not_mem_nil, or_false] at hm
    omega
theorem beside_at {b l : Int} {h : Sto} {Q : DK} {E : X3} (h0 : 0 ≤ b) (h1 : 1 ≤ l)
    (q : ∀ ns : List Int, (∀ n ∈ ns, n < b ∨ b + l ≤ n) → ns.length ≤ 5 → Q (.ref h.length) (h ++ [.lst (ns.map .int)])) : sp_beside [.int b, .int l] h Q E :=
  ⟨(b, l), rfl, ⟨h0, h1⟩, by
    rintro _ _ ⟨ns, hn, hl, rfl, rfl⟩
    exact q ns hn hl⟩
end F3
/-! LT: partners of a place. -/
namespace F3
open PySem PySem.Spec PyProof.Rows L2

/-- rising lists with the same members are one -/
theorem rising_ext : ∀ {ms ns : List Int}, ms.Pairwise (· < ·) → ns.Pairwise (· < ·) → (∀ k, k ∈ ms ↔ k ∈ ns) → ms = ns
  | [], [], _, _, _ => rfl
  | [], n :: r, _, _, h => by have := (h n).mpr List.mem_cons_self; cases this
  | m :: r, [], _, _, h => by have := (h m).mp List.mem_cons_self; cases this
  | m :: r, n :: q, h1, h2, h => by
    have a1 := List.pairwise_cons.mp h1
    have a2 := List.pairwise_cons.mp h2
    have e : m = n := by
      rcases List.mem_cons.mp ((h m).mp List.mem_cons_self) with e | e
      · exact e
      · rcases List.mem_cons.mp ((h n).mpr List.mem_cons_self) with e' | e'
        · exact e'.symm
        · have x := a1.1 n e'
          have y := a2.1 m e
          omega
    subst e
    rw [rising_ext a1.2 a2.2 fun k => ?_]
    have hk := h k
    constructor
    · intro hm
      rcases List.mem_cons.mp (hk.mp (List.mem_cons_of_mem _ hm)) with e | e
      · have := a1.1 k hm
        omega
      · exact e
    · intro hm
      rcases List.mem_cons.mp (hk.mpr (List.mem_cons_of_mem _ hm)) with e | e
      · have := a2.1 k hm
        omega
      · exact e
/-- k is one of the partners -/
def IsPartner (low high long : Int) (t : Bool) (p k : Int) : Prop := partnerV low high long t p = some k ∨ partnerV high low long t p = some k
def e_partners_1 : E3 :=
  (tV 3)
def t_partners : C3 :=
  (cSeq (cAsg (tNew (tC3 (tCall3 sp_forth (tC3 (tV 0) (tC3 (tV 1) tN3))) (tC3 (tCall3 sp_back (tC3 (tV 0) (tC3 (tV 1) tN3))) tN3))) (gN 2))
    (cRet (tNew (tSSet (tLc3 (iSeq (tV 2)) (gN 3) (tT (tO isnR (tV 3) (tK .non))) e_partners_1 [3])))))

def sp_partners : Sp3 := spR (fun (a : Int × Int × Int × Bool × Int) => [pr a.1 a.2.1 a.2.2.1 a.2.2.2.1, .int a.2.2.2.2]) (fun _ _ => True)
  (fun a h d h' => ∃ ms : List Int, ms.Pairwise (· < ·) ∧ (∀ k, k ∈ ms ↔ IsPartner a.1 a.2.1 a.2.2.1 a.2.2.2.1 a.2.2.2.2 k) ∧ .ref h.length = d ∧ h' = h ++ [.lst (ms.map .int)])
theorem mono_partners : MonoS sp_partners := mono_spR
theorem len_partners : ∀ ds h Q E, sp_partners ds h Q E → ds.length = 2 := len_spR fun _ => rfl
theorem rd_partners : ∀ ds h Q E, ClS h.length h → ClDs h.length ds → sp_partners ds h Q E → t_partners (ends3 (GQ h.length Q)) (start3 4 ds) h := by
  rintro ds h Q E hcl _ ⟨⟨b, g, l, t, p⟩, rfl, _, q⟩
  try simp only [tV, tN3, tC3, tNew, cSeq, cRet, cAsg, gN, iSeq_eq, tLc3, tCall3, start3, ends3, wipe3, tSSet, iSeqD_r, List.getElem?_cons_zero, List.getElem?_cons_succ, List.set_cons_zero, List.set_cons_succ, List.map_cons, List.map_nil, List.cons_append, List.nil_append, List.length_cons, List.length_nil, List.replicate_succ, List.replicate_zero, Nat.reduceAdd, Nat.reduceSub, t_partners]
  refine forth_at (back_at ?_)
  have e1 : ∀ c : Cell, (h ++ [c])[h.length]? = some c := fun c => by simp
  try simp only [onLst_some, List.length_cons, List.length_nil, Nat.reduceAdd, Nat.reduceLeDiff, true_and, e1]
  refine ⟨by simp, ?_⟩
  have fin : ∀ ns : List Int, ns.length < 64 → (∀ k, k ∈ ns ↔ IsPartner b g l t p k) → ∀ c : Cell, ns.length < 64 ∧ ∀ ms : List Int, ms.Pairwise (· < ·) → (∀ k, k ∈ ms ↔ k ∈ ns) → GQ h.length Q (.ref (h ++ [c]).length) (h ++ [c] ++ [.lst (ms.map .int)]) := fun ns hl hn c => ⟨hl, fun ms h1 h2 => by
    have : GQ h.length Q (.ref (h.length + 1)) (h ++ [c, .lst (ms.map .int)]) := gq_one rfl rfl (cl_ints ms) hcl (q _ _ ⟨ms, h1, fun k => (h2 k).trans (hn k), rfl, rfl⟩)
    simpa using this⟩
  cases e2 : partnerV b g l t p with
  | none =>
    cases e3 : partnerV g b l t p with
    | none =>
      try simp only [tV, tK, tO, tT, gN, isnR_n, isN_non, List.getElem?_cons_zero, List.getElem?_cons_succ, List.set_cons_zero, List.set_cons_succ, List.cons_append, List.nil_append, true_and, Bool.false_eq_true, if_false, Bool.not_true, optD, lcI, e_partners_1, e1]
      exact fin [] (by decide) (fun k => by simp [IsPartner, e2, e3]) _
    | some j =>
      try simp only [tV, tK, tO, tT, gN, isnR_n, isN_non, isN_int, List.getElem?_cons_zero, List.getElem?_cons_succ, List.set_cons_zero, List.set_cons_succ, List.cons_append, List.nil_append, true_and, Bool.false_eq_true, if_true, if_false, Bool.not_true, Bool.not_false, optD, lcI, e_partners_1, e1]
      exact fin [j] (by simp) (fun k => by simp [IsPartner, e2, e3]; exact eq_comm) _
  | some i =>
    cases e3 : partnerV g b l t p with
    | none =>
      try simp only [tV, tK, tO, tT, gN, isnR_n, isN_non, isN_int, List.getElem?_cons_zero, List.getElem?_cons_succ, List.set_cons_zero, List.set_cons_succ, List.cons_append, List.nil_append, true_and, Bool.false_eq_true, if_true, if_false, Bool.not_true, Bool.not_false, optD, lcI, e_partners_1, e1]
      exact fin [i] (by simp) (fun k => by simp [IsPartner, e2, e3]; exact eq_comm) _
    | some j =>
      try simp only [tV, tK, tO, tT, gN, isnR_n, isN_int, List.getElem?_cons_zero, List.getElem?_cons_succ, List.set_cons_zero, List.set_cons_succ, List.cons_append, List.nil_append, true_and, if_true, Bool.not_false, optD, lcI, e_partners_1, e1]
      exact fin [i, j] (by simp) (fun k => by simp [IsPartner, e2, e3]; constructor <;> (rintro (h | h) <;> simp [h])) _
theorem partners_at {b g l p : Int} {t : Bool} {h : Sto} {Q : DK} {E : X3} (q : ∀ ms : List Int, ms.Pairwise (· < ·) → (∀ k, k ∈ ms ↔ IsPartner b g l t p k) → Q (.ref h.length) (h ++ [.lst (ms.map .int)])) : sp_partners [pr b g l t, .int p] h Q E :=
  ⟨(b, g, l, t, p), rfl, trivial, by
    rintro _ _ ⟨ms, h1, h2, rfl, rfl⟩
    exact q ms h1 h2⟩
/-- data of lists of ints -/
theorem mapM_of {α : Type} {F : D → Option PyData} {f : α → D} {g : α → PyData} : ∀ {xs : List α}, (∀ x ∈ xs, F (f x) = some (g x)) → (xs.map f).mapM F = some (xs.map g)
  | [], _ => by simp
  | x :: r, h => by
    rw [List.map_cons, List.mapM_cons, h x List.mem_cons_self, mapM_of fun y hy => h y (List.mem_cons_of_mem _ hy)]
    rfl
theorem toP_ints {h : Sto} {k : Nat} (ns : List Int) : (ns.map D.int).mapM (toP h (k + 1)) = some (ns.map PyData.int) := mapM_of fun _ _ => rfl
theorem eqv_ints : ∀ ns ms : List Int, PyData.eqvAll (ns.map .int) (ms.map .int) = decide (ns = ms)
  | [], [] => by simp [PyData.eqvAll]
  | [], _ :: _ => by simp [PyData.eqvAll]
  | _ :: _, [] => by simp [PyData.eqvAll]
  | n :: r, m :: q => by
    simp only [List.map_cons, PyData.eqvAll, PyData.eqv, eqv_ints r q, List.cons.injEq, Bool.decide_and]
    rw [Bool.beq_eq_decide_eq]
theorem toP_lst {h : Sto} {n k : Nat} {xs : List D} {ps : List PyData} (e : h[n]? = some (.lst xs)) (e2 : xs.mapM (toP h k) = some ps) : toP h (k + 1) (.ref n) = some (.list ps) := by
  simp only [toP, e, e2, Option.map_some]
theorem toP_tup {h : Sto} {k : Nat} {xs : List D} {ps : List PyData} (e2 : xs.mapM (toP h k) = some ps) : toP h (k + 1) (.tup xs) = some (.tuple ps) := by
  simp only [toP, e2, Option.map_some]
theorem toP_refI {h : Sto} {n k : Nat} {ns : List Int} (e : h[n]? = some (.lst (ns.map .int))) : toP h (k + 2) (.ref n) = some (.list (ns.map .int)) := toP_lst e (toP_ints ns)
theorem eqv_listI {ns ms : List Int} : PyData.eqv (.list (ns.map .int)) (.list (ms.map .int)) = decide (ns = ms) := by
  simp only [PyData.eqv, eqv_ints]
end F3
set_option maxHeartbeats 200000
namespace F3
open PySem PySem.Spec PyProof.Rows L2
def r_short_1 : C3 :=
  (cRet (tCall3 sp_paired (tC3 (tO addR (tV 3) (tV 1)) (tC3 (tV 7) (tC3 (tV 2) (tC3 (tV 6) tN3))))))
def t_short : C3 :=
  (cSeq (cAsg (tV 0) (gTup3 4 (gCons3 (gN 3) (gCons3 (gN 4) (gCons3 (gN 5) (gCons3 (gN 6) gNil3))))))
    (cSeq (cAsg (tO addR (tV 4) (tV 1)) (gN 7))
    (cSeq (cIf (tT (tV 6)) (cAsg (tO subR (tO subR (tO addR (tV 4) (tV 5)) (tV 1)) (tV 2)) (gN 7)) cNext)
    r_short_1)))

def b_pairs_1 : C3 :=
  (cDrop (tLM appT (tV 5) (tC3 (tTup3 (tC3 (tO addR (tV 1) (tV 6)) (tC3 (tIxX (tC3 (tO addR (tV 2) (tV 6)) (tC3 (tO subR (tO subR (tO addR (tV 2) (tV 3)) (tK (.int 1))) (tV 6)) tN3)) (tB3 intR (tC3 (tV 4) tN3))) tN3))) tN3)))
def t_pairs : C3 :=
  (cSeq (cAsg (tV 0) (gTup3 4 (gCons3 (gN 1) (gCons3 (gN 2) (gCons3 (gN 3) (gCons3 (gN 4) gNil3))))))
    (cSeq (cAsg (tNew tN3) (gN 5))
    (cSeq (cFor (iRng (tC3 (tV 3) tN3)) (gN 6) b_pairs_1)
    (cRet (tV 5)))))

def sbeg (high long : Int) (t : Bool) (skip many : Int) : Int := if t = true then high + long - skip - many else high + skip
def sp_short : Sp3 := spD (fun (a : (Int × Int × Int × Bool) × Int × Int) => [pr a.1.1 a.1.2.1 a.1.2.2.1 a.1.2.2.2, .int a.2.1, .int a.2.2]) (fun _ _ => True)
  (fun a _ => pr (mn (a.1.1 + a.2.1) (sbeg a.1.2.1 a.1.2.2.1 a.1.2.2.2 a.2.1 a.2.2)) (mx (a.1.1 + a.2.1) (sbeg a.1.2.1 a.1.2.2.1 a.1.2.2.2 a.2.1 a.2.2)) a.2.2 a.1.2.2.2) (fun _ h => h)
theorem mono_short : MonoS sp_short := mono_spD
theorem len_short : ∀ ds h Q E, sp_short ds h Q E → ds.length = 3 := len_spD fun _ => rfl
theorem rd_short : ∀ ds h Q E, ClS h.length h → ClDs h.length ds → sp_short ds h Q E → t_short (ends3 (GQ h.length Q)) (start3 8 ds) h := by
  rintro ds h Q E _ _ ⟨⟨⟨low, high, long, t⟩, skip, many⟩, rfl, _, q⟩
  have epr : pr low high long t = .tup [.int low, .int high, .int long, .bl t] := rfl
  cases t
  · try simp only [tV, tO, tT, cNext, cSeq, cIf, cAsg, gN, gNil3, gCons3, gTup3, start3, ends3, addR_ii, subR_ii, List.getElem?_cons_zero, List.getElem?_cons_succ, List.set_cons_zero, List.set_cons_succ, List.map_cons, List.map_nil, List.cons_append, List.nil_append, List.length_cons, List.length_nil, List.replicate_succ, List.replicate_zero, Nat.reduceAdd, Nat.reduceSub, true_and, Bool.false_eq_true, if_false, t_short, epr]
    try simp only [tV, tO, tN3, tC3, cRet, tCall3, addR_ii, List.getElem?_cons_zero, List.getElem?_cons_succ, r_short_1]
    exact paired_at (.inl q)
  · try simp only [tV, tO, tT, cNext, cSeq, cIf, cAsg, gN, gNil3, gCons3, gTup3, start3, ends3, addR_ii, subR_ii, List.getElem?_cons_zero, List.getElem?_cons_succ, List.set_cons_zero, List.set_cons_succ, List.map_cons, List.map_nil, List.cons_append, List.nil_append, List.length_cons, List.length_nil, List.replicate_succ, List.replicate_zero, Nat.reduceAdd, Nat.reduceSub, true_and, if_true, t_short, epr]
    try simp only [tV, tO, tN3, tC3, cRet, tCall3, addR_ii, List.getElem?_cons_zero, List.getElem?_cons_succ, r_short_1]
    exact paired_at (.inl q)
theorem short_at {low high long skip many : Int} {t : Bool} {h : Sto} {Q : DK} {E : X3} (q : Q (pr (mn (low + skip) (sbeg high long t skip many)) (mx (low + skip) (sbeg high long t skip many)) many t) h) : sp_short [pr low high long t, .int skip, .int many] h Q E :=
  ⟨((low, high, long, t), skip, many), rfl, trivial, q⟩
/-- the pairs of a pairing -/
def prs (low high long : Int) (t : Bool) : List (Int × Int) := (List.range long.toNat).map fun (i : Nat) => (low + i, mate high long t i)
theorem mem_prs {low high long : Int} {t : Bool} {p : Int × Int} : p ∈ prs low high long t ↔ ∃ i : Int, 0 ≤ i ∧ i < long ∧ p = (low + i, mate high long t i) := by
  unfold prs
  rw [List.mem_map]
  constructor
  · rintro ⟨i, hi, rfl⟩
    have := List.mem_range.mp hi
    exact ⟨i, by omega, by omega, rfl⟩
  · rintro ⟨i, h0, h1, rfl⟩
    refine ⟨i.toNat, List.mem_range.mpr (by omega), ?_⟩
    have : ((i.toNat : Nat) : Int) = i := by omega
    rw [this]
theorem len_prs {low high long : Int} {t : Bool} : (prs low high long t).length = long.toNat := by simp [prs]
def sp_pairs : Sp3 := spD (fun (a : Int × Int × Int × Bool) => [pr a.1 a.2.1 a.2.2.1 a.2.2.2]) (fun a _ => 0 ≤ a.2.2.1 ∧ a.2.2.1 ≤ 20)
  (fun a h => .ref h.length) (fun a h => h ++ [.lst ((prs a.1 a.2.1 a.2.2.1 a.2.2.2).map prD)])
theorem mono_pairs : MonoS sp_pairs := mono_spD
theorem len_pairs : ∀ ds h Q E, sp_pairs ds h Q E → ds.length = 1 := len_spD fun _ => rfl
theorem pairs_loop {E : Ends3} {low high long : Int} {t : Bool} {h : Sto} {o0 : Option D} : ∀ (xs : List Nat) (acc : List (Int × Int)) (o6 : Option D), acc.length + xs.length ≤ 1000 →
    (∀ o6 : Option D, E.nx [o0, some (.int low), some (.int high), some (.int long), some (.bl t), some (.ref h.length), o6] (h ++ [.lst ((acc ++ xs.map fun (i : Nat) => (low + (i : Int), mate high long t i)).map prD)])) →
    forI (gN 6) b_pairs_1 (fun _ => True) E (xs.map fun (k : Nat) => D.int k) [o0, some (.int low), some (.int high), some (.int long), some (.bl t), some (.ref h.length), o6] (h ++ [.lst (acc.map prD)]) := by
  intro xs
  induction xs with
  | nil =>
    intro acc o6 _ q
    have := q o6
    rw [List.map_nil, List.append_nil] at this
    exact ⟨trivial, this⟩
  | cons i r ih =>
    intro acc o6 hl q
    have e1 : ∀ c : Cell, (h ++ [c])[h.length]? = some c := fun c => by simp
    have e2 : ∀ c c' : Cell, (h ++ [c]).set h.length c' = h ++ [c'] := fun c c' => set_app0
    simp only [List.length_cons] at hl
    refine forI_step trivial fun F hF => ?_
    have q' := ih (acc ++ [(low + (i : Int), mate high long t i)]) (some (.int i)) (by simp; omega) fun o6 => by
      have := q o6
      rw [List.map_cons] at this
      rw [List.append_assoc, List.singleton_append]
      exact this
    rw [← hF, List.map_append] at q'
    cases t
    · try simp only [tV, tK, tO, tN3, tC3, tTup3, cDrop, gN, tB3, tIxX, tLM, appT, addR_ii, subR_ii, atD_0, intR_b, List.getElem?_cons_zero, List.getElem?_cons_succ, List.set_cons_zero, List.set_cons_succ, true_and, Bool.false_eq_true, if_false, b_pairs_1, e1, e2]
      refine ⟨by simp; omega, ?_⟩
      exact q'
    · try simp only [tV, tK, tO, tN3, tC3, tTup3, cDrop, gN, tB3, tIxX, tLM, appT, addR_ii, subR_ii, atD_0, atD_1, intR_b, List.getElem?_cons_zero, List.getElem?_cons_succ, List.set_cons_zero, List.set_cons_succ, true_and, if_true, b_pairs_1, e1, e2]
      refine ⟨by simp; omega, ?_⟩
      exact q'
theorem rd_pairs : ∀ ds h Q E, ClS h.length h → ClDs h.length ds → sp_pairs ds h Q E → t_pairs (ends3 (GQ h.length Q)) (start3 7 ds) h := by
  rintro ds h Q E _ _ ⟨⟨low, high, long, t⟩, rfl, hl, q⟩
  have hl' : 0 ≤ long ∧ long ≤ 20 := hl
  have epr : pr low high long t = .tup [.int low, .int high, .int long, .bl t] := rfl
  have st : ∀ (B : C3), ((-(2 ^ 62) ≤ long ∧ long < 2 ^ 62) ∧ forI (gN 6) B (fun _ => True) { ends3 (GQ h.length Q) with nx := cRet (tV 5) (ends3 (GQ h.length Q)) } ((List.range long.toNat).map fun (k : Nat) => D.int k) [some (pr low high long t), some (.int low), some (.int high), some (.int long), some (.bl t), some (.ref h.length), none] (h ++ [.lst []])) →
    (cSeq (cAsg (tV 0) (gTup3 4 (gCons3 (gN 1) (gCons3 (gN 2) (gCons3 (gN 3) (gCons3 (gN 4) gNil3))))))
    (cSeq (cAsg (tNew tN3) (gN 5))
    (cSeq (cFor (iRng (tC3 (tV 3) tN3)) (gN 6) B)
    (cRet (tV 5))))) (ends3 (GQ h.length Q)) (start3 7 [pr low high long t]) h := fun B q => by
      try simp only [ends3, epr] at q
      try simp only [tV, tN3, tC3, tNew, cSeq, cAsg, gN, gNil3, gCons3, gTup3, cFor, start3, ends3, iRng_eq, rngD_1, List.getElem?_cons_zero, List.getElem?_cons_succ, List.set_cons_zero, List.set_cons_succ, List.map_cons, List.map_nil, List.cons_append, List.nil_append, List.length_cons, List.length_nil, List.replicate_succ, List.replicate_zero, Nat.reduceAdd, Nat.reduceSub, true_and, epr]
      exact q
  refine st b_pairs_1 ⟨⟨by omega, by omega⟩, ?_⟩
  · have := pairs_loop (E := { ends3 (GQ h.length Q) with nx := cRet (tV 5) (ends3 (GQ h.length Q)) }) (low := low) (high := high) (long := long) (t := t) (h := h) (o0 := some (pr low high long t)) (List.range long.toNat) [] none (by simp; omega) fun o6 => by
      rw [List.nil_append]
      exact .inl q
    exact this
theorem pairs_at {low high long : Int} {t : Bool} {h : Sto} {Q : DK} {E : X3} (h0 : 0 ≤ long) (hl : long ≤ 20) (q : Q (.ref h.length) (h ++ [.lst ((prs low high long t).map prD)])) : sp_pairs [pr low high long t] h Q E :=
  ⟨(low, high, long, t), rfl, ⟨h0, hl⟩, q⟩
/-! ### sorted pairs, sets of them -/
def srt (p : Int × Int) : Int × Int := (mn p.1 p.2, mx p.1 p.2)
theorem sort2 {x y : Int} {ns : List Int} (hp : ns.Perm [x, y]) (hs : ns.Pairwise (· ≤ ·)) : ns = [mn x y, mx x y] := by
  have hl := hp.length_eq
  match ns, hl, hp, hs with
  | [a, b], _, hp, hs =>
    have hab : a ≤ b := (List.pairwise_cons.mp hs).1 b (by simp)
    have h1 : ([a, b] : List Int).Perm [x, y] := hp
    have ma : a = x ∨ a = y := by have := hp.mem_iff.mp (List.mem_cons_self (a := a) (l := [b])); simpa using this
    have : (a = x ∧ b = y) ∨ (a = y ∧ b = x) := by
      rcases ma with rfl | rfl
      · left
        have := (List.perm_cons a).mp h1
        exact ⟨rfl, by simpa using this⟩
      · right
        have h2 := h1.trans (List.Perm.swap a x [])
        have := (List.perm_cons a).mp h2
        exact ⟨rfl, by simpa using this⟩
    unfold mn mx
    rcases this with ⟨rfl, rfl⟩ | ⟨rfl, rfl⟩
    · by_cases hc : a < b
      · simp [hc]; try omega
      · have : a = b := by omega
        subst this; simp
    · by_cases hc : a < b
      · have : ¬ b < a := by omega
        simp [hc, this]; try omega
      · have : a = b := by omega
        subst this; simp
theorem keys_ext : ∀ {ms ns : List (Int × Int)}, ms.Pairwise (fun p q => pkey p < pkey q) → ns.Pairwise (fun p q => pkey p < pkey q) → (∀ k, k ∈ ms ↔ k ∈ ns) → ms = ns
  | [], [], _, _, _ => rfl
  | [], n :: r, _, _, h => by have := (h n).mpr List.mem_cons_self; cases this
  | m :: r, [], _, _, h => by have := (h m).mp List.mem_cons_self; cases this
  | m :: r, n :: q, h1, h2, h => by
    have a1 := List.pairwise_cons.mp h1
    have a2 := List.pairwise_cons.mp h2
    have e : m = n := by
      rcases List.mem_cons.mp ((h m).mp List.mem_cons_self) with e | e
      · exact e
      · rcases List.mem_cons.mp ((h n).mpr List.mem_cons_self) with e' | e'
        · exact e'.symm
        · have x := a1.1 n e'
          have y := a2.1 m e
          omega
    subst e
    rw [keys_ext a1.2 a2.2 fun k => ?_]
    have hk := h k
    constructor
    · intro hm
      rcases List.mem_cons.mp (hk.mp (List.mem_cons_of_mem _ hm)) with e | e
      · have := a1.1 k hm
        rw [e] at this
        omega
      · exact e
    · intro hm
      rcases List.mem_cons.mp (hk.mpr (List.mem_cons_of_mem _ hm)) with e | e
      · have := a2.1 k hm
        rw [e] at this
        omega
      · exact e
/-- [tuple(sorted(pair)) for pair in pairs] -/
theorem lc_srt {g : G3} {e : E3} {ρ : S3} {h : Sto} {st : Sto → Prop} (hst : st h) (he : ∀ (p : Int × Int) (Q : DK), (∀ ns : List Int, ns.Perm [p.1, p.2] → ns.Pairwise (· ≤ ·) → Q (.tup (ns.map .int)) h) → g (prD p) ρ h fun ρ2 h2 => e ρ2 h2 Q) :
    ∀ (ps : List (Int × Int)) (acc : List D) (Q : List D → Sto → Prop), Q (acc ++ (ps.map srt).map prD) h → lcI g bYes e st ρ (ps.map prD) acc h Q := by
  intro ps
  induction ps with
  | nil =>
    intro acc Q q
    rw [List.map_nil, List.map_nil, List.append_nil] at q
    exact ⟨hst, q⟩
  | cons p r ih =>
    intro acc Q q
    try simp only [bYes, List.map_cons, if_true, lcI]
    refine ⟨hst, he p _ fun ns h1 h2 => ?_⟩
    rw [sort2 h1 h2]
    have := ih (acc ++ [prD (srt p)]) Q (by
      rw [List.append_assoc]
      exact q)
    exact this
theorem toP_prs {h : Sto} {n k : Nat} {ms : List (Int × Int)} (e : h[n]? = some (.lst (ms.map prD))) : toP h (k + 3) (.ref n) = some (.list (ms.map fun p => .tuple [.int p.1, .int p.2])) :=
  toP_lst e (mapM_of fun p _ => by
    unfold prD
    rw [toP_tup (ps := [.int p.1, .int p.2])]
    rfl)
theorem eqv_prs : ∀ ms : List (Int × Int), PyData.eqv (.list (ms.map fun p => .tuple [.int p.1, .int p.2])) (.list (ms.map fun p => .tuple [.int p.1, .int p.2])) = true := by
  intro ms
  simp only [PyData.eqv]
  induction ms with
  | nil => simp [PyData.eqvAll]
  | cons p r ih => simp [PyData.eqvAll, PyData.eqv, ih]
end F3
namespace F3
/-- a piece: how many places, their weights -/
abbrev Pc := Int × List Int
def lenP (w : List Pc) : Int := (w.map (·.1)).sum
def atP : List Pc → Int → List Int
  | [], _ => []
  | p :: r, i => if i < p.1 then p.2 else atP r (i - p.1)
def shStep (acc : List Pc) (p : Pc) : List Pc :=
  if 0 < p.1 then match acc.getLast? with
    | some q => if q.2 = p.2 then acc.dropLast ++ [(q.1 + p.1, p.2)] else acc ++ [p]
    | none => [p]
  else acc
def shp (ps : List Pc) : List Pc := ps.foldl shStep []
def NN (w : List Pc) : Prop := ∀ p ∈ w, 0 ≤ p.1
def Cn : List Pc → Prop
  | [] => True
  | [p] => 0 < p.1
  | p :: q :: r => 0 < p.1 ∧ p.2 ≠ q.2 ∧ Cn (q :: r)
theorem lenP_nil : lenP [] = 0 := rfl
theorem lenP_cons {p : Pc} {r : List Pc} : lenP (p :: r) = p.1 + lenP r := by simp [lenP]
theorem lenP_app {u v : List Pc} : lenP (u ++ v) = lenP u + lenP v := by simp [lenP]
theorem Cn.pos : ∀ {w : List Pc}, Cn w → ∀ p ∈ w, 0 < p.1
  | [p], h, q, hq => by
    have : q = p := by simpa using hq
    subst this; exact h
  | p :: q :: r, h, x, hx => by
    rcases List.mem_cons.mp hx with e | e
    · subst e; exact h.1
    · exact Cn.pos h.2.2 x e
theorem Cn.nn {w : List Pc} (h : Cn w) : NN w := fun p hp => by have := h.pos p hp; omega
theorem Cn.tail {p : Pc} {r : List Pc} (h : Cn (p :: r)) : Cn r := by
  cases r with
  | nil => trivial
  | cons q r => exact h.2.2
theorem lenP_nn : ∀ {w : List Pc}, NN w → 0 ≤ lenP w
  | [], _ => by simp [lenP]
  | p :: r, h => by
    rw [lenP_cons]
    have := h p List.mem_cons_self
    have := lenP_nn (w := r) fun q hq => h q (List.mem_cons_of_mem _ hq)
    omega
theorem Cn.len_pos {p : Pc} {r : List Pc} (h : Cn (p :: r)) : 0 < lenP (p :: r) := by
  rw [lenP_cons]
  have := h.pos p List.mem_cons_self
  have := lenP_nn h.tail.nn
  omega
theorem cn_snoc : ∀ {w : List Pc} {p : Pc}, Cn (w ++ [p]) ↔ Cn w ∧ 0 < p.1 ∧ ∀ q, w.getLast? = some q → q.2 ≠ p.2
  | [], p => by simp [Cn]
  | [q], p => by simp [Cn]; intro _; exact And.comm
  | q :: s :: r, p => by
    have ih := cn_snoc (w := s :: r) (p := p)
    simp only [List.cons_append] at ih ⊢
    simp only [Cn, ih, List.getLast?_cons_cons]
    constructor
    · rintro ⟨h1, h2, h3, h4, h5⟩; exact ⟨⟨h1, h2, h3⟩, h4, h5⟩
    · rintro ⟨⟨h1, h2, h3⟩, h4, h5⟩; exact ⟨h1, h2, h3, h4, h5⟩
theorem snoc_cases {α : Type} (w : List α) : w = [] ∨ ∃ u q, w = u ++ [q] := by
  rcases List.eq_nil_or_concat w with h | ⟨u, q, h⟩
  · exact .inl h
  · exact .inr ⟨u, q, by rw [h]; simp⟩
theorem shStep_nil {p : Pc} (h : 0 < p.1) : shStep [] p = [p] := by simp [shStep, h]
theorem shStep_same {u : List Pc} {q p : Pc} (h : 0 < p.1) (e : q.2 = p.2) : shStep (u ++ [q]) p = u ++ [(q.1 + p.1, p.2)] := by simp [shStep, h, e]
theorem shStep_new {u : List Pc} {q p : Pc} (h : 0 < p.1) (e : q.2 ≠ p.2) : shStep (u ++ [q]) p = u ++ [q] ++ [p] := by simp [shStep, h, e]
theorem shStep_none {u : List Pc} {p : Pc} (h : ¬ 0 < p.1) : shStep u p = u := by simp [shStep, h]
theorem cn_step {w : List Pc} {p : Pc} (h : Cn w) : Cn (shStep w p) := by
  by_cases hp : 0 < p.1
  · rcases snoc_cases w with rfl | ⟨u, q, rfl⟩
    · rw [shStep_nil hp]; exact hp
    · obtain ⟨h1, h2, h3⟩ := cn_snoc.mp h
      by_cases e : q.2 = p.2
      · rw [shStep_same hp e]
        exact cn_snoc.mpr ⟨h1, by show 0 < q.1 + p.1; omega, fun x hx => by rw [← e]; exact h3 x hx⟩
      · rw [shStep_new hp e]
        exact cn_snoc.mpr ⟨h, hp, fun x hx => by
          have : x = q := by simpa using hx.symm
          subst this; exact e⟩
  · rw [shStep_none hp]; exact h
theorem cn_fold : ∀ (ps : List Pc) {w : List Pc}, Cn w → Cn (ps.foldl shStep w)
  | [], _, h => h
  | p :: r, _, h => cn_fold r (cn_step h)
theorem cn_shp (ps : List Pc) : Cn (shp ps) := cn_fold ps trivial
theorem len_step {w : List Pc} {p : Pc} (hp : 0 ≤ p.1) : lenP (shStep w p) = lenP w + p.1 := by
  by_cases h : 0 < p.1
  · rcases snoc_cases w with rfl | ⟨u, q, rfl⟩
    · rw [shStep_nil h, lenP_cons]; simp [lenP]
    · by_cases e : q.2 = p.2
      · rw [shStep_same h e, lenP_app, lenP_app]; simp [lenP]; omega
      · rw [shStep_new h e, lenP_app (u := u ++ [q])]; simp [lenP]
  · rw [shStep_none h]; omega
theorem len_fold : ∀ (ps : List Pc) {w : List Pc}, NN ps → lenP (ps.foldl shStep w) = lenP w + lenP ps
  | [], _, _ => by simp [lenP]
  | p :: r, w, h => by
    rw [List.foldl_cons, len_fold r (fun q hq => h q (List.mem_cons_of_mem _ hq)), len_step (h p List.mem_cons_self), lenP_cons]
    omega
theorem len_shp {ps : List Pc} (h : NN ps) : lenP (shp ps) = lenP ps := by
  unfold shp
  rw [len_fold ps h, lenP_nil]; omega
theorem atP_app : ∀ {u v : List Pc} {i : Int}, NN u → 0 ≤ i → atP (u ++ v) i = if i < lenP u then atP u i else atP v (i - lenP u)
  | [], v, i, _, h => by rw [lenP_nil, if_neg (by omega)]; simp
  | p :: r, v, i, hn, h => by
    have h0 := hn p List.mem_cons_self
    have hr : NN r := fun q hq => hn q (List.mem_cons_of_mem _ hq)
    have hl := lenP_nn hr
    rw [List.cons_append, lenP_cons]
    simp only [atP]
    by_cases hi : i < p.1
    · rw [if_pos hi, if_pos (by omega), if_pos hi]
    · rw [if_neg hi, if_neg hi, atP_app hr (by omega)]
      by_cases hc : i - p.1 < lenP r
      · rw [if_pos hc, if_pos (by omega)]
      · rw [if_neg hc, if_neg (by omega)]
        congr 1; omega
theorem nn_app {u v : List Pc} : NN (u ++ v) ↔ NN u ∧ NN v := by
  constructor
  · exact fun h => ⟨fun p hp => h p (List.mem_append_left _ hp), fun p hp => h p (List.mem_append_right _ hp)⟩
  · rintro ⟨h1, h2⟩ p hp
    rcases List.mem_append.mp hp with e | e
    · exact h1 p e
    · exact h2 p e
theorem at_step {w : List Pc} {p : Pc} {i : Int} (hw : NN w) (hp : 0 ≤ p.1) (hi : 0 ≤ i) : atP (shStep w p) i = atP (w ++ [p]) i := by
  by_cases h : 0 < p.1
  · rcases snoc_cases w with rfl | ⟨u, q, rfl⟩
    · rw [shStep_nil h]; rfl
    · obtain ⟨h1, h2⟩ := nn_app.mp hw
      have hq : 0 ≤ q.1 := h2 q (by simp)
      by_cases e : q.2 = p.2
      · rw [shStep_same h e, List.append_assoc, atP_app h1 hi, atP_app h1 hi]
        split
        · rfl
        · simp only [List.singleton_append, atP]
          split <;> split <;> first | rfl | (try split) <;> first | omega | simp_all
      · rw [shStep_new h e]
  · rw [shStep_none h, atP_app hw hi]
    split
    · rfl
    · have : p.1 = 0 := by omega
      simp only [atP, this, ite_self]
      rw [if_neg (by omega)]
      -- both beyond
      have : ∀ {w : List Pc} {i : Int}, lenP w ≤ i → NN w → atP w i = [] := by
        intro w
        induction w with
        | nil => intros; rfl
        | cons a r ih =>
          intro i h1 h2
          rw [lenP_cons] at h1
          have hr : NN r := fun q hq => h2 q (List.mem_cons_of_mem _ hq)
          have := lenP_nn hr
          simp only [atP]
          rw [if_neg (by omega)]
          exact ih (by omega) hr
      exact this (by omega) hw
theorem nn_step {w : List Pc} {p : Pc} (hw : NN w) (hp : 0 ≤ p.1) : NN (shStep w p) := by
  by_cases h : 0 < p.1
  · rcases snoc_cases w with rfl | ⟨u, q, rfl⟩
    · rw [shStep_nil h]; intro x hx; have : x = p := by simpa using hx
      subst this; exact hp
    · obtain ⟨h1, h2⟩ := nn_app.mp hw
      have hq : 0 ≤ q.1 := h2 q (by simp)
      by_cases e : q.2 = p.2
      · rw [shStep_same h e]
        refine nn_app.mpr ⟨h1, fun x hx => ?_⟩
        have : x = (q.1 + p.1, p.2) := by simpa using hx
        subst this; show 0 ≤ q.1 + p.1; omega
      · rw [shStep_new h e]
        refine nn_app.mpr ⟨hw, fun x hx => ?_⟩
        have : x = p := by simpa using hx
        subst this; exact hp
  · rw [shStep_none h]; exact hw
theorem at_fold : ∀ (ps : List Pc) {w : List Pc} {i : Int}, NN w → NN ps → 0 ≤ i → atP (ps.foldl shStep w) i = atP (w ++ ps) i
  | [], w, i, _, _, _ => by simp
  | p :: r, w, i, hw, hp, hi => by
    have h0 := hp p List.mem_cons_self
    have hr : NN r := fun q hq => hp q (List.mem_cons_of_mem _ hq)
    have hs := nn_step hw h0
    rw [List.foldl_cons, at_fold r hs hr hi, atP_app hs hi, len_step h0, at_step hw h0 hi]
    have e : w ++ p :: r = (w ++ [p]) ++ r := by simp
    have hw1 : NN (w ++ [p]) := nn_app.mpr ⟨hw, fun x hx => by have : x = p := by simpa using hx
                                                               subst this; exact h0⟩
    rw [e, atP_app hw1 hi, lenP_app, show lenP [p] = p.1 by simp [lenP]]
theorem at_shp {ps : List Pc} {i : Int} (h : NN ps) (hi : 0 ≤ i) : atP (shp ps) i = atP ps i := by
  have := at_fold ps (w := []) (fun p hp => by cases hp) h hi
  simpa [shp] using this
theorem cn_ext : ∀ {w w' : List Pc}, Cn w → Cn w' → lenP w = lenP w' → (∀ i, 0 ≤ i → i < lenP w → atP w i = atP w' i) → w = w'
  | [], [], _, _, _, _ => rfl
  | [], p :: r, _, h, e, _ => by have := h.len_pos; rw [← e, lenP_nil] at this; omega
  | p :: r, [], h, _, e, _ => by have := h.len_pos; rw [e, lenP_nil] at this; omega
  | p :: r, q :: s, h1, h2, e, ha => by
    have p0 := h1.pos p List.mem_cons_self
    have q0 := h2.pos q List.mem_cons_self
    have lr := lenP_nn h1.tail.nn
    have ls := lenP_nn h2.tail.nn
    have e' := e
    rw [lenP_cons, lenP_cons] at e'
    have w0 : p.2 = q.2 := by
      have := ha 0 (by omega) (by rw [lenP_cons]; omega)
      simpa [atP, p0, q0] using this
    have m0 : p.1 = q.1 := by
      rcases Int.lt_trichotomy p.1 q.1 with h | h | h
      · exfalso
        cases r with
        | nil => rw [lenP_nil] at e'; omega
        | cons a t =>
          have a0 := h1.tail.pos a List.mem_cons_self
          have lt := lenP_nn h1.tail.tail.nn
          have := ha p.1 (by omega) (by rw [lenP_cons, lenP_cons]; omega)
          simp only [atP, if_pos h, if_neg (show ¬ p.1 < p.1 by omega)] at this
          rw [if_pos (by omega), ← w0] at this
          exact h1.2.1 this.symm
      · exact h
      · exfalso
        cases s with
        | nil => rw [lenP_nil] at e'; omega
        | cons a t =>
          have a0 := h2.tail.pos a List.mem_cons_self
          have lt := lenP_nn h2.tail.tail.nn
          have := ha q.1 (by omega) (by rw [e, lenP_cons, lenP_cons]; omega)
          simp only [atP, if_pos h, if_neg (show ¬ q.1 < q.1 by omega)] at this
          rw [if_pos (by omega), w0] at this
          exact h2.2.1 this
    have pq : p = q := Prod.ext m0 w0
    subst pq
    rw [cn_ext h1.tail h2.tail (by omega) fun i h0 hi => ?_]
    have := ha (i + p.1) (by omega) (by rw [lenP_cons]; omega)
    simp only [atP, if_neg (show ¬ i + p.1 < p.1 by omega)] at this
    rw [show i + p.1 - p.1 = i by omega] at this
    exact this
theorem shp_cn {w : List Pc} (h : Cn w) : shp w = w := cn_ext (cn_shp w) h (len_shp h.nn) fun i h0 _ => at_shp h.nn h0
theorem shp_shp (ps : List Pc) : shp (shp ps) = shp ps := shp_cn (cn_shp ps)
end F3
set_option maxHeartbeats 400000
/-! FO: loops by invariants, the store with a purse, data of pieces. -/
namespace F3
open PySem PySem.Spec PyProof.Rows L2
theorem forI_ind {g : G3} {b : C3} {st : Sto → Prop} {E : Ends3} (Inv : List D → S3 → Sto → Prop) {xs : List D} {ρ : S3} {h : Sto} (hi : Inv xs ρ h) (hs : ∀ xs ρ h, Inv xs ρ h → st h) (h0 : ∀ ρ h, Inv [] ρ h → E.nx ρ h)
    (h1 : ∀ x r ρ h (F : S3 → Sto → Prop), Inv (x :: r) ρ h → (∀ ρ' h', Inv r ρ' h' → F ρ' h') → g x ρ h fun ρ' h' => b { E with nx := F, ct := F, bk := E.nx } ρ' h') : forI g b st E xs ρ h := by
  induction xs generalizing ρ h with
  | nil => exact ⟨hs _ _ _ hi, h0 _ _ hi⟩
  | cons x r ih => exact ⟨hs _ _ _ hi, h1 x r ρ h _ hi fun ρ' h' hi' => ih hi'⟩
theorem lcI_ind {g : G3} {tt : B3} {te : E3} {st : Sto → Prop} {ρ : S3} {Q : List D → Sto → Prop} (Inv : List D → List D → Sto → Prop) {xs acc : List D} {h : Sto} (hi : Inv xs acc h) (hs : ∀ xs acc h, Inv xs acc h → st h) (h0 : ∀ acc h, Inv [] acc h → Q acc h)
    (h1 : ∀ x r acc h (F : List D → Sto → Prop), Inv (x :: r) acc h → (∀ acc' h', Inv r acc' h' → F acc' h') → g x ρ h fun ρ2 h2 => tt ρ2 h2 fun b h3 => if b = true then te ρ2 h3 fun y h4 => F (acc ++ [y]) h4 else F acc h3) : lcI g tt te st ρ xs acc h Q := by
  induction xs generalizing acc h with
  | nil => exact ⟨hs _ _ _ hi, h0 _ _ hi⟩
  | cons x r ih => exact ⟨hs _ _ _ hi, h1 x r acc h (fun acc' h' => lcI g tt te st ρ r acc' h' Q) hi fun acc' h' hi' => ih hi'⟩
theorem wh_ind {c : B3} {b : C3} {E : Ends3} (Inv : Nat → S3 → Sto → Prop) {n : Nat} {ρ : S3} {h : Sto} (hi : Inv n ρ h)
    (h1 : ∀ n ρ h (F : S3 → Sto → Prop), Inv n ρ h → (∀ k ρ' h', k < n → Inv k ρ' h' → F ρ' h') → c ρ h fun k h1 => if k = true then b { E with nx := F, ct := F, bk := E.nx } ρ h1 else E.nx ρ h1)
    (mc : MonoB c) (mb : MonoC b) : cWhile c b E ρ h := by
  have up : ∀ n m ρ h, n ≤ m → whN c b E n ρ h → whN c b E m ρ h := by
    intro n
    induction n with
    | zero => intro m ρ h _ q; exact q.elim
    | succ n ih =>
      intro m ρ h hm q
      cases m with
      | zero => omega
      | succ m =>
        refine mc _ _ _ _ (fun k h1 q1 => ?_) q
        cases k with
        | false => exact q1
        | true =>
          simp only [if_true] at q1 ⊢
          exact mb { E with nx := whN c b E n, ct := whN c b E n, bk := E.nx } { E with nx := whN c b E m, ct := whN c b E m, bk := E.nx } _ _ ⟨fun _ _ q => ih m _ _ (by omega) q, fun _ _ q => q, fun _ _ q => q, fun _ _ q => ih m _ _ (by omega) q⟩ q1
  have key : ∀ m n ρ h, n ≤ m → Inv n ρ h → whN c b E (m + 1) ρ h := by
    intro m
    induction m with
    | zero =>
      intro n ρ h hn i
      refine h1 n ρ h (whN c b E 0) i fun k ρ' h' hk i' => by omega
    | succ m ih =>
      intro n ρ h hn i
      exact h1 n ρ h (whN c b E (m + 1)) i fun k ρ' h' hk i' => ih k ρ' h' (by omega) i'
  exact ⟨n + 1, key n n ρ h (Nat.le_refl _) hi⟩
/-! ### the store with a purse at a, and cells behind -/
def W (h : Sto) (a : Nat) (c s : Int) (g : Sto) : Sto := h.set a (draw c s) ++ g
section
variable {h g k : Sto} {a : Nat} {c s c' s' : Int}
theorem W_len : (W h a c s g).length = h.length + g.length := by simp [W]
theorem W_app : W h a c s g ++ k = W h a c s (g ++ k) := by simp [W]
theorem W_getA (ha : a < h.length) : (W h a c s g)[a]? = some (draw c s) := by
  unfold W
  rw [List.getElem?_append_left (by simpa using ha)]
  exact List.getElem?_set_self ha
theorem W_setA (ha : a < h.length) : (W h a c s g).set a (draw c' s') = W h a c' s' g := by
  unfold W
  rw [List.set_append, if_pos (by simpa using ha), List.set_set]
theorem W_get0 : (W h a c s g)[h.length]? = g[0]? := by
  unfold W
  rw [List.getElem?_append_right (by simp)]; simp
theorem W_getk {n : Nat} : (W h a c s g)[h.length + n]? = g[n]? := by
  unfold W
  rw [List.getElem?_append_right (by simp)]; simp
theorem W_set0 {x : Cell} : (W h a c s g).set h.length x = W h a c s (g.set 0 x) := by
  unfold W
  rw [List.set_append, if_neg (by simp)]; simp
theorem W_setk {n : Nat} {x : Cell} : (W h a c s g).set (h.length + n) x = W h a c s (g.set n x) := by
  unfold W
  rw [List.set_append, if_neg (by simp)]; simp
theorem W_mk (e : h[a]? = some (draw c s)) : h = W h a c s [] := by
  unfold W
  rw [List.append_nil, set_same e]
theorem W_nil : W h a c s [] = h.set a (draw c s) := by simp [W]
theorem lt_of_get {α : Type} {xs : List α} {n : Nat} {x : α} (e : xs[n]? = some x) : n < xs.length := (List.getElem?_eq_some_iff.mp e).1
theorem cl_W (ha : a < h.length) (hs : ClS h.length h) : ClS (h.set a (draw c s)).length (h.set a (draw c s)) := by
  rw [List.length_set]
  exact hs.set a cl_draw
/-- one cell alone is left behind the first ones -/
theorem gq_W {n : Nat} {xs : List D} {Q : DK} (ha : a < h.length) (hs : ClS h.length h) (hk : g[n]? = some (.lst xs)) (hx : ClDs h.length xs) (q : Q (.ref h.length) (W h a c s [.lst xs])) : GQ h.length Q (.ref (h.length + n)) (W h a c s g) := by
  have := gq_one (n := h.length) (h := h.set a (draw c s)) (g := g) (k := n) (Q := Q) (by simp) hk (by simpa using hx) (cl_W ha hs) (by simpa [W] using q)
  simpa [W] using this
theorem gq_Wt {d : D} {Q : DK} (ha : a < h.length) (hs : ClS h.length h) (hd : ClD h.length d) (q : Q d (W h a c s [])) : GQ h.length Q d (W h a c s g) := by
  have := gq_tail (n := h.length) (h := h.set a (draw c s)) (g := g) (Q := Q) (d := d) (by simp) (by simpa using hd) (cl_W ha hs) (by simpa [W] using q)
  exact this
theorem take_W {n : Int} {Q : DK} {E : X3} (ha : a < h.length) (hd : DrawOk c s) (h0 : 0 < n) (h1 : n < 2 ^ 2000)
    (q : ∀ c s r : Int, DrawOk c s → 0 ≤ r → r < n → Q (.int r) (W h a c s g)) : sp_take [.ref a, .int n] (W h a c s g) Q E :=
  take_at (W_getA ha) hd h0 h1 fun c' s' r hd' r0 r1 => by
    rw [W_setA ha]
    exact q c' s' r hd' r0 r1
end
/-! ### a promise of a def that draws: a is the purse's cell -/
/-- args behind the purse, what is wanted of them, and what is told: a value and one new cell or none -/
def spW {α : Type} (args : α → List D) (pre : α → Sto → Prop) (res : α → Sto → D → Sto → Prop) : Sp3 :=
  spR (fun (a : Nat × Int × Int × α) => .ref a.1 :: args a.2.2.2) (fun a h => h[a.1]? = some (draw a.2.1 a.2.2.1) ∧ DrawOk a.2.1 a.2.2.1 ∧ pre a.2.2.2 h) (fun a h d h' => ∃ c s g, DrawOk c s ∧ res a.2.2.2 h d g ∧ h' = W h a.1 c s g)
theorem mono_spW {α : Type} {args : α → List D} {pre : α → Sto → Prop} {res : α → Sto → D → Sto → Prop} : MonoS (spW args pre res) := mono_spR
theorem len_spW {α : Type} {args : α → List D} {pre : α → Sto → Prop} {res : α → Sto → D → Sto → Prop} {n : Nat} (hl : ∀ a, (args a).length + 1 = n) : ∀ ds h Q E, spW args pre res ds h Q E → ds.length = n := len_spR fun a => by
  rw [List.length_cons]; exact hl _
theorem spW_in {α : Type} {args : α → List D} {pre : α → Sto → Prop} {res : α → Sto → D → Sto → Prop} {ds : List D} {h : Sto} {Q : DK} {E : X3} (w : spW args pre res ds h Q E) :
    ∃ a c s x, ds = .ref a :: args x ∧ a < h.length ∧ DrawOk c s ∧ pre x h ∧ h = W h a c s [] ∧ ∀ c s g d, DrawOk c s → res x h d g → Q d (W h a c s g) := by
  obtain ⟨⟨a, c, s, x⟩, rfl, ⟨h1, h2, h3⟩, q⟩ := w
  exact ⟨a, c, s, x, rfl, lt_of_get h1, h2, h3, W_mk h1, fun c s g d hd hr => q _ _ ⟨c, s, g, hd, hr, rfl⟩⟩
theorem spW_at {α : Type} {args : α → List D} {pre : α → Sto → Prop} {res : α → Sto → D → Sto → Prop} {h g : Sto} {a : Nat} {c s : Int} {ds : List D} {Q : DK} {E : X3} (x : α) (ha : a < h.length) (hd : DrawOk c s) (e : ds = .ref a :: args x) (hp : pre x (W h a c s g))
    (q : ∀ c' s' k d, DrawOk c' s' → res x (W h a c s g) d k → Q d (W h a c' s' (g ++ k))) : spW args pre res ds (W h a c s g) Q E := by
  refine ⟨(a, c, s, x), e, ⟨W_getA ha, hd, hp⟩, ?_⟩
  rintro d h' ⟨c', s', k, hd', hr, rfl⟩
  have : W (W h a c s g) a c' s' k = W h a c' s' (g ++ k) := by
    show (W h a c s g).set a (draw c' s') ++ k = _
    rw [W_setA ha, W_app]
  show Q d (W (W h a c s g) a c' s' k)
  rw [this]
  exact q c' s' k d hd' hr
/-! ### pieces as values -/
def wtD (w : List Int) : D := .tup (w.map .int)
def pcD (p : Pc) : D := .tup [.int p.1, wtD p.2]
def pcP (p : Pc) : PyData := .tuple [.int p.1, .tuple (p.2.map .int)]
theorem toP_wt {h : Sto} {k : Nat} (w : List Int) : toP h (k + 2) (wtD w) = some (.tuple (w.map .int)) := toP_tup (toP_ints w)
theorem toP_pc {h : Sto} {k : Nat} (p : Pc) : toP h (k + 3) (pcD p) = some (pcP p) := by
  refine toP_tup (k := k + 2) ?_
  rw [List.mapM_cons, List.mapM_cons, List.mapM_nil, toP_wt]
  rfl
theorem toP_pcs {h : Sto} {n k : Nat} {w : List Pc} (e : h[n]? = some (.lst (w.map pcD))) : toP h (k + 4) (.ref n) = some (.list (w.map pcP)) := toP_lst e (mapM_of fun p _ => toP_pc p)
theorem toP_pcsX {h : Sto} {k : Nat} {w : List Pc} : (w.map pcD).mapM (toP h (k + 3)) = some (w.map pcP) := mapM_of fun p _ => toP_pc p
theorem eqv_tupI {ns ms : List Int} : PyData.eqv (.tuple (ns.map .int)) (.tuple (ms.map .int)) = decide (ns = ms) := by
  simp only [PyData.eqv, eqv_ints]
theorem eqv_pc {p q : Pc} : PyData.eqv (pcP p) (pcP q) = decide (p = q) := by
  obtain ⟨m, w⟩ := p
  obtain ⟨k, v⟩ := q
  simp only [pcP, PyData.eqv, PyData.eqvAll, eqv_ints, Bool.and_true, Prod.mk.injEq, Bool.decide_and]
  rw [Bool.beq_eq_decide_eq]
theorem eqv_pcAll : ∀ {w v : List Pc}, PyData.eqvAll (w.map pcP) (v.map pcP) = decide (w = v)
  | [], [] => by simp [PyData.eqvAll]
  | [], _ :: _ => by simp [PyData.eqvAll]
  | _ :: _, [] => by simp [PyData.eqvAll]
  | n :: r, m :: q => by
    simp only [List.map_cons, PyData.eqvAll, eqv_pc, eqv_pcAll (w := r) (v := q), List.cons.injEq, Bool.decide_and]
theorem eqv_pcs {w v : List Pc} : PyData.eqv (.list (w.map pcP)) (.list (v.map pcP)) = decide (w = v) := by
  simp only [PyData.eqv, eqv_pcAll]
/-- a cell with pieces against a written list -/
theorem eqX_pcs {h : Sto} {n : Nat} {neg : Bool} {w v : List Pc} {Q : DK} (e : h[n]? = some (.lst (w.map pcD))) : eqX neg (.ref n) (v.map pcD) h Q = Q (.bl (if neg then !decide (w = v) else decide (w = v))) h := by
  unfold eqX
  simp only [toP_pcs (k := 5) e, toP_pcsX (k := 5), eqv_pcs]
theorem eqX_pcs0 {h : Sto} {n : Nat} {neg : Bool} {w : List Pc} {Q : DK} (e : h[n]? = some (.lst (w.map pcD))) : eqX neg (.ref n) [] h Q = Q (.bl (if neg then !decide (w = []) else decide (w = []))) h := eqX_pcs (v := []) e
theorem neR_pcs {h : Sto} {n m : Nat} {w v : List Pc} {Q : DK} (e : h[n]? = some (.lst (w.map pcD))) (f : h[m]? = some (.lst (v.map pcD))) : neR (.ref n) (.ref m) h Q = Q (.bl (!decide (w = v))) h := by
  rw [neR_re, toP_pcs (k := 5) e, toP_pcs (k := 5) f, eqP_some, eqv_pcs]
theorem eqR_pcs {h : Sto} {n m : Nat} {w v : List Pc} {Q : DK} (e : h[n]? = some (.lst (w.map pcD))) (f : h[m]? = some (.lst (v.map pcD))) : eqR (.ref n) (.ref m) h Q = Q (.bl (decide (w = v))) h := by
  rw [eqR_re, toP_pcs (k := 5) e, toP_pcs (k := 5) f, eqP_some, eqv_pcs]
theorem eqR_wt {h : Sto} {w v : List Int} {Q : DK} : eqR (wtD w) (wtD v) h Q = Q (.bl (decide (w = v))) h := by
  have : wtD w = .tup (w.map .int) := rfl
  rw [this, eqR_te, ← this, toP_wt (k := 7), toP_wt (k := 7), eqP_some, eqv_tupI]
theorem neR_wt {h : Sto} {w v : List Int} {Q : DK} : neR (wtD w) (wtD v) h Q = Q (.bl (!decide (w = v))) h := by
  have : wtD w = .tup (w.map .int) := rfl
  rw [this, neR_te, ← this, toP_wt (k := 7), toP_wt (k := 7), eqP_some, eqv_tupI]
theorem cl_wt {n : Nat} {w : List Int} : ClD n (wtD w) := by
  unfold wtD
  simp only [ClD]
  exact cl_ints w
theorem cl_pc {n : Nat} {p : Pc} : ClD n (pcD p) := by
  unfold pcD
  simp only [ClD, ClDs, true_and, and_true]
  exact cl_wt
theorem cl_pcs {n : Nat} {w : List Pc} : ClDs n (w.map pcD) := ClDs.all fun x hx => by
  obtain ⟨p, _, rfl⟩ := List.mem_map.mp hx
  exact cl_pc
theorem ix_pc0 {p : Pc} {h : Sto} {Q : DK} : ixR (pcD p) (.int 0) h Q = Q (.int p.1) h := by
  unfold pcD
  rw [ixR_ti, atD_0]
theorem ix_pc1 {p : Pc} {h : Sto} {Q : DK} : ixR (pcD p) (.int 1) h Q = Q (wtD p.2) h := by
  unfold pcD
  rw [ixR_ti, atD_1, atD_0]
theorem gTup_pc {p : Pc} {i j : Nat} {ρ : S3} {h : Sto} {Q : S3 → Sto → Prop} : gTup3 2 (gCons3 (gN i) (gCons3 (gN j) gNil3)) (pcD p) ρ h Q = Q ((ρ.set i (some (.int p.1))).set j (some (wtD p.2))) h := by
  unfold pcD gTup3 gCons3 gNil3 gN
  simp
end F3
set_option maxHeartbeats 400000
/-! FP: sorted(..) of a list of data of one kind. -/
namespace F3
open PySem PySem.Spec PyProof.Rows L2
section
variable {X : Cx}
def rSortedD (K : PySem.W.Frag) : List V → Hp → VK → Prop := fun vs H Q => ∃ (l : Addr) (γ : Type) (zs : List γ) (f : γ → V) (enc : γ → PyData), vs = [V.ref l] ∧ SqL K H l (zs.map f) ∧ (∀ z ∈ zs, Dp K H (f z) (enc z) ∧ (enc z).depth ≤ 60) ∧
  PySem.W.AllAlike (zs.map enc) ∧ PySem.W.Sortable (zs.map enc) ∧ ∀ p : Addr, H p = none → Q (.ref p) (upd H p (.lst ((zs.mergeSort (PySem.W.dataLe false enc)).map f)))
theorem each_of_vals {γ : Type} {f : γ → V} : ∀ {zs : List γ} {us : List Value}, Vals (zs.map f) us → PySem.W.EachIs (fun v z => RelV (f z) v) us zs
  | [], _, .nil => .nil
  | _ :: _, _, .cons a b => .cons a (each_of_vals b)
theorem vals_of_each {γ : Type} {f : γ → V} : ∀ {zs : List γ} {us : List Value}, PySem.W.EachIs (fun v z => RelV (f z) v) us zs → Vals (zs.map f) us
  | _, _, .nil => .nil
  | _, _, .cons a b => .cons a (vals_of_each b)
theorem each_and {γ : Type} {R S : Value → γ → Prop} : ∀ {us : List Value} {zs : List γ}, PySem.W.EachIs R us zs → (∀ u, ∀ z ∈ zs, R u z → S u z) → PySem.W.EachIs S us zs
  | _, _, .nil, _ => .nil
  | _, _, .cons a b, w => .cons (w _ _ List.mem_cons_self a) (each_and b fun u z hz => w u z (List.mem_cons_of_mem _ hz))
theorem cr_sortedD (hu : X.A.units + 64 < cLine) : CallR X (.builtin "sorted") (rSortedD X.K) := by
  intro pins s σ H vs us Q I r h
  obtain ⟨l, γ, zs, f, enc, rfl, hs, hd, ha, hk, q⟩ := h
  obtain ⟨its, rv, hl, hz⟩ := I.list hs
  rw [Vals.ref1 r]
  have e1 := each_of_vals rv
  have e2 : PySem.W.EachIs (fun v z => ∃ as, Reads s.heap v (enc z) as) its zs := each_and e1 fun u z hz r => Dp.reads I _ _ _ (hd z hz).1 r
  refine PySem.W.sorted_data hl.isList e1 e2 ha hk (by simpa using hz) (fun z hz => by have := (hd z hz).2; omega) fun out h1 h2 => ?_
  obtain ⟨ep, he'⟩ := PyProof.Rows.sortedAll_at s.heap its out.toArray
  have v2 := vals_of_each h2
  have hlen : ((zs.mergeSort (PySem.W.dataLe false enc)).map f).length ≤ sizeLine := by
    rw [List.length_map, List.length_mergeSort]
    simpa using hz
  exact ⟨.ref _, upd H (s.heap.objs.size + 1) (.lst ((zs.mergeSort (PySem.W.dataLe false enc)).map f)), I.laid (t' := s.toks) (fun _ _ => PyProof.Rows.sortedAll_old) (Nat.le_succ _) ⟨hlen, out, ep, v2, he'⟩, rfl, q _ (I.hok.fresh (Nat.le_succ _))⟩
/-- sorted of data -/
def srtG : M3 := fun xs h Q => ∃ (β : Type) (bs : List β) (f : β → D) (enc : β → PyData), xs = bs.map f ∧ (∀ b ∈ bs, toP h 8 (f b) = some (enc b)) ∧ PySem.W.AllAlike (bs.map enc) ∧ PySem.W.Sortable (bs.map enc) ∧ Q ((bs.mergeSort (PySem.W.dataLe false enc)).map f) h
theorem srtG_mono : ∀ xs h (Q Q' : List D → Sto → Prop), (∀ d h', Q d h' → Q' d h') → srtG xs h Q → srtG xs h Q' := fun xs h Q Q' w ⟨β, bs, f, enc, h1, h2, h3, h4, q⟩ => ⟨β, bs, f, enc, h1, h2, h3, h4, w _ _ q⟩
theorem RelDs.zip {K : PySem.W.Frag} {m : List Addr} {H : Hp} {β : Type} {f : β → D} : ∀ {bs : List β} {vs : List V}, RelDs K m H (bs.map f) vs → ∃ zs : List (β × V), zs.map Prod.fst = bs ∧ zs.map Prod.snd = vs ∧ ∀ z ∈ zs, RelD K m H (f z.1) z.2
  | [], _, .nil => ⟨[], rfl, rfl, by simp⟩
  | b :: bs, _, .cons r t => by
    obtain ⟨zs, h1, h2, h3⟩ := RelDs.zip t
    refine ⟨(b, _) :: zs, by simp [h1], by simp [h2]; rfl, fun z hz => ?_⟩
    rcases List.mem_cons.mp hz with e | e
    · subst e; exact r
    · exact h3 z e
theorem RelDs.unzip {K : PySem.W.Frag} {m : List Addr} {H : Hp} {β : Type} {f : β → D} : ∀ {zs : List (β × V)}, (∀ z ∈ zs, RelD K m H (f z.1) z.2) → RelDs K m H (zs.map fun z => f z.1) (zs.map Prod.snd)
  | [], _ => .nil
  | z :: r, h => .cons (h z List.mem_cons_self) (RelDs.unzip fun y hy => h y (List.mem_cons_of_mem _ hy))
theorem srtG_lift {K : PySem.W.Frag} {m : List Addr} {h : Sto} {H : Hp} {l : Addr} {xs : List D} {vs : List V} {Q : VK} (R : Rep K m h H) (sq : SqL K H l vs) (rs : RelDs K m H xs vs) (q : srtG xs h (UpX K m H Q)) : rSortedD K [.ref l] H Q := by
  obtain ⟨β, bs, f, enc, rfl, h2, h3, h4, q⟩ := q
  obtain ⟨zs, rfl, rfl, hz⟩ := rs.zip
  refine ⟨l, β × V, zs, Prod.snd, fun z => enc z.1, rfl, sq, fun z hm => ?_, ?_, ?_, fun p hp => ?_⟩
  · have e := h2 z.1 (List.mem_map_of_mem hm)
    exact ⟨(toP_dp R 8 _ _ _ e (hz z hm)).1, Nat.le_trans (toP_depth 8 _ _ e) (by decide)⟩
  · rw [List.map_map] at h3; exact h3
  · rw [List.map_map] at h4; exact h4
  · have e1 : ((zs.map Prod.fst).mergeSort (PySem.W.dataLe false enc)) = (zs.mergeSort (PySem.W.dataLe false fun z => enc z.1)).map Prod.fst := by
      rw [List.map_mergeSort (s := PySem.W.dataLe false enc)]
      intro a _ b _
      rfl
    rw [e1, List.map_map] at q
    refine UpX.laid R (xs := (zs.mergeSort (PySem.W.dataLe false fun z => enc z.1)).map fun z => f z.1) (RelDs.unzip fun z hm => hz z ?_) q p hp
    exact (List.mergeSort_perm _ _).mem_iff.mp hm
theorem klx_sortedD (hu : X.A.units + 64 < cLine) : CallLX3 X (.builtin "sorted") srtG :=
  ⟨srtG_mono, _, cr_sortedD hu, fun m h H a xs vs Q R ea rs q => srtG_lift R (.inl (.inl ea)) rs q⟩
theorem kl_sortedD (hu : X.A.units + 64 < cLine) : CallL3 X (.builtin "sorted") (onLM srtG) := by
  refine ⟨fun xs h Q Q' w q => ?_, _, cr_sortedD hu, fun m h H xs vs Q R rs q => ?_⟩
  · unfold onLM at q ⊢
    split at q
    · split at q
      · exact srtG_mono _ _ _ _ w q
      · exact q.elim
    · exact q.elim
  · unfold onLM at q
    split at q
    · split at q
      next ys e =>
        match vs, rs with
        | [_], .cons r .nil =>
          obtain ⟨a, ws, rfl, sq, rr⟩ := listOf_lift R r e
          exact srtG_lift R sq rr q
      next => exact q.elim
    · exact q.elim
end
end F3
set_option maxHeartbeats 400000
/-! FQ: the readings evaluated at their head alone: each row a plain rewriting (no defeq), what follows is kept shut until its value is there. -/
namespace F3
open PySem PySem.Spec PyProof.Rows L2
universe u
section
variable {h g h1 : Sto} {Q : DK} {i j : Int} {a b : Bool} {x y : Str} {xs ys : List D} {n m k : Nat} {d e : D} {ρ ρ' : S3} {E D' : Ends3} {A B : Prop}
structure Tag {α : Sort u} (a : α) : Type where
/-! ### ends -/
def thenE (u : C3) (E : Ends3) : Ends3 := { E with nx := u E }
theorem thenE_nx {u : C3} : (thenE u E).nx = u E := id rfl
theorem thenE_rt {u : C3} : (thenE u E).rt = E.rt := id rfl
theorem thenE_bk {u : C3} : (thenE u E).bk = E.bk := id rfl
theorem thenE_ct {u : C3} : (thenE u E).ct = E.ct := id rfl
def loopE (F : S3 → Sto → Prop) (E : Ends3) : Ends3 := { E with nx := F, ct := F, bk := E.nx }
theorem loopE_nx {F : S3 → Sto → Prop} : (loopE F E).nx = F := id rfl
theorem loopE_rt {F : S3 → Sto → Prop} : (loopE F E).rt = E.rt := id rfl
theorem loopE_bk {F : S3 → Sto → Prop} : (loopE F E).bk = E.nx := id rfl
theorem loopE_ct {F : S3 → Sto → Prop} : (loopE F E).ct = F := id rfl
theorem ends3_nx : (ends3 Q).nx ρ h = Q .non h := id rfl
theorem ends3_rt : (ends3 Q).rt = Q := id rfl
/-! ### what is shut: what follows stands in a place that the simplifier leaves alone -/
def onO (o : Option (Option D)) (q : D → Prop) (_ : Tag q := ⟨⟩) : Prop := match o with
  | some (some d) => q d
  | _ => False
theorem onO_some {q : D → Prop} : onO (some (some d)) q = q d := id rfl
def onB (d : D) (q : Bool → Prop) (_ : Tag q := ⟨⟩) : Prop := match d with
  | .bl b => q b
  | _ => False
theorem onB_bl {q : Bool → Prop} : onB (.bl a) q = q a := id rfl
def onI (d : D) (q : Int → Prop) (_ : Tag q := ⟨⟩) : Prop := match d with
  | .int i => q i
  | _ => False
theorem onI_int {q : Int → Prop} : onI (.int i) q = q i := id rfl
def ifC (c : Bool) (A B : Prop) (_ : Tag A := ⟨⟩) (_ : Tag B := ⟨⟩) : Prop := if c = true then A else B
theorem ifC_true : ifC true A B = A := by simp [ifC]
theorem ifC_false : ifC false A B = B := by simp [ifC]
theorem ifC_of {p : Prop} {_ : Decidable p} (h1 : p → A) (h2 : ¬ p → B) : ifC (decide p) A B := by
  unfold ifC
  split
  next h => exact h1 (of_decide_eq_true h)
  next h => exact h2 (of_decide_eq_false (by simpa using h))
theorem ifC_ofn {p : Prop} {_ : Decidable p} (h1 : ¬ p → A) (h2 : p → B) : ifC (!decide p) A B := by
  unfold ifC
  split
  next h => exact h1 (by simpa using h)
  next h => exact h2 (by simpa using h)
theorem ifC_ofb (h1 : a = true → A) (h2 : a = false → B) : ifC a A B := by
  cases a with
  | true => rw [ifC_true]; exact h1 rfl
  | false => rw [ifC_false]; exact h2 rfl
theorem ifC_yes {p : Prop} {_ : Decidable p} (hp : p) (q : A) : ifC (decide p) A B := by rw [decide_eq_true hp, ifC_true]; exact q
theorem ifC_no {p : Prop} {_ : Decidable p} (hp : ¬ p) (q : B) : ifC (decide p) A B := by rw [decide_eq_false hp, ifC_false]; exact q
theorem ifC_nyes {p : Prop} {_ : Decidable p} (hp : p) (q : B) : ifC (!decide p) A B := by rw [decide_eq_true hp, Bool.not_true, ifC_false]; exact q
theorem ifC_nno {p : Prop} {_ : Decidable p} (hp : ¬ p) (q : A) : ifC (!decide p) A B := by rw [decide_eq_false hp, Bool.not_false, ifC_true]; exact q
theorem ifC_p {p : Prop} {_ : Decidable p} : ifC (decide p) A B = if p then A else B := by
  by_cases hp : p
  · rw [decide_eq_true hp, ifC_true, if_pos hp]
  · rw [decide_eq_false hp, ifC_false, if_neg hp]
def onC (o : Option Cell) (q : List D → Prop) (_ : Tag q := ⟨⟩) : Prop := onLst o q
theorem onC_q {q : List D → Prop} : onC (some (.lst xs)) q = q xs := id rfl
def eqT (o p : Option PyData) (q : Bool → Prop) (_ : Tag q := ⟨⟩) : Prop := eqP o p q
theorem eqT_q {o p : PyData} {q : Bool → Prop} : eqT (some o) (some p) q = q (PyData.eqv o p) := id rfl
def isU (o : Option String) (T : String) (q : Bool → Prop) (_ : Tag q := ⟨⟩) : Prop := isB o T q
theorem isU_q {s T : String} {q : Bool → Prop} : isU (some s) T q = q (isT s T) := id rfl
def atT (xs : List D) (i : Int) (q : D → Prop) (_ : Tag q := ⟨⟩) : Prop := atD xs i q
theorem atT_0 {q : D → Prop} : atT (d :: xs) 0 q = q d := id atD_0
theorem atT_1 {q : D → Prop} : atT (d :: xs) 1 q = atT xs 0 q := id atD_1
theorem atT_2 {q : D → Prop} : atT (d :: xs) 2 q = atT xs 1 q := id atD_2
theorem atT_3 {q : D → Prop} : atT (d :: xs) 3 q = atT xs 2 q := id atD_3
theorem atT_last {q : D → Prop} : atT (xs ++ [d]) (-1) q = q d := id atD_last
theorem atT_of {q : D → Prop} (e : atI xs i = some d) : atT xs i q = q d := atD_of e
theorem atT_all {q : D → Prop} (h0 : 0 ≤ i) (h1 : i < xs.length) (w : ∀ d ∈ xs, q d) : atT xs i q := atD_all h0 h1 w
def ifT (d : D) (A B : Prop) (_ : Tag A := ⟨⟩) (_ : Tag B := ⟨⟩) : Prop := ifB d A B
theorem ifT_q : ifT (.bl a) A B = ifC a A B := by cases a <;> simp [ifT, ifB, ifC]
def lcT (gg : G3) (tt : B3) (te : E3) (st : Sto → Prop) (ρ : S3) (xs acc : List D) (h : Sto) (Q : List D → Sto → Prop) (_ : Tag Q := ⟨⟩) : Prop := lcI gg tt te st ρ xs acc h Q
def callS (sp : Sp3) (ds : List D) (h : Sto) (Q : DK) (_ : Tag Q := ⟨⟩) : Prop := sp ds h Q (fun _ _ => False)
/-! ### rows -/
theorem tV_q : tV k ρ h Q = onO ρ[k]? fun d => Q d h := id rfl
theorem tK_q : tK d ρ h Q = Q d h := id rfl
theorem tO_q {r : R3} {ta tb : E3} : tO r ta tb ρ h Q = ta ρ h fun x h1 => tb ρ h1 fun y h2 => r x y h2 Q := id rfl
theorem tU_q {r : U3} {ta : E3} : tU r ta ρ h Q = ta ρ h fun x h1 => r x h1 Q := id rfl
theorem tT_q {t : E3} {Q : Bool → Sto → Prop} : tT t ρ h Q = t ρ h fun d h1 => onB d fun b => Q b h1 := id rfl
theorem tAnd3_q {t u : B3} {Q : Bool → Sto → Prop} : tAnd3 t u ρ h Q = t ρ h fun c h1 => ifC c (u ρ h1 Q) (Q false h1) := id rfl
theorem tOr3_q {t u : B3} {Q : Bool → Sto → Prop} : tOr3 t u ρ h Q = t ρ h fun c h1 => ifC c (Q true h1) (u ρ h1 Q) := id rfl
theorem tNot3_q {t : B3} {Q : Bool → Sto → Prop} : tNot3 t ρ h Q = t ρ h fun c h1 => Q (!c) h1 := id rfl
theorem tNotE_q {t : E3} : tNotE t ρ h Q = t ρ h fun d h1 => onB d fun b => Q (.bl (!b)) h1 := id rfl
theorem tIfE_q {t : B3} {ta tb : E3} : tIfE t ta tb ρ h Q = t ρ h fun c h1 => ifC c (ta ρ h1 Q) (tb ρ h1 Q) := id rfl
theorem tAndE_q {ta tb : E3} : tAndE ta tb ρ h Q = ta ρ h fun x h1 => ifT x (tb ρ h1 Q) (Q (.bl false) h1) := id rfl
theorem tOrE_q {ta tb : E3} : tOrE ta tb ρ h Q = ta ρ h fun x h1 => ifT x (Q (.bl true) h1) (tb ρ h1 Q) := id rfl
theorem tCh_q {r r' : R3} {ta tb tc : E3} : tCh r r' ta tb tc ρ h Q = ta ρ h fun x h1 => tb ρ h1 fun y h2 => r x y h2 fun z h3 => ifT z (tc ρ h3 fun w h4 => r' y w h4 Q) (Q (.bl false) h3) := id rfl
theorem tN3_q {Q : List D → Sto → Prop} : tN3 ρ h Q = Q [] h := id rfl
theorem tC3_q {ta : E3} {tr : A3} {Q : List D → Sto → Prop} : tC3 ta tr ρ h Q = ta ρ h fun x h1 => tr ρ h1 fun xs h2 => Q (x :: xs) h2 := id rfl
theorem tTup3_q {t : A3} : tTup3 t ρ h Q = t ρ h fun xs h1 => Q (.tup xs) h1 := id rfl
theorem tNew_q {t : A3} : tNew t ρ h Q = t ρ h fun xs h1 => Q (.ref h1.length) (h1 ++ [.lst xs]) := id rfl
theorem cNext_q : cNext E ρ h = E.nx ρ h := id rfl
theorem cSeq_q {t u : C3} : cSeq t u E ρ h = t (thenE u E) ρ h := id rfl
theorem cBreak_q : cBreak E ρ h = E.bk ρ h := id rfl
theorem cCont_q : cCont E ρ h = E.ct ρ h := id rfl
theorem cDrop_q {t : E3} : cDrop t E ρ h = t ρ h fun _ h1 => E.nx ρ h1 := id rfl
theorem cRet_q {t : E3} : cRet t E ρ h = t ρ h E.rt := id rfl
theorem cRetN_q : cRetN E ρ h = E.rt .non h := id rfl
theorem cIf_q {c : B3} {t u : C3} : cIf c t u E ρ h = c ρ h fun b h1 => ifC b (t E ρ h1) (u E ρ h1) := id rfl
theorem cAsg_q {t : E3} {gg : G3} : cAsg t gg E ρ h = t ρ h fun x h1 => gg x ρ h1 E.nx := id rfl
def parD (i j : Nat) (ρ : S3) (h : Sto) (F : S3 → Sto → Prop) (vs : List D) : Prop := match vs with
  | [v, w] => F ((ρ.set i (some v)).set j (some w)) h
  | _ => False
theorem cPar_q {i j : Nat} {t : A3} : cPar i j t E ρ h = t ρ h fun vs h1 => parD i j ρ h1 E.nx vs := id rfl
theorem parD_q {i j : Nat} {F : S3 → Sto → Prop} : parD i j ρ h F [d, e] = F ((ρ.set i (some d)).set j (some e)) h := id rfl
theorem gN_q {Q : S3 → Sto → Prop} : gN k d ρ h Q = Q (ρ.set k (some d)) h := id rfl
theorem gNil3_q {Q : S3 → Sto → Prop} : gNil3 [] ρ h Q = Q ρ h := id rfl
theorem gCons3_q {gg : G3} {r : Gs3} {Q : S3 → Sto → Prop} : gCons3 gg r (d :: xs) ρ h Q = gg d ρ h fun ρ' h' => r xs ρ' h' Q := id rfl
theorem gTup3_q {gs : Gs3} {Q : S3 → Sto → Prop} : gTup3 k gs (.tup xs) ρ h Q = (xs.length = k ∧ gs xs ρ h Q) := id rfl
theorem gSub3_q {to ti : E3} {Q : S3 → Sto → Prop} : gSub3 to ti d ρ h Q = to ρ h fun o h1 => ti ρ h1 fun i h2 => setR o i d h2 fun h3 => Q ρ h3 := id rfl
def onN (o : Option Nat) (q : Nat → Prop) (_ : Tag q := ⟨⟩) : Prop := match o with
  | some j => q j
  | none => False
theorem onN_q {q : Nat → Prop} : onN (some n) q = q n := id rfl
theorem setR_q {Q : Sto → Prop} : setR (.ref n) (.int i) d h Q = onC h[n]? fun xs => onN (ixN xs.length i) fun j => Q (h.set n (.lst (xs.set j d))) := id rfl
theorem cFor_q {it : I3} {gg : G3} {b : C3} : cFor it gg b E ρ h = it ρ h fun items st h1 => forI gg b st E items ρ h1 := id rfl
theorem iNew_q {t : A3} {Q : List D → (Sto → Prop) → Sto → Prop} : iNew t ρ h Q = t ρ h fun xs h1 => Q xs (fun _ => True) h1 := id rfl
theorem iSeq_q {t : E3} {Q : List D → (Sto → Prop) → Sto → Prop} : iSeq t ρ h Q = t ρ h fun d h1 => iSeqD d h1 Q := id iSeq_eq
theorem iSeqD_tq {Q : List D → (Sto → Prop) → Sto → Prop} : iSeqD (.tup xs) h Q = Q xs (fun _ => True) h := id rfl
theorem iSeqD_fq {Q : List D → (Sto → Prop) → Sto → Prop} : iSeqD (.fl xs) h Q = Q xs (fun _ => True) h := id rfl
theorem iSeqD_rq {Q : List D → (Sto → Prop) → Sto → Prop} : iSeqD (.ref n) h Q = onC h[n]? fun xs => Q xs (fun h' => h'[n]? = some (.lst xs)) h := id rfl
theorem iRng_q {ta : A3} {Q : List D → (Sto → Prop) → Sto → Prop} : iRng ta ρ h Q = ta ρ h fun vs h1 => rngD vs h1 Q := id rfl
theorem rngD_1q {Q : List D → (Sto → Prop) → Sto → Prop} : rngD [.int j] h Q = ((-(2 ^ 62) ≤ j ∧ j < 2 ^ 62) ∧ Q ((List.range j.toNat).map fun (k : Nat) => D.int k) (fun _ => True) h) := id rfl
theorem rngD_2q {Q : List D → (Sto → Prop) → Sto → Prop} : rngD [.int i, .int j] h Q = ((-(2 ^ 62) ≤ i ∧ i < 2 ^ 62 ∧ -(2 ^ 62) ≤ j ∧ j < 2 ^ 62) ∧ Q ((List.range (j - i).toNat).map fun (k : Nat) => D.int (i + k)) (fun _ => True) h) := id rfl
theorem iZip3_q {ta : A3} {Q : List D → (Sto → Prop) → Sto → Prop} : iZip3 ta ρ h Q = ta ρ h fun vs h1 => zipD vs h1 Q := id rfl
theorem zipD_ttq {Q : List D → (Sto → Prop) → Sto → Prop} : zipD [.tup xs, .tup ys] h Q = Q (List.zipWith (fun x y => D.tup [x, y]) xs ys) (fun _ => True) h := id rfl
theorem zipD_rrq {Q : List D → (Sto → Prop) → Sto → Prop} : zipD [.ref n, .ref m] h Q = onC h[n]? fun xs => onC h[m]? fun ys => Q (List.zipWith (fun x y => D.tup [x, y]) xs ys) (fun h' => h'[n]? = some (.lst xs) ∧ h'[m]? = some (.lst ys)) h := by
  rw [zipD_rr]; rfl
def enD (vs : List D) (h : Sto) (Q : List D → (Sto → Prop) → Sto → Prop) : Prop := match vs with
  | [x] => seqOf x h fun xs st => Q (xs.mapIdx fun i x => D.tup [.int i, x]) st h
  | _ => False
theorem iEnum3_q {ta : A3} {Q : List D → (Sto → Prop) → Sto → Prop} : iEnum3 ta ρ h Q = ta ρ h fun vs h1 => enD vs h1 Q := id rfl
theorem enD_q {Q : List D → (Sto → Prop) → Sto → Prop} : enD [.ref n] h Q = onC h[n]? fun xs => Q (xs.mapIdx fun i x => D.tup [.int i, x]) (fun h' => h'[n]? = some (.lst xs)) h := id rfl
theorem tLc3_q {it : I3} {gg : G3} {tt : B3} {te : E3} {vs : List Nat} {Q : List D → Sto → Prop} : tLc3 it gg tt te vs ρ h Q = it ρ h fun items st h1 => items.length ≤ 16777216 ∧ lcT gg tt te st (wipe3 ρ vs) items [] h1 Q := id rfl
theorem bYes_q {Q : Bool → Sto → Prop} : bYes ρ h Q = Q true h := id rfl
theorem tCall3_q {sp : Sp3} {ta : A3} : tCall3 sp ta ρ h Q = ta ρ h fun ds h1 => callS sp ds h1 Q := id rfl
theorem tB3_q {r : N3} {ta : A3} : tB3 r ta ρ h Q = ta ρ h fun xs h1 => r xs h1 Q := id rfl
theorem tL3_q {r : M3} {ta : A3} {Q : List D → Sto → Prop} : tL3 r ta ρ h Q = ta ρ h fun xs h1 => r xs h1 Q := id rfl
theorem tIxX_q {ta : A3} {tb : E3} : tIxX ta tb ρ h Q = ta ρ h fun xs h1 => tb ρ h1 fun y h2 => onI y fun i => atT xs i fun d => Q d h2 := id rfl
theorem tSl3_q {te : E3} {tl th : O3} : tSl3 te tl th ρ h Q = te ρ h fun x h1 => tl ρ h1 fun l h2 => th ρ h2 fun u h3 => slR x l u h3 Q := id rfl
theorem oNo_q {Q : Option Int → Sto → Prop} : oNo ρ h Q = Q none h := id rfl
theorem oSo_q {t : E3} {Q : Option Int → Sto → Prop} : oSo t ρ h Q = t ρ h fun d h1 => onI d fun i => Q (some i) h1 := id rfl
theorem tOX_q {r : D → List D → Sto → DK → Prop} {ta : E3} {tb : A3} : tOX r ta tb ρ h Q = ta ρ h fun x h1 => tb ρ h1 fun ys h2 => r x ys h2 Q := id rfl
theorem inX_q : inX d xs h Q = ((flatD d = true ∧ xs.all flatD = true) ∧ Q (.bl (inD d xs)) h) := id rfl
theorem ninX_q : ninX d xs h Q = ((flatD d = true ∧ xs.all flatD = true) ∧ Q (.bl (!inD d xs)) h) := id rfl
theorem tupX_q : tupX xs h Q = Q (.tup xs) h := id rfl
theorem lenX_q : lenX xs h Q = Q (.int xs.length) h := id rfl
def onIs (o : Option (List Int)) (q : List Int → Prop) (_ : Tag q := ⟨⟩) : Prop := match o with
  | some j => q j
  | none => False
theorem onIs_q {ns : List Int} {q : List Int → Prop} : onIs (some ns) q = q ns := id rfl
def onBs (o : Option (List Bool)) (q : List Bool → Prop) (_ : Tag q := ⟨⟩) : Prop := match o with
  | some j => q j
  | none => False
theorem onBs_q {ns : List Bool} {q : List Bool → Prop} : onBs (some ns) q = q ns := id rfl
theorem sumX_q : sumX xs h Q = onIs (intsOf xs) fun ns => Q (.int ns.sum) h := id rfl
theorem allX_q : allX xs h Q = onBs (blsOf xs) fun bs => Q (.bl (bs.all id)) h := id rfl
theorem anyX_q : anyX xs h Q = onBs (blsOf xs) fun bs => Q (.bl (bs.any id)) h := id rfl
theorem maxX_q : maxX xs h Q = onIs (intsOf xs) fun ns => 0 < ns.length ∧ ∀ m, m ∈ ns → (∀ y, y ∈ ns → y ≤ m) → Q (.int m) h := id rfl
theorem minX_q : minX xs h Q = onIs (intsOf xs) fun ns => 0 < ns.length ∧ ∀ m, m ∈ ns → (∀ y, y ∈ ns → m ≤ y) → Q (.int m) h := id rfl
theorem srtX_q {Q : List D → Sto → Prop} : srtX xs h Q = onIs (intsOf xs) fun ns => ∀ ns' : List Int, ns'.Perm ns → ns'.Pairwise (· ≤ ·) → Q (ns'.map .int) h := id rfl
theorem tSSet_q {t : A3} {Q : List D → Sto → Prop} : tSSet t ρ h Q = t ρ h fun xs h1 => onIs (intsOf xs) fun ns => ns.length < 64 ∧ ∀ ms : List Int, ms.Pairwise (· < ·) → (∀ k, k ∈ ms ↔ k ∈ ns) → Q (ms.map .int) h1 := id rfl
theorem tBits3_q {t : E3} : tBits3 t ρ h Q = t ρ h fun x h1 => onI x fun i => Q (.int (Builtin.Int.intBits i : Nat)) h1 := id rfl
def lmD (r : T3) (ta : A3) (ρ : S3) (h : Sto) (Q : DK) (d : D) : Prop := match d with
  | .ref n => (match h[n]? with
    | some (.lst _) => True
    | _ => False) ∧ ta ρ h fun ds h2 => match h2[n]? with
      | some (.lst xs) => r xs ds h2 fun d ys => Q d (h2.set n (.lst ys))
      | _ => False
  | _ => False
theorem tLM_q {r : T3} {to : E3} {ta : A3} : tLM r to ta ρ h Q = to ρ h fun x h1 => lmD r ta ρ h1 Q x := id rfl
theorem lmD_q {r : T3} {ta : A3} : lmD r ta ρ h Q (.ref n) = onC h[n]? fun _ => ta ρ h fun ds h2 => onC h2[n]? fun xs => r xs ds h2 fun d ys => Q d (h2.set n (.lst ys)) := by
  show (_ ∧ _) = _
  cases e : h[n]? with
  | none => simp [onC, onLst]
  | some c =>
    cases c with
    | lst xs =>
      have : (fun (ds : List D) (h2 : Sto) => match h2[n]? with
        | some (.lst xs) => r xs ds h2 fun d ys => Q d (h2.set n (.lst ys))
        | _ => False) = fun ds h2 => onC h2[n]? fun xs => r xs ds h2 fun d ys => Q d (h2.set n (.lst ys)) := by
        funext ds h2
        unfold onC onLst
        cases h2[n]? with
        | none => rfl
        | some c => cases c <;> rfl
      simp only [true_and, onC_q, this]
    | _ => simp [onC, onLst]
theorem appT_q {Q : D → List D → Prop} : appT xs [d] h Q = (xs.length < 16777216 ∧ Q .non (xs ++ [d])) := id rfl
theorem extT_q {Q : D → List D → Prop} : extT xs [.ref n] h Q = onC h[n]? fun zs => xs.length + zs.length ≤ 16777216 ∧ Q .non (xs ++ zs) := by
  show extT xs [.ref n] h Q = onLst h[n]? _
  cases e : h[n]? with
  | none => simp [extT, onLst, e]
  | some c => cases c <;> simp [extT, onLst, e]
theorem revT_q {Q : D → List D → Prop} : revT xs [] h Q = Q .non xs.reverse := id rfl
def onD (o : Option D) (q : D → Prop) (_ : Tag q := ⟨⟩) : Prop := match o with
  | some j => q j
  | none => False
theorem onD_q {q : D → Prop} : onD (some d) q = q d := id rfl
theorem popT_q {Q : D → List D → Prop} : popT xs [] h Q = onD xs[xs.length - 1]? fun y => Q y xs.dropLast := id rfl
theorem popAtT_q {Q : D → List D → Prop} : popAtT xs [.int i] h Q = ((-(2 ^ 63) ≤ i ∧ i < 2 ^ 63) ∧ onN (seqIndex? i xs.length) fun k => onD xs[k]? fun y => Q y (xs.eraseIdx k)) := id rfl
theorem wipe3_nil : wipe3 ρ [] = ρ := id rfl
theorem wipe3_cons {vs : List Nat} : wipe3 ρ (k :: vs) = (wipe3 ρ vs).set k none := id rfl
theorem start3_q : start3 k xs = xs.map some ++ List.replicate (k - xs.length) none := id rfl
theorem xRg1_q {t : E3} {Q : List D → Sto → Prop} : xRg1 t ρ h Q = t ρ h fun d h1 => onI d fun n => xRg 0 n h1 Q := id rfl
theorem xRg2_q {t u : E3} {Q : List D → Sto → Prop} : xRg2 t u ρ h Q = t ρ h fun d h1 => u ρ h1 fun e h2 => onI d fun i => onI e fun j => xRg i j h2 Q := by
  show (t ρ h fun d h1 => u ρ h1 fun e h2 => _) = _
  congr 1; funext d h1; congr 1; funext e h2
  cases d <;> first | rfl | (cases e <;> rfl)
theorem xRg_q {Q : List D → Sto → Prop} : xRg i j h Q = ((-(2 ^ 62) ≤ i ∧ i < 2 ^ 62 ∧ -(2 ^ 62) ≤ j ∧ j < 2 ^ 62 ∧ (j - i).toNat ≤ 2 ^ 24) ∧ Q ((List.range (j - i).toNat).map fun (k : Nat) => D.int (i + k)) h) := id rfl
end
/-! ### values -/
section
variable {h : Sto} {Q : DK} {i j : Int} {a b : Bool} {x y : Str} {xs ys : List D} {n m : Nat} {d e : D} {ρ : S3}
theorem addR_ii_q : addR (.int i) (.int j) h Q = Q (.int (i + j)) h := id rfl
theorem addR_ss_q : addR (.str x) (.str y) h Q = (x.length + y.length ≤ 16777216 ∧ Q (.str (x ++ y)) h) := id rfl
theorem addR_tt_q : addR (.tup xs) (.tup ys) h Q = (xs ≠ [] ∧ xs.length + ys.length ≤ 16777216 ∧ Q (.tup (xs ++ ys)) h) := id rfl
theorem subR_ii_q : subR (.int i) (.int j) h Q = Q (.int (i - j)) h := id rfl
theorem mulR_ii_q : mulR (.int i) (.int j) h Q = (mulOk i j ∧ Q (.int (i * j)) h) := id rfl
theorem mulR_ri_q : mulR (.ref n) (.int j) h Q = onC h[n]? fun xs => (-(2 ^ 63) ≤ j ∧ j < 2 ^ 63 ∧ xs.length * j.toNat ≤ 16777216) ∧ Q (.ref h.length) (h ++ [.lst (List.replicate j.toNat xs).flatten]) := id rfl
theorem divR_ii_q : divR (.int i) (.int j) h Q = (divOk j ∧ Q (.int (i / j)) h) := id rfl
theorem modR_ii_q : modR (.int i) (.int j) h Q = (0 < j ∧ Q (.int (i % j)) h) := id rfl
theorem powR_ii_q : powR (.int i) (.int j) h Q = ((0 ≤ j ∧ j ≤ 1000000 ∧ i.natAbs < 2 ^ 64) ∧ Q (.int (i ^ j.toNat)) h) := id rfl
theorem ltR_ii_q : ltR (.int i) (.int j) h Q = Q (.bl (decide (i < j))) h := id rfl
theorem leR_ii_q : leR (.int i) (.int j) h Q = Q (.bl (decide (i ≤ j))) h := id rfl
theorem gtR_ii_q : gtR (.int i) (.int j) h Q = Q (.bl (decide (j < i))) h := id rfl
theorem geR_ii_q : geR (.int i) (.int j) h Q = Q (.bl (decide (j ≤ i))) h := id rfl
theorem negR_i_q : negR (.int i) h Q = Q (.int (-i)) h := id rfl
theorem eqR_ii_q : eqR (.int i) (.int j) h Q = Q (.bl (decide (i = j))) h := id rfl
theorem neR_ii_q : neR (.int i) (.int j) h Q = Q (.bl (!decide (i = j))) h := id rfl
theorem eqR_bb_q : eqR (.bl a) (.bl b) h Q = Q (.bl (a == b)) h := id rfl
theorem neR_bb_q : neR (.bl a) (.bl b) h Q = Q (.bl (!(a == b))) h := id rfl
theorem isR_n_q : isR d .non h Q = Q (.bl d.isN) h := id rfl
theorem isnR_n_q : isnR d .non h Q = Q (.bl (!d.isN)) h := id rfl
theorem isR_bb_q : isR (.bl a) (.bl b) h Q = Q (.bl (decide (a = b))) h := id rfl
theorem isnR_bb_q : isnR (.bl a) (.bl b) h Q = Q (.bl (!decide (a = b))) h := id rfl
theorem isN_non_q : D.isN .non = true := id rfl
theorem isN_int_q : D.isN (.int i) = false := id rfl
theorem isN_tup_q : D.isN (.tup xs) = false := id rfl
theorem isN_ref_q : D.isN (.ref n) = false := id rfl
theorem isN_bl_q : D.isN (.bl a) = false := id rfl
theorem isN_str_q : D.isN (.str x) = false := id rfl
theorem itemsOf_t_q : itemsOf (.tup xs) h = some xs := id rfl
theorem itemsOf_f_q : itemsOf (.fl xs) h = some xs := id rfl
theorem listOf_f_q : listOf (.fl xs) h = some xs := id rfl
theorem ixR_ti_q : ixR (.tup xs) (.int i) h Q = atT xs i fun d => Q d h := id rfl
theorem ixR_fi_q : ixR (.fl xs) (.int i) h Q = atT xs i fun d => Q d h := id rfl
theorem ixR_si_q : ixR (.str x) (.int i) h Q = (x.length ≤ 16777216 ∧ (match atI x.cps.toList i with | some c => Q (.str ⟨#[c]⟩) h | none => False)) := id rfl
theorem slR_t_q {lo hi : Option Int} : slR (.tup xs) lo hi h Q = (¬ (HT.sIx xs.length 0 lo = 0 ∧ HT.sIx xs.length xs.length hi = xs.length) ∧ Q (.tup (cutD xs lo hi)) h) := id rfl
theorem slR_f_q {lo hi : Option Int} : slR (.fl xs) lo hi h Q = Q (.ref h.length) (h ++ [.lst (cutD xs lo hi)]) := id rfl
theorem slR_s_q {lo hi : Option Int} : slR (.str x) lo hi h Q = (x.length ≤ 16777216 ∧ Q (.str (cutS x lo hi)) h) := id rfl
theorem lenR_s_q : lenR [.str x] h Q = (x.length ≤ 16777216 ∧ Q (.int x.length) h) := id rfl
theorem lenR_t_q : lenR [.tup xs] h Q = Q (.int xs.length) h := id rfl
theorem lenR_f_q : lenR [.fl xs] h Q = Q (.int xs.length) h := id rfl
theorem minR_ii_q : minR [.int i, .int j] h Q = Q (.int (if j < i then j else i)) h := id rfl
theorem maxR_ii_q : maxR [.int i, .int j] h Q = Q (.int (if j > i then j else i)) h := id rfl
theorem absR_i_q : absR [.int i] h Q = Q (.int (if i < 0 then -i else i)) h := id rfl
theorem intR_i_q : intR [.int i] h Q = Q (.int i) h := id rfl
theorem intR_b_q : intR [.bl a] h Q = Q (.int (if a then 1 else 0)) h := id rfl
theorem tyN_non_q : tyN .non h = some "NoneType" := id rfl
theorem tyN_bl_q : tyN (.bl a) h = some "bool" := id rfl
theorem tyN_int_q : tyN (.int i) h = some "int" := id rfl
theorem tyN_str_q : tyN (.str x) h = some "str" := id rfl
theorem tyN_tup_q : tyN (.tup xs) h = some "tuple" := id rfl
theorem tyN_fl_q : tyN (.fl xs) h = some "list" := id rfl
theorem onL_f_q {r : N3} : onL r [.fl xs] h Q = r xs h Q := id rfl
theorem tupR_t_q : tupR [.tup xs] h Q = Q (.tup xs) h := id rfl
theorem tupR_f_q : tupR [.fl xs] h Q = Q (.tup xs) h := id rfl
theorem lstM_t_q {Q : List D → Sto → Prop} : lstM [.tup xs] h Q = Q xs h := id rfl
theorem lstM_f_q {Q : List D → Sto → Prop} : lstM [.fl xs] h Q = Q xs h := id rfl
theorem onLM_f_q {r : M3} {Q : List D → Sto → Prop} : onLM r [.fl xs] h Q = r xs h Q := id rfl
theorem seqOf_f_q {Q : List D → (Sto → Prop) → Prop} : seqOf (.fl xs) h Q = Q xs fun _ => True := id rfl
theorem seqOf_r_q {Q : List D → (Sto → Prop) → Prop} : seqOf (.ref n) h Q = onC h[n]? fun xs => Q xs fun h' => h'[n]? = some (.lst xs) := id rfl
theorem addR_rq : addR (.ref n) (.ref m) h Q = onC h[n]? fun xs => onC h[m]? fun ys => xs.length + ys.length ≤ 16777216 ∧ Q (.ref h.length) (h ++ [.lst (xs ++ ys)]) := id addR_rr
theorem ixR_rq : ixR (.ref n) (.int i) h Q = onC h[n]? fun xs => atT xs i fun d => Q d h := id ixR_ri
theorem slR_rq {lo hi : Option Int} : slR (.ref n) lo hi h Q = onC h[n]? fun xs => Q (.ref h.length) (h ++ [.lst (cutD xs lo hi)]) := id slR_r
theorem lenR_rq : lenR [.ref n] h Q = onC h[n]? fun xs => Q (.int xs.length) h := id lenR_r
theorem onL_rq {r : N3} : onL r [.ref n] h Q = onC h[n]? fun xs => r xs h Q := id onL_r
theorem tupR_rq : tupR [.ref n] h Q = onC h[n]? fun xs => Q (.tup xs) h := id tupR_r
theorem lstM_rq {Q : List D → Sto → Prop} : lstM [.ref n] h Q = onC h[n]? fun xs => Q xs h := id lstM_r
theorem onLM_rq {r : M3} {Q : List D → Sto → Prop} : onLM r [.ref n] h Q = onC h[n]? fun xs => r xs h Q := id onLM_r
theorem onLst'_rq {k : List D → Prop} : onLst' (.ref n) h k = onC h[n]? k := id onLst'_r
theorem eqR_tq : eqR (.tup xs) e h Q = eqT (toP h 9 (.tup xs)) (toP h 9 e) fun b => Q (.bl b) h := id eqR_te
theorem neR_tq : neR (.tup xs) e h Q = eqT (toP h 9 (.tup xs)) (toP h 9 e) fun b => Q (.bl (!b)) h := id neR_te
theorem eqR_rq : eqR (.ref n) e h Q = eqT (toP h 9 (.ref n)) (toP h 9 e) fun b => Q (.bl b) h := id eqR_re
theorem neR_rq : neR (.ref n) e h Q = eqT (toP h 9 (.ref n)) (toP h 9 e) fun b => Q (.bl (!b)) h := id neR_re
theorem eqR_sq : eqR (.str x) e h Q = eqT (toP h 9 (.str x)) (toP h 9 e) fun b => Q (.bl b) h := id eqR_se
theorem neR_sq : neR (.str x) e h Q = eqT (toP h 9 (.str x)) (toP h 9 e) fun b => Q (.bl (!b)) h := id neR_se
theorem eqR_nq : eqR .non e h Q = eqT (toP h 9 .non) (toP h 9 e) fun b => Q (.bl b) h := id eqR_ne
theorem neR_nq : neR .non e h Q = eqT (toP h 9 .non) (toP h 9 e) fun b => Q (.bl (!b)) h := id neR_ne
theorem isi_1 : isiR [d, .ty "int"] h Q = isU (tyN d h) "int" fun b => Q (.bl b) h := id isiR_int
theorem isi_2 : isiR [d, .ty "bool"] h Q = isU (tyN d h) "bool" fun b => Q (.bl b) h := id isiR_bool
theorem isi_3 : isiR [d, .ty "str"] h Q = isU (tyN d h) "str" fun b => Q (.bl b) h := id isiR_str
theorem isi_4 : isiR [d, .ty "tuple"] h Q = isU (tyN d h) "tuple" fun b => Q (.bl b) h := id isiR_tuple
theorem isi_5 : isiR [d, .ty "list"] h Q = isU (tyN d h) "list" fun b => Q (.bl b) h := id isiR_list
theorem isi_6 : isiR [d, .ty "dict"] h Q = isU (tyN d h) "dict" fun b => Q (.bl b) h := id isiR_dict
end
/-! ### loops by invariants, again -/
theorem forQ {g : G3} {b : C3} {st : Sto → Prop} {E : Ends3} (Inv : List D → S3 → Sto → Prop) {xs : List D} {ρ : S3} {h : Sto} (hi : Inv xs ρ h) (hs : ∀ xs ρ h, Inv xs ρ h → st h) (h0 : ∀ ρ h, Inv [] ρ h → E.nx ρ h)
    (h1 : ∀ x r ρ h (F : S3 → Sto → Prop), Inv (x :: r) ρ h → (∀ ρ' h', Inv r ρ' h' → F ρ' h') → g x ρ h fun ρ' h' => b (loopE F E) ρ' h') : forI g b st E xs ρ h := forI_ind Inv hi hs h0 h1
theorem lcQ {g : G3} {tt : B3} {te : E3} {st : Sto → Prop} {ρ : S3} {Q : List D → Sto → Prop} (Inv : List D → List D → Sto → Prop) {xs acc : List D} {h : Sto} (hi : Inv xs acc h) (hs : ∀ xs acc h, Inv xs acc h → st h) (h0 : ∀ acc h, Inv [] acc h → Q acc h)
    (h1 : ∀ x r acc h (F : List D → Sto → Prop), Inv (x :: r) acc h → (∀ acc' h', Inv r acc' h' → F acc' h') → g x ρ h fun ρ2 h2 => tt ρ2 h2 fun b h3 => ifC b (te ρ2 h3 fun y h4 => F (acc ++ [y]) h4) (F acc h3)) : lcT g tt te st ρ xs acc h Q := lcI_ind Inv hi hs h0 h1
theorem whQ {c : B3} {b : C3} {E : Ends3} (Inv : Nat → S3 → Sto → Prop) {n : Nat} {ρ : S3} {h : Sto} (hi : Inv n ρ h)
    (h1 : ∀ n ρ h (F : S3 → Sto → Prop), Inv n ρ h → (∀ k ρ' h', k < n → Inv k ρ' h' → F ρ' h') → c ρ h fun k h1 => ifC k (b (loopE F E) ρ h1) (E.nx ρ h1))
    (mc : MonoB c) (mb : MonoC b) : cWhile c b E ρ h := wh_ind Inv hi h1 mc mb
/-- a comprehension without a test, each item one value, the store as it is -/
theorem lcMap {α : Type} {g : G3} {te : E3} {st : Sto → Prop} {ρ : S3} {Q : List D → Sto → Prop} {f : α → D} {r : α → D} {h : Sto} {xs : List α} (hs : st h) (q : Q (xs.map r) h) (h1 : ∀ x ∈ xs, ∀ Q : DK, Q (r x) h → g (f x) ρ h fun ρ2 h2 => te ρ2 h2 Q) : lcT g bYes te st ρ (xs.map f) [] h Q := by
  refine lcQ (fun ys acc h' => ∃ l s : List α, xs = l ++ s ∧ ys = s.map f ∧ acc = l.map r ∧ h' = h) ⟨[], xs, rfl, rfl, rfl, rfl⟩ ?_ ?_ ?_
  · rintro ys acc h' ⟨l, s, _, _, _, rfl⟩
    exact hs
  · rintro acc h' ⟨l, s, e, e2, rfl, rfl⟩
    have : s = [] := by simpa using e2.symm
    subst this
    rw [List.append_nil] at e
    subst e
    exact q
  · rintro y ys acc h' F ⟨l, s, e, e2, rfl, rfl⟩ hF
    cases s with
    | nil => cases e2
    | cons x s =>
      rw [List.map_cons, List.cons.injEq] at e2
      obtain ⟨rfl, rfl⟩ := e2
      have := h1 x (by rw [e]; simp) (fun y h4 => F (l.map r ++ [y]) h4) (hF _ _ ⟨l ++ [x], s, by simp [e], rfl, by simp, rfl⟩)
      simpa only [bYes_q, ifC_true] using this
/-! ### calls -/
theorem call_D {α : Type} {args : α → List D} {pre : α → Sto → Prop} {val : α → Sto → D} {sto : α → Sto → Sto} {h : Sto} {Q : DK} (x : α) {ds : List D} (e : ds = args x) (hp : pre x h) (q : Q (val x h) (sto x h)) : callS (spD args pre val sto) ds h Q := ⟨x, e, hp, q⟩
theorem call_R {α : Type} {args : α → List D} {pre : α → Sto → Prop} {res : α → Sto → D → Sto → Prop} {h : Sto} {Q : DK} (x : α) {ds : List D} (e : ds = args x) (hp : pre x h) (q : ∀ d h', res x h d h' → Q d h') : callS (spR args pre res) ds h Q := ⟨x, e, hp, q⟩
theorem call_W {α : Type} {args : α → List D} {pre : α → Sto → Prop} {res : α → Sto → D → Sto → Prop} {h g : Sto} {a : Nat} {c s : Int} {ds : List D} {Q : DK} (x : α) (ha : a < h.length) (hd : DrawOk c s) (e : ds = .ref a :: args x) (hp : pre x (W h a c s g))
    (q : ∀ c' s' k d, DrawOk c' s' → res x (W h a c s g) d k → Q d (W h a c' s' (g ++ k))) : callS (spW args pre res) ds (W h a c s g) Q := spW_at x ha hd e hp q
theorem take_q {n : Int} {h g : Sto} {a : Nat} {c s : Int} {Q : DK} (ha : a < h.length) (hd : DrawOk c s) (h0 : 0 < n) (h1 : n < 2 ^ 2000)
    (q : ∀ c s r : Int, DrawOk c s → 0 ≤ r → r < n → Q (.int r) (W h a c s g)) : callS sp_take [.ref a, .int n] (W h a c s g) Q := take_W ha hd h0 h1 q
end F3
set_option maxHeartbeats 400000
/-! FR: the laws' outer loop, the purse. -/
namespace F3
open PySem PySem.Spec PyProof.Rows L2
theorem purse_q {ns : List Int} {j : Int} {h : Sto} {Q : DK} (h0 : 0 ≤ j) (h1 : j < 1000) (q : ∀ (c s : Int) (H : Sto), DrawOk c s → h.length < H.length → (∀ (n : Nat) (x : Cell), h[n]? = some x → H[n]? = some x) → Q (.ref h.length) (W H h.length c s [])) : callS sp_purse [.fl (ns.map .int), .int j] h Q :=
  ⟨(ns, j), rfl, ⟨h0, h1⟩, by
    rintro _ _ ⟨c, s, hd, rfl, rfl⟩
    have e : (h ++ [draw c s])[h.length]? = some (draw c s) := by simp
    have := q c s (h ++ [draw c s]) hd (by simp) fun n x e => by rw [List.getElem?_append_left (lt_of_get e)]; exact e
    rw [← W_mk e] at this
    exact this⟩
theorem law_for {b : C3} {E : Ends3} {xs : List D} {ρ : S3} {h : Sto} (Inv : S3 → Prop) (hi : Inv ρ) (hx : ∀ x ∈ xs, ∃ j : Int, x = .int j ∧ 0 ≤ j ∧ j < 1000) (h0 : ∀ ρ h, Inv ρ → E.nx ρ h)
    (h1 : ∀ (j : Int) (ρ : S3) (h : Sto) (F : S3 → Sto → Prop), 0 ≤ j → j < 1000 → Inv ρ → (∀ ρ' h', Inv ρ' → F ρ' h') → b (loopE F E) (ρ.set 1 (some (.int j))) h) : forI (gN 1) b (fun _ => True) E xs ρ h := by
  refine forQ (fun ys ρ _ => Inv ρ ∧ ∀ x ∈ ys, ∃ j : Int, x = .int j ∧ 0 ≤ j ∧ j < 1000) ⟨hi, hx⟩ (fun _ _ _ _ => trivial) (fun ρ h i => h0 ρ h i.1) ?_
  rintro x r ρ h F ⟨i, hx⟩ hF
  obtain ⟨j, rfl, j0, j1⟩ := hx x List.mem_cons_self
  rw [gN_q]
  exact h1 j ρ h F j0 j1 i fun ρ' h' i' => hF ρ' h' ⟨i', fun y hy => hx y (List.mem_cons_of_mem _ hy)⟩
theorem whole_q {d : D} {h : Sto} {Q : DK} (hk : Kn h d) (q : Q (.bl (isW d)) h) : callS sp_whole [d] h Q := ⟨d, rfl, hk, q⟩
/-- all([whole(n) for n in ns]) -/
theorem bls_true {α : Type} : ∀ ns : List α, blsOf (ns.map fun _ => D.bl true) = some (ns.map fun _ => true)
  | [] => rfl
  | _ :: r => by
    have := bls_true r
    simp only [List.map_cons, blsOf, this, Option.map_some]
theorem all_true {α : Type} (ns : List α) : (ns.map fun _ => true).all id = true := by simp
theorem get_up {h g : Sto} {n : Nat} {c : Cell} (e : h[n]? = some c) : (h ++ g)[n]? = some c := by rw [List.getElem?_append_left (lt_of_get e)]; exact e
theorem get_new {h : Sto} {c : Cell} : (h ++ [c])[h.length]? = some c := by simp
theorem get_new2 {h : Sto} {c c' : Cell} : ((h ++ [c]) ++ [c'])[h.length]? = some c := by simp
theorem set_new {h g : Sto} {c c' : Cell} : (h ++ [c] ++ g).set h.length c' = h ++ [c'] ++ g := by rw [List.append_assoc, List.append_assoc]; exact set_app0
/-- a for over a list of known things, by what is done -/
theorem forL {α : Type} {f : α → D} {g : G3} {b : C3} {st : Sto → Prop} {E : Ends3} {xs : List α} {ρ : S3} {h : Sto} (Inv : List α → S3 → Sto → Prop) (hi : Inv [] ρ h) (hs : ∀ l ρ h, Inv l ρ h → st h) (h0 : ∀ ρ h, Inv xs ρ h → E.nx ρ h)
    (h1 : ∀ l x r ρ h (F : S3 → Sto → Prop), xs = l ++ x :: r → Inv l ρ h → (∀ ρ' h', Inv (l ++ [x]) ρ' h' → F ρ' h') → g (f x) ρ h fun ρ' h' => b (loopE F E) ρ' h') : forI g b st E (xs.map f) ρ h := by
  refine forQ (fun ys ρ h => ∃ l r, xs = l ++ r ∧ ys = r.map f ∧ Inv l ρ h) ⟨[], xs, rfl, rfl, hi⟩ (fun _ ρ h ⟨l, _, _, _, i⟩ => hs l ρ h i) ?_ ?_
  · rintro ρ h ⟨l, r, e, e2, i⟩
    have : r = [] := by simpa using e2.symm
    subst this
    rw [List.append_nil] at e
    subst e
    exact h0 ρ h i
  · rintro y ys ρ h F ⟨l, r, e, e2, i⟩ hF
    cases r with
    | nil => cases e2
    | cons x r =>
      rw [List.map_cons, List.cons.injEq] at e2
      obtain ⟨rfl, rfl⟩ := e2
      exact h1 l x r ρ h F e i fun ρ' h' i' => hF ρ' h' ⟨l ++ [x], r, by simp [e], rfl, i'⟩
theorem lcL {α : Type} {f : α → D} {g : G3} {tt : B3} {te : E3} {st : Sto → Prop} {ρ : S3} {Q : List D → Sto → Prop} {xs : List α} {h : Sto} (Inv : List α → List D → Sto → Prop) (hi : Inv [] [] h) (hs : ∀ l acc h, Inv l acc h → st h) (h0 : ∀ acc h, Inv xs acc h → Q acc h)
    (h1 : ∀ l x r acc h (F : List D → Sto → Prop), xs = l ++ x :: r → Inv l acc h → (∀ acc' h', Inv (l ++ [x]) acc' h' → F acc' h') → g (f x) ρ h fun ρ2 h2 => tt ρ2 h2 fun b h3 => ifC b (te ρ2 h3 fun y h4 => F (acc ++ [y]) h4) (F acc h3)) : lcT g tt te st ρ (xs.map f) [] h Q := by
  refine lcQ (fun ys acc h => ∃ l r, xs = l ++ r ∧ ys = r.map f ∧ Inv l acc h) ⟨[], xs, rfl, rfl, hi⟩ (fun _ acc h ⟨l, _, _, _, i⟩ => hs l acc h i) ?_ ?_
  · rintro acc h ⟨l, r, e, e2, i⟩
    have : r = [] := by simpa using e2.symm
    subst this
    rw [List.append_nil] at e
    subst e
    exact h0 acc h i
  · rintro y ys acc h F ⟨l, r, e, e2, i⟩ hF
    cases r with
    | nil => cases e2
    | cons x r =>
      rw [List.map_cons, List.cons.injEq] at e2
      obtain ⟨rfl, rfl⟩ := e2
      exact h1 l x r acc h F e i fun acc' h' i' => hF acc' h' ⟨l ++ [x], r, by simp [e], rfl, i'⟩
theorem W_keep {h g : Sto} {a n : Nat} {c s : Int} {x : Cell} (e : h[n]? = some x) (hne : n ≠ a) : (W h a c s g)[n]? = some x := by
  unfold W
  rw [List.getElem?_append_left (by simpa using lt_of_get e), List.getElem?_set_ne (fun z => hne z.symm)]
  exact e
theorem ne_draw {h : Sto} {a n : Nat} {c s : Int} {w : List Pc} (e : h[n]? = some (.lst (w.map pcD))) (ed : h[a]? = some (draw c s)) : n ≠ a := by
  rintro rfl
  rw [ed] at e
  simp only [draw, Option.some.injEq, Cell.lst.injEq] at e
  cases w with
  | nil => simp at e
  | cons p r =>
    simp only [List.map_cons, List.cons.injEq] at e
    have := e.1
    unfold pcD at this
    cases this
theorem W_isdraw {h : Sto} {a : Nat} {c s : Int} (e : h = W h a c s []) (ha : a < h.length) : h[a]? = some (draw c s) := by
  rw [e]; exact W_getA ha
theorem atT_lastI {ns : List Int} {x : Int} {k : D → Prop} (e : ns.getLast? = some x) : atT (ns.map .int) (-1) k = k (.int x) := by
  rcases snoc_cases ns with rfl | ⟨u, q, rfl⟩
  · cases e
  · have : q = x := by simpa using e
    subst this
    rw [List.map_append, List.map_singleton, atT_last]
/-- as spW, where what is wanted may tell of the purse's number -/
def spV {α : Type} (args : α → List D) (pre : Nat → α → Sto → Prop) (res : α → Sto → D → Sto → Prop) : Sp3 :=
  spR (fun (a : Nat × Int × Int × α) => .ref a.1 :: args a.2.2.2) (fun a h => h[a.1]? = some (draw a.2.1 a.2.2.1) ∧ DrawOk a.2.1 a.2.2.1 ∧ pre a.1 a.2.2.2 h) (fun a h d h' => ∃ c s g, DrawOk c s ∧ res a.2.2.2 h d g ∧ h' = W h a.1 c s g)
theorem mono_spV {α : Type} {args : α → List D} {pre : Nat → α → Sto → Prop} {res : α → Sto → D → Sto → Prop} : MonoS (spV args pre res) := mono_spR
theorem len_spV {α : Type} {args : α → List D} {pre : Nat → α → Sto → Prop} {res : α → Sto → D → Sto → Prop} {n : Nat} (hl : ∀ a, (args a).length + 1 = n) : ∀ ds h Q E, spV args pre res ds h Q E → ds.length = n := len_spR fun a => by
  rw [List.length_cons]; exact hl _
theorem spV_in {α : Type} {args : α → List D} {pre : Nat → α → Sto → Prop} {res : α → Sto → D → Sto → Prop} {ds : List D} {h : Sto} {Q : DK} {E : X3} (w : spV args pre res ds h Q E) :
    ∃ a c s x, ds = .ref a :: args x ∧ a < h.length ∧ DrawOk c s ∧ pre a x h ∧ h = W h a c s [] ∧ ∀ c s g d, DrawOk c s → res x h d g → Q d (W h a c s g) := by
  obtain ⟨⟨a, c, s, x⟩, rfl, ⟨h1, h2, h3⟩, q⟩ := w
  exact ⟨a, c, s, x, rfl, lt_of_get h1, h2, h3, W_mk h1, fun c s g d hd hr => q _ _ ⟨c, s, g, hd, hr, rfl⟩⟩
theorem call_V {α : Type} {args : α → List D} {pre : Nat → α → Sto → Prop} {res : α → Sto → D → Sto → Prop} {h g : Sto} {a : Nat} {c s : Int} {ds : List D} {Q : DK} (x : α) (ha : a < h.length) (hd : DrawOk c s) (e : ds = .ref a :: args x) (hp : pre a x (W h a c s g))
    (q : ∀ c' s' k d, DrawOk c' s' → res x (W h a c s g) d k → Q d (W h a c' s' (g ++ k))) : callS (spV args pre res) ds (W h a c s g) Q := by
  refine ⟨(a, c, s, x), e, ⟨W_getA ha, hd, hp⟩, ?_⟩
  rintro d h' ⟨c', s', k, hd', hr, rfl⟩
  have : W (W h a c s g) a c' s' k = W h a c' s' (g ++ k) := by
    show (W h a c s g).set a (draw c' s') ++ k = _
    rw [W_setA ha, W_app]
  show Q d (W (W h a c s g) a c' s' k)
  rw [this]
  exact q c' s' k d hd' hr
/-! ### classes and data of cells -/
def tyC (o : Option Cell) : Option String := match o with
  | some (.lst _) => some "list"
  | some (.dK _) => some "dict"
  | some (.dT _) => some "dict"
  | _ => none
theorem tyC_lst {xs : List D} : tyC (some (.lst xs)) = some "list" := id rfl
theorem tyN_ref {h : Sto} {n : Nat} {xs : List D} (e : h[n]? = some (.lst xs)) : tyN (.ref n) h = some "list" := tyN_r e
theorem toP_ref {h : Sto} {n k : Nat} {xs : List D} (e : h[n]? = some (.lst xs)) : toP h (k + 1) (.ref n) = (xs.mapM (toP h k)).map .list := by simp only [toP, e]
theorem toP_pcs8 {h : Sto} {w : List Pc} : (w.map pcD).mapM (toP h 8) = some (w.map pcP) := toP_pcsX (k := 5)
theorem toP_int8 {h : Sto} {ns : List Int} : (ns.map D.int).mapM (toP h 8) = some (ns.map .int) := toP_ints (k := 7) ns
end F3
set_option maxHeartbeats 400000
/-! FS: list(reversed(xs)), xs[::-1]. -/
namespace F3
open PySem PySem.Spec PyProof.Rows L2 RT
section
variable {prog : Program} {w : World} {A : Around} {E : Value → Shared → Prop} {s : Shared}
theorem extend_rev {R : Result → Shared → Prop} {it l : Addr} {items : Array Value} (hh : A.handled = none) (hit : s.heap.IsRevIter it l ((items.size : Int) - 1)) (hl : s.heap.IsList l items) (hne : l ≠ it) (hn : items.size ≤ sizeLine) (S : Addr) (hSi : S ≠ it) (hSl : S ≠ l) (res : Value) (c₀ : Nat) (hS : s.heap.get? S = some { cls := .type "list", data := .seq #[] c₀ })
    (hR : ∀ h' tk acc' c', (∀ b o, b ≠ S → b ≠ it → s.heap.get? b = some o → h'.get? b = some o) → h'.get? S = some { cls := .type "list", dict := none, data := .seq acc' c', slots := #[] } →
      ItemsOf (fun i v => items[items.size - 1 - i]? = some v) acc' items.size → R (.ok (.ret res)) { s with heap := h', toks := tk }) :
    wpAny (model prog w) A.in1 (Builtin.List.listExtendWith (.ref S) (.ref it) res)
      (fun fin s' => match fin with | .done f => R (.ok f) s' | .again c' => c'.quiet = true ∧ codeAny (model prog w) A c' R s') (fun e s' => R (.error e) s') s := by
  have W := (Walks.listRev (prog := prog) (w := w) (A := A.in1) hh it l hne items).toS
  have hSf : S ∉ [it, l] := by simp only [List.mem_cons, List.not_mem_nil, or_false, not_or]; exact ⟨hSi, hSl⟩
  have hT : s.TypeIs (.ref it) "list_reverseiterator" := hit.typeIs
  have h1 : Builtin.List.listSameRef (.ref S) (.ref it) = false := by simp [Builtin.List.listSameRef, hSi]
  unfold Builtin.List.listExtendWith
  refine wpAny_bind (wpAny_typeOf hT ?_)
  rw [if_neg (by rw [h1]; decide)]
  refine wpAny_bind (wpAny_pyIter_revIter hit ?_)
  refine wpAny_bind (wpAny_holding ?_)
  unfold Builtin.List.listLengthHint
  refine wpAny_bind (wpAny_specialOf hT nolen_lri ?_)
  show wpAny _ A.in1 (specialOf (Value.ref it) (Str.ofString "__length_hint__") >>= _) _ _ _
  refine wpAny_bind (wpAny_specialOf hT hint_lri ?_)
  generalize hid : ("list_reverseiterator.__length_hint__" : String) = id0
  wp_delta
  rw [show splitId id0 = some ("list_reverseiterator", "__length_hint__") from by subst hid; decide +kernel]
  subst hid
  refine wpAny_bind (wpAny_isInstance (b := true) hT (by rw [isSubtype_type]; kernel_rfl) ?_)
  refine wpAny_pure ?_
  rw [if_neg (by decide)]
  have e0 : ((items.size : Nat) : Int) - 1 - ((0 : Nat) : Int) = (items.size : Int) - 1 := by omega
  refine wpAny_pure ⟨plainId_quiet F.plain_extend_loop _, codeAny_extend_loopS W hn _ hSf _ items.size 0 _ _ _ rfl (Nat.zero_le _) ⟨Nat.zero_le _, by rw [e0]; exact hit, hl⟩ hS (ItemsOf.nil _) fun s' acc' c' hm hS' hacc => ?_⟩
  rw [Moved.eq_with hm]
  refine hR s'.heap s'.toks acc' c' (fun b o hb hb2 e => hm.heap b o (fun hmem => ?_) e) hS' hacc
  rcases List.mem_cons.mp hmem with e' | hmem
  · exact hb e'
  · exact hb2 (List.mem_singleton.mp hmem)
theorem call_list_rev {it l : Addr} {items : Array Value} {Q : Value → Shared → Prop} (hh : A.handled = none) (hit : s.heap.IsRevIter it l ((items.size : Int) - 1)) (hl : s.heap.IsList l items) (hne : l ≠ it) (hn : items.size ≤ sizeLine)
    (hQ : ∀ h' tk acc' c', (∀ b o, b ≠ it → s.heap.get? b = some o → h'.get? b = some o) → h'.get? s.heap.objs.size = some { cls := .type "list", dict := none, data := .seq acc' c', slots := #[] } → ItemsOf (fun i v => items[items.size - 1 - i]? = some v) acc' items.size → Q (.ref s.heap.objs.size) { s with heap := h', toks := tk }) :
    wpAny (model prog w) A (call (.type "list") [.ref it]) Q E s := by
  obtain ⟨oi, hoi, _⟩ := id hit
  obtain ⟨ol, hol, _⟩ := id hl
  have hSi : s.heap.objs.size ≠ it := Nat.ne_of_gt (Heap.lt_size hoi)
  have hSl : s.heap.objs.size ≠ l := Nat.ne_of_gt (Heap.lt_size hol)
  refine callType_codes (Q₁ := fun obj s₁ => obj = .ref s.heap.objs.size ∧ s₁ = { s with heap := s.heap.push { cls := .type "list", data := .seq #[] } }) F.called_list (F.typeCall_list_1 _) F.entry_list_init
    (code_list_new _ ⟨rfl, rfl⟩) fun obj s₁ h₁ => ?_
  obtain ⟨rfl, rfl⟩ := h₁
  have hS : (s.heap.push { cls := .type "list", data := .seq #[] }).get? s.heap.objs.size = some { cls := .type "list", data := .seq #[] } := Heap.get?_push_size _ rfl
  refine ⟨⟨_, hS, rfl⟩, F.args_list_init_2 _ _, ?_⟩
  show wpAny _ _ (do let old ← Builtin.List.listItems (.ref s.heap.objs.size); Builtin.List.listUpdate (.ref s.heap.objs.size) (fun _ => #[]); letGo old.toList.reverse; Builtin.List.listExtendWith (.ref s.heap.objs.size) (.ref it) .none) _ _ _
  refine wpAny_bind ?_
  unfold Builtin.List.listItems
  refine wpAny_bind (wpAny_seqItems hS rfl (wpAny_pure ?_))
  show wpAny _ _ (updateSeq s.heap.objs.size (fun _ => #[]) >>= fun _ => letGo (#[] : Array Value).toList.reverse >>= fun _ => Builtin.List.listExtendWith (.ref s.heap.objs.size) (.ref it) .none) _ _ _
  refine wpAny_bind (wpAny_updateSeq hS rfl ?_)
  have hS₂ := Heap.get?_update_self (Obj.mapSeq (fun _ => (#[] : Array Value))) hS rfl
  have oth : ∀ b o, b ≠ s.heap.objs.size → s.heap.get? b = some o → ((s.heap.push { cls := .type "list", data := .seq #[] }).update s.heap.objs.size (Obj.mapSeq (fun _ => (#[] : Array Value)))).get? b = some o :=
    fun b o hb e => (Heap.get?_update_other _ _ (Ne.symm hb)).trans (Heap.get?_push_of_some _ e)
  refine wpAny_bind (wpAny_letGo ?_)
  refine extend_rev (A := A.in1) hh (hit.at fun o e => oth _ o (Ne.symm hSi) e) ?_ hne hn s.heap.objs.size hSi hSl .none _ hS₂ fun h' tk acc' c' hk hS' hacc => ?_
  · obtain ⟨o, ho, r⟩ := hl
    exact ⟨o, oth _ o (Ne.symm hSl) ho, r⟩
  · exact ⟨rfl, hQ h' tk acc' c' (fun b o hb e => hk b o (Nat.ne_of_lt (Heap.lt_size e)) hb (oth b o (Nat.ne_of_lt (Heap.lt_size e)) e)) hS' hacc⟩
end
section
variable {X : Cx}
def tLstRev (K : PySem.W.Frag) (te : TE) : TE := fun σ H Q => te σ H fun x H1 => ∃ a xs, x = .ref a ∧ SqL K H1 a xs ∧ ∀ p, H1 p = none → Q (.ref p) (upd H1 p (.lst xs.reverse))
theorem pe_listRev {e : Expr} {te : TE} {p p2 pos pos2 : Pos} (hc : X.calm = true) (hg : Gl X "list") (hm : X.mg "list" = none) (hg2 : Gl X "reversed") (hm2 : X.mg "reversed" = none) (he : PE X e te)
    (hs : starEach [e] X.env = (false, eval e X.env) :: starEach [] X.env := by rfl)
    (hs2 : starEach [.Call (.Name "reversed" p2) [e] [] pos2] X.env = (false, eval (.Call (.Name "reversed" p2) [e] [] pos2) X.env) :: starEach [] X.env := by rfl) :
    PE X (.Call (.Name "list" p) [.Call (.Name "reversed" p2) [e] [] pos2] [] pos) (tLstRev X.K te) := by
  refine ⟨fun pins s σ H Q I h => ?_⟩
  refine Call_ (ld_blt I hg hm boot_list (PyProof.Rows.callWith_type1 (args_cons (Call_ (ld_blt I hg2 hm2 PyProof.Rows.boot_reversed (PyProof.Rows.callWith_type1 (args_cons (thn (he.run pins s σ H _ I h) fun u s1 ⟨v, H1, I1, r1, q1⟩ => args_nil ?_) hs) hs rfl))) hs2) hs2 rfl))
  obtain ⟨a, xs, ev, hq, q⟩ := q1
  subst ev
  obtain rfl : u = Value.ref a := r1
  obtain ⟨its, rv, p', hz⟩ := I1.list hq
  refine call_reversed_list p'.isList (args_nil ?_)
  have k0 : ∀ b o, s1.heap.get? b = some o → (s1.heap.push (revObj a ((its.toArray.size : Int) - 1))).get? b = some o := fun b o e => Heap.get?_push_of_some _ e
  have hl := p'.isList
  obtain ⟨ol, hol, _⟩ := id hl
  have hne : a ≠ s1.heap.objs.size := Nat.ne_of_lt (Heap.lt_size hol)
  have hn : its.toArray.size ≤ sizeLine := by rw [List.size_toArray, ← rv.length]; exact hz
  refine call_list_rev (s := { s1 with heap := s1.heap.push (revObj a ((its.toArray.size : Int) - 1)) }) (I1.ok.hd hc) ⟨_, Heap.get?_push_size _ rfl, rfl, rfl⟩ (hl.push _) hne hn fun h' tk acc c' hk hS hi => ?_
  have sz : (s1.heap.push (revObj a ((its.toArray.size : Int) - 1))).objs.size = s1.heap.objs.size + 1 := Heap.size_push ..
  have hS' : h'.get? (s1.heap.objs.size + 1) = some { cls := .type "list", dict := none, data := .seq acc c', slots := #[] } := by rw [← sz]; exact hS
  have hk' : ∀ b o, s1.heap.get? b = some o → h'.get? b = some o := fun b o e => hk b o (Nat.ne_of_lt (Heap.lt_size e)) (Heap.get?_push_of_some _ e)
  have e2 : (Value.ref (s1.heap.push (revObj a ((its.toArray.size : Int) - 1))).objs.size) = Value.ref (s1.heap.objs.size + 1) := by rw [sz]
  show EP X pins σ Q (Value.ref (s1.heap.push (revObj a ((its.toArray.size : Int) - 1))).objs.size) _
  rw [e2]
  refine ⟨.ref (s1.heap.objs.size + 1), upd H1 (s1.heap.objs.size + 1) (.lst xs.reverse), I1.laid (t' := tk) hk' (Nat.le_succ _) (show ObjOk X.prog X.w _ _ _ (.lst xs.reverse) from ⟨by rw [List.length_reverse]; exact hz, acc.toList, c', vals_rev rv hi, ?_⟩), rfl, q _ (I1.hok.fresh (Nat.le_succ _))⟩
  rw [Array.toArray_toList]
  exact hS'
/-- a list the other way about, new -/
def xRev (t : E3) : A3 := fun ρ h Q => t ρ h fun d h1 => onLst' d h1 fun xs => Q xs.reverse h1
theorem MonoA.rev {t : E3} (mt : MonoE t) : MonoA (xRev t) := fun ρ h Q Q' w q => mt _ _ _ _ (fun d h1 q1 => onLst'_mono (fun xs => w _ _) q1) q
theorem rev_core {K : PySem.W.Frag} {t : E3} (mt : MonoE t) {σ : L2.St} {H : Hp} {Q : VK} (q : LX K (xRev t) σ H Q) : LE K t σ H fun x H1 => ∃ a xs, x = .ref a ∧ SqL K H1 a xs ∧ ∀ p, H1 p = none → Q (.ref p) (upd H1 p (.lst xs.reverse)) := by
  obtain ⟨m, h, ρ, R, S, q⟩ := q
  refine LE.bind mt R S q fun m1 H1 v d h1 s1 R1 rd S1 q1 => ?_
  obtain ⟨xs, e, q2⟩ := onLst'_some q1
  obtain ⟨a, vs, rfl, sq, rs⟩ := listOf_lift R1 rd e
  exact ⟨a, vs, rfl, sq, UpX.laid R1 rs.reverse (UpX.step s1 R1 q2)⟩
theorem x3_lrev {e : Expr} {t : E3} {p pos p2 pos2 : Pos} (hc : X.calm = true) (hm : X.mg "list" = none) (hm2 : X.mg "reversed" = none) (ha : PE3 X e t) (hg : Gl X "list" := by rfl) (hg2 : Gl X "reversed" := by rfl)
    (hs : starEach [e] X.env = (false, eval e X.env) :: starEach [] X.env := by rfl)
    (hs2 : starEach [.Call (.Name "reversed" p2) [e] [] pos2] X.env = (false, eval (.Call (.Name "reversed" p2) [e] [] pos2) X.env) :: starEach [] X.env := by rfl) :
    PX3 X (.Call (.Name "list" p) [.Call (.Name "reversed" p2) [e] [] pos2] [] pos) (xRev t) :=
  ⟨PE.weak (pe_listRev hc hg hm hg2 hm2 ha.pe hs hs2) fun σ H Q q => rev_core ha.mono q, MonoA.rev ha.mono⟩
theorem x3_rev1 {e : Expr} {t : E3} {k : Nat} {p1 p2 p3 pos : Pos} (ha : PE3 X e t) : PX3 X (.Subscript e (.Slice none none (some (.UnaryOp .USub (.Constant (.int 1) k p1) p2)) p3) pos) (xRev t) :=
  ⟨PE.weak (pe_revL ha.pe) fun σ H Q q => rev_core ha.mono q, MonoA.rev ha.mono⟩
end
section
variable {h : Sto} {n : Nat} {ρ : S3} {Q : List D → Sto → Prop} {t : E3} {xs : List D} {d : D}
def onL' (d : D) (h : Sto) (q : List D → Prop) (_ : Tag q := ⟨⟩) : Prop := onLst' d h q
theorem xRev_q : xRev t ρ h Q = t ρ h fun d h1 => onL' d h1 fun xs => Q xs.reverse h1 := id rfl
theorem onL'_r {q : List D → Prop} : onL' (.ref n) h q = onC h[n]? q := id onLst'_r
theorem onL'_f {q : List D → Prop} : onL' (.fl xs) h q = q xs := id onLst'_f
end
end F3
set_option maxHeartbeats 400000
/-! FT: a, b, .. = a list. -/
namespace F3
open PySem PySem.Spec PyProof.Rows L2
section
variable {X : Cx}
def gLst3 (n : Nat) (g : Gs3) : G3 := fun d ρ h Q => onLst' d h fun xs => xs.length = n ∧ g xs ρ h Q
theorem g3_lst {es : List Expr} {k : Nat} {g : Gs3} {n : Nat} {pos : Pos} (hc : X.calm = true) (h : PGs3 X es g)
    (hn : (assignEach es X.env).length = n := by rfl) (hst : (assignEach es X.env).findIdx? (·.1) = none := by rfl) : PG3 X (.Tuple es k pos) (gLst3 n g) := by
  refine ⟨PG.weak (pg_unl hc h.pe hn hst) fun v σ H Q ⟨m, st, ρ, d, R, S, rd, q⟩ => ?_, fun d ρ st Q Q' w q => onLst'_mono (fun xs q => ⟨q.1, h.mono _ _ _ _ _ w q.2⟩) q⟩
  obtain ⟨xs, e, hl, q⟩ := onLst'_some q
  obtain ⟨a, vs, rfl, sq, rs⟩ := listOf_lift R rd e
  exact ⟨a, vs, rfl, sq, by rw [← rs.length]; exact hl, m, st, ρ, xs, R, S, rs, q⟩
end
/-- a while, by a number that falls -/
theorem whL {c : B3} {b : C3} {E : Ends3} (Inv : Nat → S3 → Sto → Prop) {n : Nat} {ρ : S3} {h : Sto} (hi : Inv n ρ h)
    (h1 : ∀ n ρ h (F : S3 → Sto → Prop), Inv n ρ h → (∀ k ρ' h', k < n → Inv k ρ' h' → F ρ' h') → c ρ h fun k h1 => ifC k (b (loopE F E) ρ h1) (E.nx ρ h1)) : cWhile c b E ρ h := by
  have key : ∀ m n ρ h, n ≤ m → Inv n ρ h → whN c b E (m + 1) ρ h := by
    intro m
    induction m with
    | zero =>
      intro n ρ h hn i
      exact h1 n ρ h (whN c b E 0) i fun k ρ' h' hk i' => absurd hk (by omega)
    | succ m ih =>
      intro n ρ h hn i
      exact h1 n ρ h (whN c b E (m + 1)) i fun k ρ' h' hk i' => ih k ρ' h' (by omega) i'
  exact ⟨n + 1, key n n ρ h (Nat.le_refl _) hi⟩
theorem gLst3_q {n k : Nat} {g : Gs3} {ρ : S3} {h : Sto} {Q : S3 → Sto → Prop} : gLst3 n g (.ref k) ρ h Q = onC h[k]? fun xs => xs.length = n ∧ g xs ρ h Q := id onLst'_r
end F3
set_option maxHeartbeats 1000000
/-! FU: a tuple times an int. -/
namespace F3
open PySem PySem.Spec PyProof.Rows L2
section
theorem tuple_mul1 (l : Addr) (items : Array Value) (n : Nat) (dd : Option Addr) (sl : Array (Option Value)) (u : Tok) :
    Meets (Builtin.«tuple.__mul__» ⟨[.ref l, .int 1 u], []⟩) (fun _ R s => s.heap.get? l = some { cls := .type "tuple", dict := dd, data := .seq items n, slots := sl } ∧ R (.ok (.ret (Value.ref l))) s) :=
  .of_wp fun prog w A R s h => by
    obtain ⟨hp, g, d, tk, os⟩ := s
    obtain ⟨hl, h⟩ := h
    have f1 := AutoSeq1.idx_int
    have c0 : (decide ((1 : Int) < -(2 ^ 63)) || decide ((1 : Int) ≥ 2 ^ 63)) = false := by decide
    have c1 : (items.isEmpty || (1 : Int) == 1) = true := by simp
    wp_walk using wpAny_loadPart' hl
    repeat (first
      | (refine wpAny_ite_false (decide_eq_false (by rw [c0]; exact Bool.false_ne_true)) ?_; wp_walk using wpAny_loadPart' hl)
      | (refine wpAny_ite_true (decide_eq_true c1) ?_; wp_walk using wpAny_loadPart' hl))
    exact ⟨_, rfl, h⟩
variable {X : Cx}
def rRepT1 (K : PySem.W.Frag) : R2 := fun x y H Q => ∃ l xs, x = .ref l ∧ y = .int 1 ∧ SqT K H l xs ∧ Q (.ref l) H
theorem op_repT1 : OpR X (binaryOp .Mult) (rRepT1 X.K) := by
  intro pins s σ H x y v u Q I rx ry h
  obtain ⟨l, xs, rfl, rfl, hT, q⟩ := h
  cases rx
  obtain ⟨t, rfl⟩ := ry
  obtain ⟨its, r, ⟨⟨cls, dd, data, sl⟩, ho, hc, n, hd⟩, hs⟩ := I.tuple hT
  simp only at hc hd
  subst hc hd
  refine wpAny_binaryOp_repeat_ref (T := "tuple") (U := "int") (by decide) ⟨_, ho, rfl⟩ (fun s' => typeIs_int s' 1 t) noFill_tuple_mul F.fills_int_mul F.slot_int_rmul repeat_tuple F.slot_int_index.lookup
    (call_meets F.slot_int_rmul (typeIs_int s 1 t) F.entry_int_rmul (F.args_int_rmul_2 _ _) (int_rmul_tuple 1 t l its.toArray n dd sl)
      ⟨ho, rfl, ⟨_, ho, rfl⟩, call_meets F.slot_tuple_mul ⟨_, ho, rfl⟩ F.entry_tuple_mul (F.args_tuple_mul_2 _ _) (tuple_mul1 l its.toArray n dd sl t) ⟨ho, ?_⟩⟩)
  exact ⟨.ref l, H, I, rfl, q⟩
def mulTR : R3 := fun x y h Q => match x, y with
  | .tup xs, .int k => (xs ≠ [] ∧ 1 ≤ k ∧ k ≤ 1000 ∧ xs.length ≤ 1000) ∧ Q (.tup (List.replicate k.toNat xs).flatten) h
  | _, _ => False
theorem o_mulT : Op3 X (binaryOp .Mult) mulTR := by
  refine ⟨fun x y h Q Q' w q => ?_, _, OpR.or op_repT op_repT1, fun m h H x y v u Q R rx ry q => ?_⟩
  · unfold mulTR at q ⊢
    split at q
    · exact ⟨q.1, w _ _ q.2⟩
    · exact q.elim
  · unfold mulTR at q
    split at q
    next xs k =>
      cases rx with
      | tup sq rr =>
        cases ry
        obtain ⟨⟨h1, h2, h3, h4⟩, q⟩ := q
        by_cases hk : k = 1
        · subst hk
          have e : (List.replicate (Int.toNat 1) xs).flatten = xs := by
            show (List.replicate 1 xs).flatten = xs
            simp
          rw [e] at q
          exact .inr ⟨_, _, rfl, rfl, TH sq, q m H _ .refl R (.tup sq rr)⟩
        · refine .inl ⟨_, k, _, rfl, rfl, TH sq, fun z => h1 ?_, by omega, h3, by rw [← rr.length]; exact h4, fun p hp => ?_⟩
          · have := rr.length
            rw [z] at this
            exact List.eq_nil_of_length_eq_zero this
          · exact q m _ (.ref p) (Step.lay hp) (R.lay hp) (.tup upd_same ((rr.rep k.toNat).step R (Step.lay hp)))
    next => exact q.elim
end
theorem mulTR_q {xs : List D} {k : Int} {h : Sto} {Q : DK} : mulTR (.tup xs) (.int k) h Q = ((xs ≠ [] ∧ 1 ≤ k ∧ k ≤ 1000 ∧ xs.length ≤ 1000) ∧ Q (.tup (List.replicate k.toNat xs).flatten) h) := id rfl
theorem rep_zero {n : Nat} : (D.tup (List.replicate n [D.int 0]).flatten) = wtD (List.replicate n 0) := by
  unfold wtD
  congr 1
  induction n with
  | zero => rfl
  | succ n ih => rw [List.replicate_succ, List.replicate_succ, List.flatten_cons, List.map_cons, ih]; rfl
end F3
set_option maxHeartbeats 1000000
/-! FN: dicts whose keys are ints or texts. -/
namespace F3
open PySem PySem.Spec PyProof.Rows L2
section
variable {κ : Type} [DecidableEq κ]
def valD (kvs : List (κ × D)) (k : κ) : Option D := (kvs.find? fun kv => decide (kv.1 = k)).map (·.2)
def putD (kvs : List (κ × D)) (k : κ) (v : D) : List (κ × D) := if (kvs.any fun kv => decide (kv.1 = k)) = true then kvs.map (fun kv => if kv.1 = k then (kv.1, v) else kv) else kvs ++ [(k, v)]
/-- dicts alike -/
structure RelK (K : PySem.W.Frag) (m : List Addr) (H : Hp) (kvs : List (κ × D)) (vs : List (κ × V)) : Prop where
  keys : vs.map (·.1) = kvs.map (·.1)
  vals : RelDs K m H (kvs.map (·.2)) (vs.map (·.2))
variable {K : PySem.W.Frag} {m : List Addr} {H : Hp}
theorem RelK.cons {p : κ × D} {q : κ × V} {kvs : List (κ × D)} {vs : List (κ × V)} (h1 : q.1 = p.1) (h2 : RelD K m H p.2 q.2) (r : RelK K m H kvs vs) : RelK K m H (p :: kvs) (q :: vs) :=
  ⟨by rw [List.map_cons, List.map_cons, h1, r.keys], .cons h2 r.vals⟩
theorem RelK.uncons {p : κ × D} {kvs : List (κ × D)} {us : List (κ × V)} (r : RelK K m H (p :: kvs) us) : ∃ q vs, us = q :: vs ∧ q.1 = p.1 ∧ RelD K m H p.2 q.2 ∧ RelK K m H kvs vs := by
  obtain ⟨h1, h2⟩ := r
  match us, h1, h2 with
  | q :: vs, h1, .cons a b =>
    simp only [List.map_cons, List.cons.injEq] at h1
    exact ⟨q, vs, rfl, h1.1, a, h1.2, b⟩
theorem RelK.nil_of {us : List (κ × V)} (r : RelK K m H ([] : List (κ × D)) us) : us = [] := by
  have := r.keys
  simpa using this
theorem RelK.val (k : κ) : ∀ {kvs : List (κ × D)} {vs : List (κ × V)}, RelK K m H kvs vs → (valD kvs k = none ∧ valV vs k = none) ∨ ∃ d v, valD kvs k = some d ∧ valV vs k = some v ∧ RelD K m H d v
  | [], _, r => by rw [r.nil_of]; exact .inl ⟨rfl, rfl⟩
  | p :: kvs, _, r => by
    obtain ⟨q, vs, rfl, e, h, r'⟩ := r.uncons
    by_cases hk : p.1 = k
    · exact .inr ⟨p.2, q.2, by simp [valD, List.find?_cons, hk], valV_pos (e.trans hk), h⟩
    · have e1 : valD (p :: kvs) k = valD kvs k := by simp [valD, List.find?_cons, hk]
      rw [e1, valV_neg (by rw [e]; exact hk)]
      exact r'.val k
theorem RelK.any (k : κ) : ∀ {kvs : List (κ × D)} {vs : List (κ × V)}, RelK K m H kvs vs → (kvs.any fun kv => decide (kv.1 = k)) = (vs.any fun kv => decide (kv.1 = k))
  | [], _, r => by rw [r.nil_of]; rfl
  | p :: kvs, _, r => by
    obtain ⟨q, vs, rfl, e, h, r'⟩ := r.uncons
    rw [List.any_cons, List.any_cons, r'.any k, e]
theorem RelK.upd (k : κ) {d : D} {v : V} (hd : RelD K m H d v) : ∀ {kvs : List (κ × D)} {vs : List (κ × V)}, RelK K m H kvs vs → RelK K m H (kvs.map fun kv => if kv.1 = k then (kv.1, d) else kv) (vs.map fun kv => if kv.1 = k then (kv.1, v) else kv)
  | [], _, r => by rw [r.nil_of]; exact ⟨rfl, .nil⟩
  | p :: kvs, _, r => by
    obtain ⟨q, vs, rfl, e, h, r'⟩ := r.uncons
    rw [List.map_cons, List.map_cons]
    refine RelK.cons ?_ ?_ (r'.upd k hd)
    · by_cases hk : p.1 = k
      · rw [if_pos hk, if_pos (e.trans hk)]; exact e
      · rw [if_neg hk, if_neg (by rw [e]; exact hk)]; exact e
    · by_cases hk : p.1 = k
      · rw [if_pos hk, if_pos (e.trans hk)]; exact hd
      · rw [if_neg hk, if_neg (by rw [e]; exact hk)]; exact h
theorem RelK.snoc (k : κ) {d : D} {v : V} (hd : RelD K m H d v) : ∀ {kvs : List (κ × D)} {vs : List (κ × V)}, RelK K m H kvs vs → RelK K m H (kvs ++ [(k, d)]) (vs ++ [(k, v)])
  | [], _, r => by rw [r.nil_of]; exact ⟨rfl, .cons hd .nil⟩
  | p :: kvs, _, r => by
    obtain ⟨q, vs, rfl, e, h, r'⟩ := r.uncons
    exact RelK.cons e h (r'.snoc k hd)
theorem RelK.put (k : κ) {d : D} {v : V} (hd : RelD K m H d v) {kvs : List (κ × D)} {vs : List (κ × V)} (r : RelK K m H kvs vs) : RelK K m H (putD kvs k d) (putK vs k v) := by
  unfold putD putK
  rw [r.any k]
  split
  · exact r.upd k hd
  · exact r.snoc k hd
theorem RelK.step {m' : List Addr} {H' : Hp} {h : Sto} (R : Rep K m h H) (s : Step m H m' H') {kvs : List (κ × D)} {vs : List (κ × V)} (r : RelK K m H kvs vs) : RelK K m' H' kvs vs := ⟨r.keys, r.vals.step R s⟩
theorem RelK.len {kvs : List (κ × D)} {vs : List (κ × V)} (r : RelK K m H kvs vs) : vs.length = kvs.length := by
  have := congrArg List.length r.keys
  simpa using this
end
def keyD : D → Option Key
  | .int i => some (.inl i)
  | .str x => some (.inr x)
  | _ => none
theorem keyD_rel {K : PySem.W.Frag} {m : List Addr} {H : Hp} {d : D} {v : V} {k : Key} (r : RelD K m H d v) (e : keyD d = some k) : v = kV k := by
  cases r <;> simp only [keyD, Option.some.injEq, reduceCtorEq] at e <;> subst e <;> rfl
section
variable {X : Cx}
/-- {} -/
def tDNew : E3 := fun _ h Q => Q (.ref h.length) (h ++ [.dK []])
theorem e3_dnew {pos : Pos} : PE3 X (.Dict [] [] pos) tDNew := by
  refine ⟨PE.weak pe_dnewK fun σ H Q ⟨m, h, ρ, R, S, q⟩ p hp => ?_, fun ρ h Q Q' w q => w _ _ q⟩
  exact q (m ++ [p]) _ (.ref p) (Step.cell hp) (R.snoc hp ⟨[], upd_same, rfl, .nil⟩) (.ref (by rw [← R.len]; simp))
/-- d[k] -/
def dgR : R3 := fun x y h Q => match x with
  | .ref n => match h[n]? with
    | some (.dK kvs) => match keyD y with
      | some k => match valD kvs k with
        | some d => Q d h
        | none => False
      | none => False
    | _ => False
  | _ => False
/-- k in d -/
def dinR : R3 := fun y x h Q => match x with
  | .ref n => match h[n]? with
    | some (.dK kvs) => match keyD y with
      | some k => Q (.bl (valD kvs k).isSome) h
      | none => False
    | _ => False
  | _ => False
def dninR : R3 := fun y x h Q => match x with
  | .ref n => match h[n]? with
    | some (.dK kvs) => match keyD y with
      | some k => Q (.bl (!(valD kvs k).isSome)) h
      | none => False
    | _ => False
  | _ => False
theorem Rep.dk {K : PySem.W.Frag} {m : List Addr} {h : Sto} {H : Hp} {n : Nat} {kvs : List (Key × D)} {v : V} (R : Rep K m h H) (r : RelD K m H (.ref n) v) (e : h[n]? = some (.dK kvs)) : ∃ a vs, v = .ref a ∧ m[n]? = some a ∧ H a = some (.dK vs) ∧ RelK K m H kvs vs := by
  cases r with
  | ref ea =>
    obtain ⟨vs, q, k, r⟩ := R.at_ _ _ _ ea e
    exact ⟨_, vs, rfl, ea, q, k, r⟩
theorem dgR_mono : ∀ x y h (Q Q' : DK), (∀ d h', Q d h' → Q' d h') → dgR x y h Q → dgR x y h Q' := fun x y h Q Q' w q => by
  unfold dgR at q ⊢
  split at q
  · split at q
    · split at q
      · split at q
        · exact w _ _ q
        · exact q.elim
      · exact q.elim
    · exact q.elim
  · exact q.elim
theorem e3_dget {a b : Expr} {ta tb : E3} {pos : Pos} (hu : X.A.units + 64 < cLine) (ha : PE3 X a ta) (hb : PE3 X b tb) (hs : NoSl b := by intro _ _; rfl) : PE3 X (.Subscript a b pos) (tO dgR ta tb) := by
  refine ⟨PE.weak (pe_dget (by omega) ha.pe hb.pe hs) fun σ H Q ⟨m, h, ρ, R, S, q⟩ => ?_, MonoE.op dgR_mono ha.mono hb.mono⟩
  refine LE.bind ha.mono R S q fun m1 H1 v x h1 s1 R1 rx S1 q1 => ?_
  refine LE.bind hb.mono R1 S1 q1 fun m2 H2 u y h2 s2 R2 ry S2 q2 => ?_
  unfold dgR at q2
  split at q2
  next n =>
    split at q2
    next kvs e =>
      split at q2
      next k ek =>
        split at q2
        next d ed =>
          obtain ⟨aa, vs, rfl, em, ea, rk⟩ := R2.dk (rx.step R1 s2) e
          rcases rk.val k with ⟨z, _⟩ | ⟨d', v', e1, e2, rd⟩
          · rw [ed] at z; cases z
          · rw [ed] at e1
            cases e1
            refine ⟨aa, v', rfl, ?_, q2 m2 H2 v' (s1.trans s2) R2 rd⟩
            rw [keyD_rel ry ek, ← e2]
            exact DGet.k ea
        next => exact q2.elim
      next => exact q2.elim
    next => exact q2.elim
  next => exact q2.elim
theorem dinR_mono : ∀ x y h (Q Q' : DK), (∀ d h', Q d h' → Q' d h') → dinR x y h Q → dinR x y h Q' := fun x y h Q Q' w q => by
  unfold dinR at q ⊢
  split at q
  · split at q
    · split at q
      · exact w _ _ q
      · exact q.elim
    · exact q.elim
  · exact q.elim
theorem din_lift {ta tb : E3} (ma : MonoE ta) (mb : MonoE tb) {σ : L2.St} {H : Hp} {Q : VK} (q : LE X.K (tO dinR ta tb) σ H Q) : tDIn (LE X.K ta) (LE X.K tb) σ H Q := by
  obtain ⟨m, h, ρ, R, S, q⟩ := q
  refine LE.bind ma R S q fun m1 H1 v x h1 s1 R1 rx S1 q1 => ?_
  refine LE.bind mb R1 S1 q1 fun m2 H2 u y h2 s2 R2 ry S2 q2 => ?_
  unfold dinR at q2
  split at q2
  next n =>
    split at q2
    next kvs e =>
      split at q2
      next k ek =>
        obtain ⟨aa, vs, rfl, em, ea, rk⟩ := R2.dk ry e
        refine ⟨aa, valV vs k, rfl, ?_, ?_⟩
        · rw [keyD_rel (rx.step R1 s2) ek]
          exact DGet.k ea
        · have : (valV vs k).isSome = (valD kvs k).isSome := by
            rcases rk.val k with ⟨z1, z2⟩ | ⟨d', v', e1, e2, rd⟩
            · rw [z1, z2]; rfl
            · rw [e1, e2]; rfl
          rw [this]
          exact q2 m2 H2 _ (s1.trans s2) R2 (.bl _)
      next => exact q2.elim
    next => exact q2.elim
  next => exact q2.elim
theorem e3_din {a b : Expr} {ta tb : E3} {pos : Pos} (hu : X.A.units + 64 < cLine) (ha : PE3 X a ta) (hb : PE3 X b tb) (hm : behindInMarks .In b = false := by first | exact nomark _ | with_unfolding_all rfl) : PE3 X (.Compare a [.In] [b] pos) (tO dinR ta tb) :=
  ⟨PE.weak (pe_cmp (pc_din (by omega) ha.pe hb.pe) hm) fun σ H Q q => din_lift ha.mono hb.mono q, MonoE.op dinR_mono ha.mono hb.mono⟩
theorem b3_din {a b : Expr} {ta tb : E3} {pos : Pos} (hu : X.A.units + 64 < cLine) (ha : PE3 X a ta) (hb : PE3 X b tb) (hm : behindInMarks .In b = false := by first | exact nomark _ | with_unfolding_all rfl) : PB3 X (.Compare a [.In] [b] pos) (tT (tO dinR ta tb)) := by
  have mo : MonoE (tO dinR ta tb) := MonoE.op dinR_mono ha.mono hb.mono
  exact ⟨PT.weak (pt_cmp (pc_din (by omega) ha.pe hb.pe) hm) fun σ H Q q => din_lift ha.mono hb.mono (tT_lift mo q), MonoB.tT mo⟩
/-- d[k] = v -/
def cDPut (td ti tv : E3) : C3 := fun D ρ h => tv ρ h fun v h1 => td ρ h1 fun x h2 => ti ρ h2 fun y h3 => match x with
  | .ref n => match h3[n]? with
    | some (.dK kvs) => match keyD y with
      | some k => kvs.length < 16777216 ∧ D.nx ρ (h3.set n (.dK (putD kvs k v)))
      | none => False
    | _ => False
  | _ => False
theorem c3_dput {o i value : Expr} {td ti tv : E3} {pos pos' : Pos} (hu : X.A.units + 64 < cLine) (ho : PE3 X o td) (hi : PE3 X i ti) (hv : PE3 X value tv) (hs : swapsWith value (some (.Subscript o i pos')) pos.line X.env = pure false := by rfl) :
    PC3 X (.Assign [.Subscript o i pos'] value pos) (cDPut td ti tv) := by
  refine ⟨PS.weak (ps_dput (by omega) ho.pe hi.pe hv.pe hs) fun D σ H ⟨m, h, ρ, R, S, q⟩ => ?_, fun D D' ρ h w q => hv.mono _ _ _ _ (fun v h1 q1 => ho.mono _ _ _ _ (fun x h2 q2 => hi.mono _ _ _ _ (fun y h3 q3 => ?_) q2) q1) q⟩
  · refine LE.bind hv.mono R S q fun m1 H1 v d h1 s1 R1 rd S1 q1 => ?_
    refine LE.bind ho.mono R1 S1 q1 fun m2 H2 u x h2 s2 R2 rx S2 q2 => ?_
    refine LE.bind hi.mono R2 S2 q2 fun m3 H3 w y h3 s3 R3 ry S3 q3 => ?_
    split at q3
    next n =>
      split at q3
      next kvs e =>
        split at q3
        next k ek =>
          obtain ⟨a, vs, rfl, em, ea, rk⟩ := R3.dk (rx.step R2 s3) e
          have hm : a ∈ m3 := List.mem_of_getElem? em
          have rd3 := (rd.step R1 s2).step R2 s3
          have rp := (rk.put k rd3).step R3 (Step.put (o := .dK (putK vs k v)) hm)
          refine ⟨a, _, rfl, by rw [keyD_rel ry ek]; exact DPut.k ea (by rw [rk.len, sizeLine_eq]; exact q3.1), ?_⟩
          exact q3.2 m3 _ σ (((s1.trans s2).trans s3).trans (Step.put hm)) (R3.put em ⟨_, upd_same, rp.keys, rp.vals⟩) (S3.step R3 (Step.put hm))
        next => exact q3.elim
      next => exact q3.elim
    next => exact q3.elim
  · split at q3
    · split at q3
      · split at q3
        · exact ⟨q3.1, w.nx _ _ q3.2⟩
        · exact q3.elim
      · exact q3.elim
    · exact q3.elim
end
end F3
set_option maxHeartbeats 1000000
/-! FX: dicts of any keys: reading, .get, keys that are tuples, walking over the keys (the dict is shut meanwhile). -/
namespace F3
open PySem PySem.Spec PyProof.Rows L2
def keysD : List D → Option (List Key)
  | [] => some []
  | d :: ds => match keyD d with
    | some k => (keysD ds).map (k :: ·)
    | none => none
def keyT : D → Option (List Key)
  | .tup xs => keysD xs
  | _ => none
def kD : Key → D
  | .inl i => .int i
  | .inr x => .str x
theorem keyD_kD (k : Key) : keyD (kD k) = some k := by cases k <;> rfl
theorem keysD_kD : ∀ ks : List Key, keysD (ks.map kD) = some ks
  | [] => rfl
  | k :: ks => by simp [keysD, keyD_kD, keysD_kD ks]
theorem keysD_int : ∀ ns : List Int, keysD (ns.map D.int) = some (ns.map Sum.inl)
  | [] => rfl
  | n :: ns => by
    have := keysD_int ns
    simp [keysD, keyD, this]
theorem keysD_rel {K : PySem.W.Frag} {m : List Addr} {H : Hp} : ∀ {ds : List D} {vs : List V} {ks : List Key}, RelDs K m H ds vs → keysD ds = some ks → vs = ks.map kV
  | [], _, _, .nil, e => by cases e; rfl
  | d :: ds, _, _, .cons r t, e => by
    simp only [keysD] at e
    split at e
    next k ek =>
      obtain ⟨ks, e1, rfl⟩ := Option.map_eq_some_iff.mp e
      rw [keyD_rel r ek, keysD_rel t e1]
      rfl
    next => cases e
theorem keyT_rel {K : PySem.W.Frag} {m : List Addr} {H : Hp} {d : D} {v : V} {ks : List Key} (r : RelD K m H d v) (e : keyT d = some ks) : ∃ b, v = .ref b ∧ H b = some (.tup (ks.map kV)) := by
  cases r with
  | tup sq r => exact ⟨_, rfl, by rw [← keysD_rel r e]; exact sq⟩
  | _ => simp [keyT] at e
theorem rel_kD {K : PySem.W.Frag} {m : List Addr} {H : Hp} : ∀ k : Key, RelD K m H (kD k) (kV k)
  | .inl i => .int i
  | .inr x => .str x
theorem rel_kDs {K : PySem.W.Frag} {m : List Addr} {H : Hp} : ∀ ks : List Key, RelDs K m H (ks.map kD) (ks.map kV)
  | [] => .nil
  | k :: ks => .cons (rel_kD k) (rel_kDs ks)
/-- what a dict's cell tells of a key -/
def dvC (c : Option Cell) (y : D) : Option (Option D) := match c with
  | some (.dK kvs) => (keyD y).map (valD kvs)
  | some (.zK _ _ kvs) => (keyD y).map (valD kvs)
  | some (.dT kvs) => (keyT y).map (valD kvs)
  | some (.zT _ _ kvs) => (keyT y).map (valD kvs)
  | _ => none
def isDC (c : Option Cell) : Bool := match c with
  | some (.dK _) => true
  | some (.zK _ _ _) => true
  | some (.dT _) => true
  | some (.zT _ _ _) => true
  | _ => false
inductive RelO (K : PySem.W.Frag) (m : List Addr) (H : Hp) : Option D → Option V → Prop
  | no : RelO K m H none none
  | so {d : D} {v : V} : RelD K m H d v → RelO K m H (some d) (some v)
theorem RelK.relO {κ : Type} [DecidableEq κ] {K : PySem.W.Frag} {m : List Addr} {H : Hp} {kvs : List (κ × D)} {vs : List (κ × V)} (r : RelK K m H kvs vs) (k : κ) : RelO K m H (valD kvs k) (valV vs k) := by
  rcases r.val k with ⟨z1, z2⟩ | ⟨d, v, e1, e2, rd⟩
  · rw [z1, z2]; exact .no
  · rw [e1, e2]; exact .so rd
theorem RelO.getD {K : PySem.W.Frag} {m : List Addr} {H : Hp} {o : Option D} {ov : Option V} (r : RelO K m H o ov) {d : D} {v : V} (q : RelD K m H d v) : RelD K m H (o.getD d) (ov.getD v) := by
  cases r with
  | no => exact q
  | so r => exact r
theorem RelO.isSome {K : PySem.W.Frag} {m : List Addr} {H : Hp} {o : Option D} {ov : Option V} (r : RelO K m H o ov) : ov.isSome = o.isSome := by
  cases r <;> rfl
theorem isDC_lift {K : PySem.W.Frag} {m : List Addr} {h : Sto} {H : Hp} {n : Nat} {a : Addr} (R : Rep K m h H) (em : m[n]? = some a) (e : isDC h[n]? = true) : IsD H a := by
  unfold isDC at e
  split at e
  next e2 => obtain ⟨vs, q, _⟩ := R.at_ _ _ _ em e2; exact .inl ⟨vs, .inl q⟩
  next o vs kvs e2 => obtain ⟨q, _⟩ := R.at_ _ _ _ em e2; exact .inl ⟨vs, .inr ⟨o, q⟩⟩
  next e2 => obtain ⟨vs, q, _⟩ := R.at_ _ _ _ em e2; exact .inr ⟨vs, .inl q⟩
  next o vs kvs e2 => obtain ⟨q, _⟩ := R.at_ _ _ _ em e2; exact .inr ⟨vs, .inr ⟨o, q⟩⟩
  next => cases e
theorem dvC_lift {K : PySem.W.Frag} {m : List Addr} {h : Sto} {H : Hp} {n : Nat} {a : Addr} {y : D} {u : V} {o : Option D} (R : Rep K m h H) (em : m[n]? = some a) (ry : RelD K m H y u) (e : dvC h[n]? y = some o) : ∃ ov, DGet H a u ov ∧ RelO K m H o ov := by
  unfold dvC at e
  split at e
  next kvs e2 =>
    obtain ⟨k, ek, rfl⟩ := Option.map_eq_some_iff.mp e
    obtain ⟨vs, q, k1, r⟩ := R.at_ _ _ _ em e2
    exact ⟨valV vs k, .inl ⟨vs, k, .inl q, keyD_rel ry ek, rfl⟩, RelK.relO ⟨k1, r⟩ k⟩
  next ob vs kvs e2 =>
    obtain ⟨k, ek, rfl⟩ := Option.map_eq_some_iff.mp e
    obtain ⟨q, k1, r⟩ := R.at_ _ _ _ em e2
    exact ⟨valV vs k, .inl ⟨vs, k, .inr ⟨ob, q⟩, keyD_rel ry ek, rfl⟩, RelK.relO ⟨k1, r⟩ k⟩
  next kvs e2 =>
    obtain ⟨k, ek, rfl⟩ := Option.map_eq_some_iff.mp e
    obtain ⟨vs, q, k1, r⟩ := R.at_ _ _ _ em e2
    obtain ⟨b, e3, e4⟩ := keyT_rel ry ek
    exact ⟨valV vs k, .inr ⟨vs, k, b, .inl q, e3, e4, rfl⟩, RelK.relO ⟨k1, r⟩ k⟩
  next ob vs kvs e2 =>
    obtain ⟨k, ek, rfl⟩ := Option.map_eq_some_iff.mp e
    obtain ⟨q, k1, r⟩ := R.at_ _ _ _ em e2
    obtain ⟨b, e3, e4⟩ := keyT_rel ry ek
    exact ⟨valV vs k, .inr ⟨vs, k, b, .inr ⟨ob, q⟩, e3, e4, rfl⟩, RelK.relO ⟨k1, r⟩ k⟩
  next => cases e
section
variable {X : Cx}
/-- {} of tuple keys -/
def tDNewT3 : E3 := fun _ h Q => Q (.ref h.length) (h ++ [.dT []])
theorem e3_dnewT {pos : Pos} : PE3 X (.Dict [] [] pos) tDNewT3 := by
  refine ⟨PE.weak pe_dnewT fun σ H Q ⟨m, h, ρ, R, S, q⟩ p hp => ?_, fun ρ h Q Q' w q => w _ _ q⟩
  exact q (m ++ [p]) _ (.ref p) (Step.cell hp) (R.snoc hp ⟨[], upd_same, rfl, .nil⟩) (.ref (by rw [← R.len]; simp))
/-- d[k] -/
def dgA : R3 := fun x y h Q => match x with
  | .ref n => match dvC h[n]? y with
    | some (some d) => Q d h
    | _ => False
  | _ => False
theorem dgA_mono : ∀ x y h (Q Q' : DK), (∀ d h', Q d h' → Q' d h') → dgA x y h Q → dgA x y h Q' := fun x y h Q Q' w q => by
  unfold dgA at q ⊢
  split at q
  · split at q
    · exact w _ _ q
    · exact q.elim
  · exact q.elim
theorem e3_dgetA {a b : Expr} {ta tb : E3} {pos : Pos} (hu : X.A.units + 64 < cLine) (ha : PE3 X a ta) (hb : PE3 X b tb) (hs : NoSl b := by intro _ _; rfl) : PE3 X (.Subscript a b pos) (tO dgA ta tb) := by
  refine ⟨PE.weak (pe_dget (by omega) ha.pe hb.pe hs) fun σ H Q ⟨m, h, ρ, R, S, q⟩ => ?_, MonoE.op dgA_mono ha.mono hb.mono⟩
  refine LE.bind ha.mono R S q fun m1 H1 v x h1 s1 R1 rx S1 q1 => ?_
  refine LE.bind hb.mono R1 S1 q1 fun m2 H2 u y h2 s2 R2 ry S2 q2 => ?_
  unfold dgA at q2
  split at q2
  next n =>
    split at q2
    next d ed =>
      cases rx with
      | ref em =>
        obtain ⟨ov, g, ro⟩ := dvC_lift R2 (s2.get em) ry ed
        cases ro with
        | so rd => exact ⟨_, _, rfl, g, q2 m2 H2 _ (s1.trans s2) R2 rd⟩
    next => exact q2.elim
  next => exact q2.elim
/-- d.get(k, x) -/
def tDG2 (td ty tx : E3) : E3 := fun ρ h Q => td ρ h fun x h1 => match x with
  | .ref n => isDC h1[n]? = true ∧ ty ρ h1 fun y h2 => tx ρ h2 fun z h3 => match dvC h3[n]? y with
    | some o => Q (o.getD z) h3
    | none => False
  | _ => False
theorem e3_dget2 {o e f : Expr} {apos cpos : Pos} {td ty tx : E3} (hu : X.A.units + 64 < cLine) (ho : PE3 X o td) (he : PE3 X e ty) (hf : PE3 X f tx) (mm : M2 X o "get" apos e f cpos) : PE3 X (.Call (.Attribute o "get" apos) [e, f] [] cpos) (tDG2 td ty tx) := by
  refine ⟨PE.weak (pe_dget2 (by omega) ho.pe he.pe hf.pe mm) fun σ H Q ⟨m, h, ρ, R, S, q⟩ => ?_, fun ρ h Q Q' w q => ho.mono _ _ _ _ (fun x h1 q1 => ?_) q⟩
  · refine LE.bind ho.mono R S q fun m1 H1 v x h1 s1 R1 rx S1 q1 => ?_
    split at q1
    next n =>
      obtain ⟨hd, q1⟩ := q1
      cases rx with
      | ref em =>
        refine ⟨_, rfl, isDC_lift R1 em hd, ?_⟩
        refine LE.bind he.mono R1 S1 q1 fun m2 H2 u y h2 s2 R2 ry S2 q2 => ?_
        refine LE.bind hf.mono R2 S2 q2 fun m3 H3 w z h3 s3 R3 rz S3 q3 => ?_
        split at q3
        next oo eo =>
          obtain ⟨ov, g, ro⟩ := dvC_lift R3 (s3.get (s2.get em)) (ry.step R2 s3) eo
          exact ⟨ov, g, q3 m3 H3 _ ((s1.trans s2).trans s3) R3 (ro.getD rz)⟩
        next => exact q3.elim
    next => exact q1.elim
  · split at q1
    · refine ⟨q1.1, he.mono _ _ _ _ (fun y h2 q2 => hf.mono _ _ _ _ (fun z h3 q3 => ?_) q2) q1.2⟩
      split at q3
      · exact w _ _ q3
      · exact q3.elim
    · exact q1.elim
/-- d[k] = v, of tuple keys -/
def cDPutT (td ti tv : E3) : C3 := fun D ρ h => tv ρ h fun v h1 => td ρ h1 fun x h2 => ti ρ h2 fun y h3 => match x with
  | .ref n => match h3[n]? with
    | some (.dT kvs) => match keyT y with
      | some k => kvs.length < 16777216 ∧ D.nx ρ (h3.set n (.dT (putD kvs k v)))
      | none => False
    | _ => False
  | _ => False
theorem c3_dputT {o i value : Expr} {td ti tv : E3} {pos pos' : Pos} (hu : X.A.units + 64 < cLine) (ho : PE3 X o td) (hi : PE3 X i ti) (hv : PE3 X value tv) (hs : swapsWith value (some (.Subscript o i pos')) pos.line X.env = pure false := by rfl) :
    PC3 X (.Assign [.Subscript o i pos'] value pos) (cDPutT td ti tv) := by
  refine ⟨PS.weak (ps_dput (by omega) ho.pe hi.pe hv.pe hs) fun D σ H ⟨m, h, ρ, R, S, q⟩ => ?_, fun D D' ρ h w q => hv.mono _ _ _ _ (fun v h1 q1 => ho.mono _ _ _ _ (fun x h2 q2 => hi.mono _ _ _ _ (fun y h3 q3 => ?_) q2) q1) q⟩
  · refine LE.bind hv.mono R S q fun m1 H1 v d h1 s1 R1 rd S1 q1 => ?_
    refine LE.bind ho.mono R1 S1 q1 fun m2 H2 u x h2 s2 R2 rx S2 q2 => ?_
    refine LE.bind hi.mono R2 S2 q2 fun m3 H3 w y h3 s3 R3 ry S3 q3 => ?_
    split at q3
    next n =>
      split at q3
      next kvs e =>
        split at q3
        next k ek =>
          cases rx with
          | @ref _ a em0 =>
            have em := s3.get em0
            obtain ⟨vs, ea, k1, r⟩ := R3.at_ _ _ _ em e
            have rk : RelK X.K m3 H3 kvs vs := ⟨k1, r⟩
            have hm : a ∈ m3 := List.mem_of_getElem? em
            have rd3 := (rd.step R1 s2).step R2 s3
            have rp := (rk.put k rd3).step R3 (Step.put (o := .dT (putK vs k v)) hm)
            obtain ⟨b, e3, e4⟩ := keyT_rel ry ek
            refine ⟨a, _, rfl, by rw [e3]; exact DPut.t ea e4 (by rw [rk.len, sizeLine_eq]; exact q3.1), ?_⟩
            exact q3.2 m3 _ σ (((s1.trans s2).trans s3).trans (Step.put hm)) (R3.put em ⟨_, upd_same, rp.keys, rp.vals⟩) (S3.step R3 (Step.put hm))
        next => exact q3.elim
      next => exact q3.elim
    next => exact q3.elim
  · split at q3
    · split at q3
      · split at q3
        · exact ⟨q3.1, w.nx _ _ q3.2⟩
        · exact q3.elim
      · exact q3.elim
    · exact q3.elim
/-- for k in d: the keys, while the dict is shut -/
def iKeys3 (t : E3) : I3 := fun ρ h Q => t ρ h fun x h1 => match x with
  | .ref n => match h1[n]? with
    | some (.zT o ws kvs) => Q (kvs.map fun kv => .tup (kv.1.map kD)) (fun h' => h'[n]? = some (.zT o ws kvs)) h1
    | some (.zK o ws kvs) => Q (kvs.map fun kv => kD kv.1) (fun h' => h'[n]? = some (.zK o ws kvs)) h1
    | _ => False
  | _ => False
theorem keys_at {κ : Type} {kvs : List (κ × D)} {ws : List (κ × V)} (k1 : ws.map (·.1) = kvs.map (·.1)) {i : Nat} {p : κ × D} (e : kvs[i]? = some p) {q : κ × V} (e2 : ws[i]? = some q) : q.1 = p.1 := by
  have := congrArg (·[i]?) k1
  simp only [List.getElem?_map, e, e2, Option.map_some, Option.some.injEq] at this
  exact this
theorem serves_keysT {K : PySem.W.Frag} {m : List Addr} {H : Hp} {n : Nat} {a : Addr} {o : Obj} {ws : List (List Key × V)} {kvs : List (List Key × D)} (em : m[n]? = some a) :
    Serves K (Itkt a o ws) (kvs.map fun kv => .tup (kv.1.map kD)) (fun h' => h'[n]? = some (.zT o ws kvs)) m H := by
  refine ⟨fun m1 H1 h1 s1 R1 st i x hx => ?_, fun m1 H1 h1 s1 R1 st i hi => ?_⟩
  · obtain ⟨q, k1, r⟩ := R1.at_ n a _ (s1.get em) st
    rw [List.getElem?_map] at hx
    obtain ⟨p, ep, rfl⟩ := Option.map_eq_some_iff.mp hx
    have hl : ws.length = kvs.length := by simpa using congrArg List.length k1
    have hi : i < kvs.length := (List.getElem?_eq_some_iff.mp ep).1
    refine ⟨⟨q, by omega⟩, fun v' H' ⟨e, k, v, b, e1, e2, e3⟩ => ?_⟩
    subst e; subst e2
    have := keys_at k1 ep e1
    refine ⟨.refl, R1, .tup e3 ?_⟩
    rw [← this]
    exact rel_kDs k
  · obtain ⟨q, k1, r⟩ := R1.at_ n a _ (s1.get em) st
    have hl : ws.length = kvs.length := by simpa using congrArg List.length k1
    rw [List.length_map] at hi
    exact ⟨q, by omega⟩
theorem serves_keysK {K : PySem.W.Frag} {m : List Addr} {H : Hp} {n : Nat} {a : Addr} {o : Obj} {ws : List (Key × V)} {kvs : List (Key × D)} (em : m[n]? = some a) :
    Serves K (Itk a o ws) (kvs.map fun kv => kD kv.1) (fun h' => h'[n]? = some (.zK o ws kvs)) m H := by
  refine ⟨fun m1 H1 h1 s1 R1 st i x hx => ?_, fun m1 H1 h1 s1 R1 st i hi => ?_⟩
  · obtain ⟨q, k1, r⟩ := R1.at_ n a _ (s1.get em) st
    rw [List.getElem?_map] at hx
    obtain ⟨p, ep, rfl⟩ := Option.map_eq_some_iff.mp hx
    have hl : ws.length = kvs.length := by simpa using congrArg List.length k1
    have hi : i < kvs.length := (List.getElem?_eq_some_iff.mp ep).1
    refine ⟨⟨q, by omega⟩, fun v' H' ⟨e, k, v, e1, e2⟩ => ?_⟩
    subst e; subst e2
    have := keys_at k1 ep e1
    refine ⟨.refl, R1, ?_⟩
    rw [← this]
    exact rel_kD k
  · obtain ⟨q, k1, r⟩ := R1.at_ n a _ (s1.get em) st
    have hl : ws.length = kvs.length := by simpa using congrArg List.length k1
    rw [List.length_map] at hi
    exact ⟨q, by omega⟩
theorem i3_keys {tg l : Expr} {t : E3} (hl : PE3 X l t) : PI3 X tg l (iKeys3 t) := by
  refine ⟨PI.weak (pi_keys hl.pe) fun σ H Q ⟨m, h, ρ, R, S, q⟩ => ?_, fun ρ h Q Q' w q => hl.mono _ _ _ _ (fun x h1 q1 => ?_) q⟩
  · refine LE.bind hl.mono R S q fun m1 H1 v x h1 s1 R1 rx S1 q1 => ?_
    split at q1
    next n =>
      cases rx with
      | @ref _ a em =>
        split at q1
        next o ws kvs e =>
          obtain ⟨q, _⟩ := R1.at_ _ _ _ em e
          exact ⟨a, o, rfl, .inr ⟨ws, q, q1 m1 H1 _ s1 R1 (serves_keysT em)⟩⟩
        next o ws kvs e =>
          obtain ⟨q, _⟩ := R1.at_ _ _ _ em e
          exact ⟨a, o, rfl, .inl ⟨ws, q, q1 m1 H1 _ s1 R1 (serves_keysK em)⟩⟩
        next => exact q1.elim
    next => exact q1.elim
  · split at q1
    · split at q1
      · exact w _ _ _ q1
      · exact w _ _ _ q1
      · exact q1.elim
    · exact q1.elim
/-- shut the dict that the local name i holds while the expression runs -/
def lkX (i : Nat) (t : A3) : A3 := fun ρ h Q => match ρ[i]? with
  | some (some (.ref n)) => match h[n]? with
    | some (.dT kvs) => ∀ o ws, t ρ (h.set n (.zT o ws kvs)) fun xs h' => h'[n]? = some (.zT o ws kvs) ∧ Q xs (h'.set n (.dT kvs))
    | some (.dK kvs) => ∀ o ws, t ρ (h.set n (.zK o ws kvs)) fun xs h' => h'[n]? = some (.zK o ws kvs) ∧ Q xs (h'.set n (.dK kvs))
    | _ => False
  | _ => False
theorem x3_lock {e : Expr} {t : A3} (i : Nat) (hx : PX3 X e t) : PX3 X e (lkX i t) := by
  refine ⟨PE.weak (pe_lock hx.pe) fun σ H Q ⟨m, h, ρ, R, S, q⟩ => ?_, fun ρ h Q Q' w q => ?_⟩
  · unfold lkX at q
    split at q
    next n en =>
      obtain ⟨v, ev, rv⟩ := S.2 _ _ en
      cases rv with
      | @ref _ a em =>
        have hm : a ∈ m := List.mem_of_getElem? em
        split at q
        next kvs e =>
          obtain ⟨ws, ea, k1, r⟩ := R.at_ _ _ _ em e
          refine ⟨a, .dT ws, ea, trivial, fun od => ?_⟩
          have sp := Step.put (m := m) (H := H) (o := .frz od (.dT ws)) hm
          refine ⟨m, h.set n (.zT od ws kvs), ρ, R.put em ⟨upd_same, k1, r.step R sp⟩, S.step R sp, hx.mono _ _ _ _ (fun xs h' q1 m' H' p vs s' R' ep np npm rx => ?_) (q od ws)⟩
          obtain ⟨e1, q2⟩ := q1
          have em' := s'.get em
          have hm' : a ∈ m' := List.mem_of_getElem? em'
          obtain ⟨ea', k1', r'⟩ := R'.at_ _ _ _ em' e1
          have sp' := Step.put (m := m') (H := H') (o := .dT ws) hm'
          have nap : p ≠ a := fun z => npm (z ▸ hm')
          refine ⟨ea', q2 m' _ p vs (sp.trans (s'.trans sp')) (R'.put em' ⟨ws, upd_same, k1', r'.step R' sp'⟩) (by rw [upd_ne nap]; exact ep) ?_ npm (rx.step R' sp')⟩
          rw [upd_ne nap] at np; exact np
        next kvs e =>
          obtain ⟨ws, ea, k1, r⟩ := R.at_ _ _ _ em e
          refine ⟨a, .dK ws, ea, trivial, fun od => ?_⟩
          have sp := Step.put (m := m) (H := H) (o := .frz od (.dK ws)) hm
          refine ⟨m, h.set n (.zK od ws kvs), ρ, R.put em ⟨upd_same, k1, r.step R sp⟩, S.step R sp, hx.mono _ _ _ _ (fun xs h' q1 m' H' p vs s' R' ep np npm rx => ?_) (q od ws)⟩
          obtain ⟨e1, q2⟩ := q1
          have em' := s'.get em
          have hm' : a ∈ m' := List.mem_of_getElem? em'
          obtain ⟨ea', k1', r'⟩ := R'.at_ _ _ _ em' e1
          have sp' := Step.put (m := m') (H := H') (o := .dK ws) hm'
          have nap : p ≠ a := fun z => npm (z ▸ hm')
          refine ⟨ea', q2 m' _ p vs (sp.trans (s'.trans sp')) (R'.put em' ⟨ws, upd_same, k1', r'.step R' sp'⟩) (by rw [upd_ne nap]; exact ep) ?_ npm (rx.step R' sp')⟩
          rw [upd_ne nap] at np; exact np
        next => exact q.elim
    next => exact q.elim
  · unfold lkX at q ⊢
    split at q
    · split at q
      · exact fun o ws => hx.mono _ _ _ _ (fun xs h' q1 => ⟨q1.1, w _ _ q1.2⟩) (q o ws)
      · exact fun o ws => hx.mono _ _ _ _ (fun xs h' q1 => ⟨q1.1, w _ _ q1.2⟩) (q o ws)
      · exact q.elim
    · exact q.elim
end
end F3
set_option maxHeartbeats 1000000
/-! FY: sorted(set(tuples of ints)), of any length and sign. -/
namespace F3
open PySem PySem.Spec PyProof.Rows L2
theorem dataLe_tups {β : Type} (x : β → List Int) : PySem.W.dataLe false (fun b => PyData.tuple ((x b).map .int)) = fun p q => decide (x p ≤ x q) := by
  funext p q
  have e : PySem.W.dataLe false (fun b => PyData.tuple ((x b).map .int)) p q = (!PySem.W.dataLt (.tuple ((x q).map .int)) (.tuple ((x p).map .int))) := rfl
  rw [e, PySem.W.dataLt_tuple]
  show (!PySem.W.rowLt ((x q).map .int) ((x p).map .int)) = _
  rw [PySem.W.dataLt_ints]
  by_cases h : x q < x p
  · have h' : ¬ x p ≤ x q := fun r => List.not_lt.mpr r h
    simp [h, h']
  · have h' : x p ≤ x q := List.not_lt.mp h
    simp [h, h']
theorem reads_ints {h : Heap} : ∀ {vs : List Value} {ns : List Int}, IntsAre vs ns → ReadsAll h vs (ns.map .int) []
  | _, _, .nil => .nil
  | _, _, .cons n t r => by
    have := ReadsAll.cons (Reads.int (h := h) n t) (reads_ints r)
    simpa using this
theorem tup_reads {h : Heap} {v : Value} {ns : List Int} (x : TS.TupInts h v ns) : Reads h v (.tuple (ns.map .int)) [] := by
  obtain ⟨b, items, rfl, ⟨o, ho, hc, n, hd⟩, hi⟩ := x
  exact .tuple ho hc hd (reads_ints hi)
theorem each_refs : ∀ L : List (Addr × List Int), PySem.W.EachIs (fun v (q : Addr × List Int) => v = Value.ref q.1) (L.map fun q => Value.ref q.1) L
  | [] => .nil
  | q :: L => .cons rfl (each_refs L)
theorem refs_each : ∀ {vs : List Value} {L : List (Addr × List Int)}, PySem.W.EachIs (fun v (q : Addr × List Int) => v = Value.ref q.1) vs L → vs = L.map fun q => Value.ref q.1
  | _, _, .nil => rfl
  | _, _, .cons a b => by rw [a, refs_each b]; rfl
section
variable {P : Program} {w : World} {A : Around} {E : Value → Shared → Prop} {s : Shared}
theorem sorted_setD {a : Addr} {L : List (Addr × List Int)} {es : Array (Int × Value)} {ep : Nat} {t : SetTable} {Q : Value → Shared → Prop} (R : SetTR P w s.heap a L es ep t) (hh : A.handled = none) (hu : A.units + 64 < cLine)
    (hB : ∀ p ∈ L, p.2 ≠ [])
    (hQ : ∀ s' p (out : Array Value) (c : Nat) (L' : List (Addr × List Int)), (∀ b o, s.heap.get? b = some o → s'.heap.get? b = some o) → s'.gens = s.gens → s'.os = s.os → s.heap.objs.size ≤ p →
      s'.heap.get? p = some (seqObj "list" out c) → out.toList = L'.map (fun q => Value.ref q.1) → L'.Perm L → L'.Pairwise (fun q r => q.2 ≤ r.2) → Q (.ref p) s') :
    wpAny (model P w) A (call (.builtin "sorted") [.ref a]) Q E s := by
  obtain ⟨o, ho, hex, hd⟩ := R.ob
  have hsz := R.size
  have hfew := R.few
  refine Calls.call_function_entry kind_sorted plain_sorted entry_sorted (args_sorted1 _) ?_
  unfold Builtin.«sorted»
  refine wpAny_bind (m := checkCount "sorted" 1 1 _) (wpAny_pure ?_)
  refine wpAny_bind (collect_set (A := A.in1) hh ⟨o, ho, hex.1, hd⟩ R.fits (by unfold scanBound; omega) R.tab.ris R.led fun s1 vs k1 hz g1 o1 pm => ?_)
  have hes : es.toList.map (·.2) = L.map fun q => Value.ref q.1 := by
    rw [R.rows]
    unfold rowsOf
    rw [List.map_map] <;> rfl
  rw [hes] at pm
  have ord : ∀ vs : List Value, (∀ v ∈ vs, ∃ q ∈ L, v = Value.ref q.1) → ∃ L1 : List (Addr × List Int), vs = L1.map (fun q => Value.ref q.1) ∧ ∀ q ∈ L1, q ∈ L := by
    intro vs
    induction vs with
    | nil => intro _; exact ⟨[], rfl, fun q hq => (by cases hq)⟩
    | cons v vs ih =>
      intro hv
      obtain ⟨q, hq, e⟩ := hv v List.mem_cons_self
      obtain ⟨L1, e1, hs⟩ := ih fun u hu => hv u (List.mem_cons_of_mem _ hu)
      refine ⟨q :: L1, by rw [List.map_cons, e, e1], fun r hr => ?_⟩
      rcases List.mem_cons.mp hr with z | z
      · rw [z]; exact hq
      · exact hs r z
  have one : ∀ q ∈ L, ∀ r ∈ L, q.1 = r.1 → q = r := fun q hq r hr e => by
    have a1 := R.tup q hq
    have a2 := R.tup r hr
    rw [e] at a1
    have e2 : q.2 = r.2 := a1.inj a2
    exact Prod.ext e e2
  have perm_of : ∀ L1 : List (Addr × List Int), (∀ q ∈ L1, q ∈ L) → (L1.map (fun q => Value.ref q.1)).Perm (L.map fun q => Value.ref q.1) → L1.Perm L := by
    intro L1 hs pm1
    have nL : L.Nodup := nodup_of_map R.nd
    have nref : (L.map fun q => Value.ref q.1).Nodup := by
      refine List.pairwise_map.mpr (List.Pairwise.imp_of_mem (fun {q r} hq hr hne e => ?_) nL)
      injection e with e
      exact hne (one q hq r hr e)
    have n1 : L1.Nodup := nodup_of_map (pm1.nodup_iff.mpr nref)
    refine (List.perm_ext_iff_of_nodup n1 nL).mpr fun q => ⟨hs q, fun hq => ?_⟩
    have hm : Value.ref q.1 ∈ L1.map (fun q => Value.ref q.1) := pm1.mem_iff.mpr (List.mem_map.mpr ⟨q, hq, rfl⟩)
    obtain ⟨r, hr, e⟩ := List.mem_map.mp hm
    injection e with e
    rw [← one r (hs r hr) q hq e]
    exact hr
  have hvl : vs.length < 64 := by rw [pm.length_eq, List.length_map]; exact hfew
  refine wpAny_bind (wpAny_newList ?_ (by rw [sizeLine_eq]; omega))
  have hoL : (s1.heap.push (seqObj "list" vs.toArray 0)).get? s1.heap.objs.size = some (seqObj "list" vs.toArray 0) := Heap.get?_push_size _ rfl
  have tk : ∀ q ∈ L, TS.TupInts (s1.heap.push (seqObj "list" vs.toArray 0)) (.ref q.1) q.2 := fun q hq => tupInts_of (P := P) (w := w) (isT_keep (R.tup q hq) fun b u e => Heap.get?_push_of_some _ (k1 b u e))
  obtain ⟨L1, e1, hs1⟩ := ord vs fun v hv => by
    obtain ⟨q, hq, e⟩ := List.mem_map.mp (pm.mem_iff.mp hv)
    exact ⟨q, hq, e.symm⟩
  have p1 : L1.Perm L := perm_of L1 hs1 (by rw [← e1]; exact pm)
  have l1 : L1.length < 64 := by rw [p1.length_eq]; exact hfew
  have er : PySem.W.EachIs (fun v (q : Addr × List Int) => ∃ as, Reads (s1.heap.push (seqObj "list" vs.toArray 0)) v (.tuple (q.2.map .int)) as ∧ s1.heap.objs.size ∉ as) vs L1 := by
    rw [e1]
    refine each_and (each_refs L1) fun u q hq e => ?_
    subst e
    rw [← e1]
    exact ⟨[], tup_reads (tk q (hs1 q hq)), by simp⟩
  have ev : PySem.W.EachIs (fun v (q : Addr × List Int) => v = Value.ref q.1) vs L1 := by rw [e1]; exact each_refs L1
  have al : PySem.W.AllAlike (L1.map fun q => PyData.tuple (q.2.map .int)) := by
    refine PySem.W.AllAlike.of fun q q' => ?_
    simpa [PySem.W.alike] using PySem.W.alike_ints q.2 q'.2
  have so : PySem.W.Sortable (L1.map fun q => PyData.tuple (q.2.map .int)) := .inl fun d hd => by
    obtain ⟨q, hq, rfl⟩ := List.mem_map.mp hd
    have := hB q (hs1 q hq)
    cases e : q.2 with
    | nil => exact absurd e this
    | cons x r => exact ⟨_, _, rfl⟩
  refine wpAny_bind (wpAny_holding (PySem.W.list_sort_data (s := { s1 with heap := s1.heap.push (seqObj "list" vs.toArray 0) }) hoL ev er al so (by rw [sizeLine_eq]; omega) (fun q hq => ?_) fun out a1 a2 => ?_))
  · have : (PyData.tuple (q.2.map .int)).depth ≤ 1 := by
      simp [PyData.depth, PySem.W.depth_ints]
    show A.in1.units + 1 + _ < cLine
    have e : A.in1.units = A.units + 1 := rfl
    omega
  rw [dataLe_tups] at a2
  obtain ⟨c, hc⟩ := sortedHeap_at (vs := vs) (out := out.toArray) hoL
  have e' := refs_each a2
  have pw : (L1.mergeSort fun p q => decide (p.2 ≤ q.2)).Pairwise (fun q r => q.2 ≤ r.2) := by
    refine (List.pairwise_mergeSort (le := fun p q : Addr × List Int => decide (p.2 ≤ q.2)) (fun x y z h1 h2 => ?_) (fun x y => ?_) L1).imp fun h => by simpa using h
    · simp only [decide_eq_true_eq] at h1 h2 ⊢
      exact List.le_trans h1 h2
    · simp only [Bool.or_eq_true, decide_eq_true_eq]
      exact List.le_total _ _
  refine wpAny_pure ⟨_, rfl, hQ _ s1.heap.objs.size out.toArray c _ (fun b u e => ?_) g1 o1 hz hc (by simpa using e') ((List.mergeSort_perm _ _).trans p1) pw⟩
  have q := k1 b u e
  have hlt := Heap.lt_size q
  show (sortedHeap (s1.heap.push (seqObj "list" vs.toArray 0)) s1.heap.objs.size vs out.toArray).get? b = some u
  rw [sortedHeap_old (Nat.ne_of_lt hlt) (by rw [size_push']; exact Nat.lt_succ_of_lt hlt)]
  exact Heap.get?_push_of_some _ q
end
/-- a list of int tuples -/
def itD (ns : List Int) : D := .tup (ns.map .int)
def itOf : D → Option (List Int)
  | .tup xs => intsOf xs
  | _ => none
def itsOf : List D → Option (List (List Int))
  | [] => some []
  | d :: ds => match itOf d with
    | some ns => (itsOf ds).map (ns :: ·)
    | none => none
theorem itsOf_map : ∀ L : List (List Int), itsOf (L.map itD) = some L
  | [] => rfl
  | ns :: L => by
    have e : itOf (itD ns) = some ns := intsOf_map ns
    simp [itsOf, e, itsOf_map L]
theorem itsOf_eq : ∀ {xs : List D} {L : List (List Int)}, itsOf xs = some L → xs = L.map itD
  | [], _, e => by cases e; rfl
  | d :: ds, _, e => by
    simp only [itsOf] at e
    split at e
    next ns en =>
      obtain ⟨L, e1, rfl⟩ := Option.map_eq_some_iff.mp e
      rw [itsOf_eq e1, List.map_cons]
      congr 1
      cases d <;> simp only [itOf, reduceCtorEq] at en
      rw [intsOf_eq en]
      rfl
    next => cases e
section
variable {X : Cx}
def rSortedTD (K : PySem.W.Frag) (P : Program) (w : World) : List V → Hp → VK → Prop := fun vs H Q => ∃ (a : Addr) (L : List (Addr × List Int)), vs = [V.ref a] ∧ H a = some (SetTO P w a L) ∧ (∀ p ∈ L, SqT K H p.1 (p.2.map V.int)) ∧
  (∀ p ∈ L, p.2 ≠ []) ∧
  ∀ (L' : List (Addr × List Int)) (p : Addr), L'.Perm L → (L'.map (·.2)).Nodup → L'.Pairwise (fun q r => q.2 ≤ r.2) → H p = none → Q (.ref p) (upd H p (.lst (L'.map fun q => V.ref q.1)))
theorem cr_sortedTD (hc : X.calm = true) (hu : X.A.units + 64 < cLine) : CallR X (.builtin "sorted") (rSortedTD X.K X.prog X.w) := by
  intro pins s σ H vs us Q I r h
  obtain ⟨a, L, rfl, ha, hk, hB, q⟩ := h
  have R0 : SetT0 X.prog X.w s.heap a L := (I.hok a _ ha).1
  obtain ⟨es, ep, t, R⟩ := R0.full fun p hp => I.isT (hk p hp)
  rw [Vals.ref1 r]
  refine sorted_setD R (I.ok.hd hc) hu hB fun s' p out c L' k g o hp hg hout pm pw => ?_
  have hfew : L'.length < 64 := by rw [pm.length_eq]; exact R.few
  have hlen : (L'.map fun q => V.ref q.1).length ≤ sizeLine := by rw [List.length_map, sizeLine_eq]; omega
  have hn : H p = none := I.hok.fresh hp
  have hv : Vals (L'.map fun q => V.ref q.1) out.toList := by rw [hout]; exact vals_of_refs L'
  have J : Inv X pins σ (upd H p (.lst (L'.map fun q => V.ref q.1))) { s with heap := s'.heap, gens := s'.gens, drawn := s'.drawn, toks := s'.toks } :=
    I.call (ch := []) (Un.laid k hp hn) (I.hok.laid k hp ⟨hlen, out.toList, c, hv, hg⟩) (by rw [g]; exact I.bare) (fun _ z => nomatch z)
  have e : s' = { s with heap := s'.heap, gens := s'.gens, drawn := s'.drawn, toks := s'.toks } := by
    cases s'
    cases s
    simp only at o
    subst o
    rfl
  rw [e]
  exact ⟨.ref p, _, J, rfl, q L' p pm ((pm.map (·.2)).nodup_iff.mpr R.nd) pw hn⟩
/-- sorted(set(xs)) of int tuples -/
def tSSetT (t : A3) : A3 := fun ρ h Q => t ρ h fun xs h1 => match itsOf xs with
  | some L => L.length < 64 ∧ (∀ p ∈ L, p ≠ []) ∧ ∀ M : List (List Int), M.Pairwise (· < ·) → (∀ p, p ∈ M ↔ p ∈ L) → Q (M.map itD) h1
  | none => False
theorem MonoA.ssetT {t : A3} (mt : MonoA t) : MonoA (tSSetT t) := fun ρ h Q Q' w q => mt _ _ _ _ (fun xs h1 q1 => by
  split at q1
  · exact ⟨q1.1, q1.2.1, fun ms h1 h2 => w _ _ (q1.2.2 ms h1 h2)⟩
  · exact q1) q
theorem rel_its {K : PySem.W.Frag} {m : List Addr} {H : Hp} : ∀ {L : List (List Int)} {vs : List V}, RelDs K m H (L.map itD) vs → ∃ ks : List (Addr × List Int), vs = ks.map (fun p => V.ref p.1) ∧ ks.map (·.2) = L ∧ ∀ p ∈ ks, H p.1 = some (.tup (p.2.map V.int))
  | [], _, .nil => ⟨[], rfl, rfl, fun _ h => nomatch h⟩
  | p :: L, _, .cons (.tup (a := a) sq rr) t => by
    obtain ⟨ks, e1, e2, e3⟩ := rel_its t
    have e4 := RelDs.ints (ns := p) rr
    refine ⟨(a, p) :: ks, by rw [e1]; rfl, by rw [List.map_cons, e2], fun q hq => ?_⟩
    rcases List.mem_cons.mp hq with rfl | hq
    · rw [← e4]; exact sq
    · exact e3 q hq
theorem rel_ints {K : PySem.W.Frag} {m : List Addr} {H : Hp} : ∀ ns : List Int, RelDs K m H (ns.map D.int) (ns.map V.int)
  | [] => .nil
  | n :: ns => .cons (.int n) (rel_ints ns)
theorem rel_itD {K : PySem.W.Frag} {m : List Addr} {H : Hp} : ∀ (L : List (Addr × List Int)), (∀ q ∈ L, H q.1 = some (.tup (q.2.map V.int))) → RelDs K m H ((L.map (·.2)).map itD) (L.map fun q => V.ref q.1)
  | [], _ => .nil
  | q :: L, h => .cons (.tup (h q List.mem_cons_self) (rel_ints q.2)) (rel_itD L fun r hr => h r (List.mem_cons_of_mem _ hr))
theorem ssetT_core {K : PySem.W.Frag} {P : Program} {w : World} {m m1 : List Addr} {H H1 : Hp} {h1 : Sto} {l : Addr} {xs : List D} {vs : List V} {Q : VK} (s1 : Step m H m1 H1) (R1 : Rep K m1 h1 H1) (sq : SqL K H1 l vs) (rs : RelDs K m1 H1 xs vs)
    (q : match itsOf xs with
      | some L => L.length < 64 ∧ (∀ p ∈ L, p ≠ []) ∧ ∀ M : List (List Int), M.Pairwise (· < ·) → (∀ p, p ∈ M ↔ p ∈ L) → UpX K m H Q (M.map itD) h1
      | none => False) : rSetOfT K P w [.ref l] H1 fun x H2 => rSortedTD K P w [x] H2 Q := by
  split at q
  next L e =>
    have e1 := itsOf_eq e
    subst e1
    obtain ⟨ks, ek, en, hk⟩ := rel_its rs
    have hlen : ks.length = L.length := by rw [← en, List.length_map]
    refine ⟨l, ks, rfl, by rw [← ek]; exact sq, fun p hp => TH (hk p hp), by rw [hlen]; exact q.1, fun a L1 ha h1' h2 => ⟨a, L1, rfl, upd_same, fun p hp => SqT.step R1 (Step.lay ha) (TH (hk p (h1' p hp))), fun p hp => ?_, fun L' p pm nd pw hp => ?_⟩⟩
    · exact q.2.1 _ (by rw [← en]; exact List.mem_map_of_mem (h1' p hp))
    · have hin : ∀ r ∈ L', r ∈ ks := fun r hr => h1' r (pm.mem_iff.mp hr)
      refine UpX.laid (R1.lay ha) (rel_itD L' fun r hr => (Step.lay ha).keep _ _ (R1.notup (hk r (hin r hr))) (hk r (hin r hr))) ?_ p hp
      refine UpX.step (s1.trans (Step.lay ha)) (R1.lay ha) (q.2.2 _ ?_ fun r => ?_)
      · rw [List.pairwise_map]
        have nd' : L'.Pairwise (fun a b => a.2 ≠ b.2) := List.pairwise_map.mp nd
        refine (pw.and nd').imp fun {u v} ⟨h3, h4⟩ => ?_
        rcases List.le_iff_lt_or_eq.mp h3 with h5 | h5
        · exact h5
        · exact absurd h5 h4
      · constructor
        · intro hr
          obtain ⟨u, hu, rfl⟩ := List.mem_map.mp hr
          rw [← en]
          exact List.mem_map_of_mem (hin u hu)
        · intro hr
          rw [← en] at hr
          obtain ⟨u, hu, rfl⟩ := List.mem_map.mp hr
          obtain ⟨v, hv, ev⟩ := List.mem_map.mp (h2 u hu)
          exact List.mem_map.mpr ⟨v, pm.mem_iff.mpr hv, ev⟩
  next => exact q.elim
theorem x3_ssetT {e : Expr} {t : A3} {p pos p2 pos2 : Pos} (hc : X.calm = true) (hu : X.A.units + 64 < cLine) (hm : X.mg "sorted" = none) (hm2 : X.mg "set" = none) (ha : PX3 X e t) (hg : Gl X "sorted" := by rfl) (hg2 : Gl X "set" := by rfl)
    (he : starEach [e] X.env = (false, eval e X.env) :: starEach [] X.env := by rfl) (hpl : (backTo pos2 (starEach [] X.env)).any (·.1) = false := by rfl)
    (he2 : starEach [.Call (.Name "set" p2) [e] [] pos2] X.env = (false, eval (.Call (.Name "set" p2) [e] [] pos2) X.env) :: starEach [] X.env := by rfl) (hpl2 : (backTo pos (starEach [] X.env)).any (·.1) = false := by rfl) :
    PX3 X (.Call (.Name "sorted" p) [.Call (.Name "set" p2) [e] [] pos2] [] pos) (tSSetT t) := by
  refine ⟨PE.weak (pe_callB (cr_sortedTD hc hu) hg hm (by decide +kernel) (pa_cons (pe_callTy (cr_setOfT hc hu) hg2 hm2 (by decide +kernel) (pa_cons ha.pe pa_nil he) (by decide) (by decide) he hpl) pa_nil he2) (by decide) (by decide) he2 hpl2) fun σ H Q ⟨m, h, ρ, R, S, q⟩ => ?_, .ssetT ha.mono⟩
  refine LX.bind ha.mono R S q fun m1 H1 a vs xs h1 s1 R1 ea na hm rs S1 q1 => ?_
  exact ssetT_core s1 R1 (.inl (.inl ea)) rs q1
end
/-! rows for the simplifier -/
section
variable {ρ : S3} {h : Sto} {Q : DK} {n : Nat} {y z : D}
theorem itsOf_itD (L : List (List Int)) : itsOf (L.map itD) = some L := itsOf_map L
end
end F3
set_option maxHeartbeats 400000
/-! FZ: head-first rows of FX and FY. -/
namespace F3
open PySem PySem.Spec PyProof.Rows L2
section
variable {ρ : S3} {h : Sto} {Q : DK} {n i : Nat} {d x y z : D} {kvs : List (List Key × D)} {E : Ends3}
theorem tDNewT3_q : tDNewT3 ρ h Q = Q (.ref h.length) (h ++ [.dT []]) := id rfl
theorem dgA_q : dgA (.ref n) y h Q = onO (dvC h[n]? y) fun d => Q d h := id rfl
def onG (o : Option (Option D)) (q : Option D → Prop) (_ : Tag q := ⟨⟩) : Prop := match o with
  | some o => q o
  | none => False
theorem onG_q {o : Option D} {q : Option D → Prop} : onG (some o) q = q o := id rfl
def dg2 (ty tx : E3) (ρ : S3) (h1 : Sto) (Q : DK) (x : D) : Prop := match x with
  | .ref n => isDC h1[n]? = true ∧ ty ρ h1 fun y h2 => tx ρ h2 fun z h3 => onG (dvC h3[n]? y) fun o => Q (o.getD z) h3
  | _ => False
theorem tDG2_q {td ty tx : E3} : tDG2 td ty tx ρ h Q = td ρ h fun x h1 => dg2 ty tx ρ h1 Q x := id rfl
theorem dg2_q {ty tx : E3} : dg2 ty tx ρ h Q (.ref n) = (isDC h[n]? = true ∧ ty ρ h fun y h2 => tx ρ h2 fun z h3 => onG (dvC h3[n]? y) fun o => Q (o.getD z) h3) := id rfl
theorem isDC_T : isDC (some (.dT kvs)) = true := id rfl
def onDT (o : Option Cell) (q : List (List Key × D) → Prop) (_ : Tag q := ⟨⟩) : Prop := match o with
  | some (.dT kvs) => q kvs
  | _ => False
theorem onDT_q {q : List (List Key × D) → Prop} : onDT (some (.dT kvs)) q = q kvs := id rfl
def onKT (o : Option (List Key)) (q : List Key → Prop) (_ : Tag q := ⟨⟩) : Prop := match o with
  | some k => q k
  | none => False
theorem onKT_q {k : List Key} {q : List Key → Prop} : onKT (some k) q = q k := id rfl
def dpT (E : Ends3) (ρ : S3) (v x y : D) (h : Sto) : Prop := match x with
  | .ref n => onDT h[n]? fun kvs => onKT (keyT y) fun k => kvs.length < 16777216 ∧ E.nx ρ (h.set n (.dT (putD kvs k v)))
  | _ => False
theorem cDPutT_q {td ti tv : E3} : cDPutT td ti tv E ρ h = tv ρ h fun v h1 => td ρ h1 fun x h2 => ti ρ h2 fun y h3 => dpT E ρ v x y h3 := id rfl
theorem dpT_q : dpT E ρ d (.ref n) y h = onDT h[n]? fun kvs => onKT (keyT y) fun k => kvs.length < 16777216 ∧ E.nx ρ (h.set n (.dT (putD kvs k d))) := id rfl
theorem keyT_ints {ns : List Int} : keyT (.tup (ns.map .int)) = some (ns.map Sum.inl) := keysD_int ns
theorem dvC_T {ns : List Int} : dvC (some (.dT kvs)) (.tup (ns.map .int)) = some (valD kvs (ns.map Sum.inl)) := by
  simp [dvC, keyT_ints]
theorem dvC_zT {o : Obj} {ws : List (List Key × V)} {ns : List Int} : dvC (some (.zT o ws kvs)) (.tup (ns.map .int)) = some (valD kvs (ns.map Sum.inl)) := by
  simp [dvC, keyT_ints]
def lkD (t : A3) (ρ : S3) (h : Sto) (Q : List D → Sto → Prop) (x : D) : Prop := match x with
  | .ref n => match h[n]? with
    | some (.dT kvs) => ∀ o ws, t ρ (h.set n (.zT o ws kvs)) fun xs h' => h'[n]? = some (.zT o ws kvs) ∧ Q xs (h'.set n (.dT kvs))
    | some (.dK kvs) => ∀ o ws, t ρ (h.set n (.zK o ws kvs)) fun xs h' => h'[n]? = some (.zK o ws kvs) ∧ Q xs (h'.set n (.dK kvs))
    | _ => False
  | _ => False
theorem lkX_q {t : A3} {Q : List D → Sto → Prop} : lkX i t ρ h Q = onO ρ[i]? fun x => lkD t ρ h Q x := by
  unfold lkX onO
  cases ρ[i]? with
  | none => rfl
  | some o => cases o with
    | none => rfl
    | some d => cases d <;> rfl
theorem lkD_T {t : A3} {Q : List D → Sto → Prop} (e : h[n]? = some (.dT kvs)) : lkD t ρ h Q (.ref n) = ∀ o ws, t ρ (h.set n (.zT o ws kvs)) fun xs h' => h'[n]? = some (.zT o ws kvs) ∧ Q xs (h'.set n (.dT kvs)) := by
  simp only [lkD, e]
def ikD (h : Sto) (Q : List D → (Sto → Prop) → Sto → Prop) (x : D) : Prop := match x with
  | .ref n => match h[n]? with
    | some (.zT o ws kvs) => Q (kvs.map fun kv => .tup (kv.1.map kD)) (fun h' => h'[n]? = some (.zT o ws kvs)) h
    | some (.zK o ws kvs) => Q (kvs.map fun kv => kD kv.1) (fun h' => h'[n]? = some (.zK o ws kvs)) h
    | _ => False
  | _ => False
theorem iKeys3_q {t : E3} {Q : List D → (Sto → Prop) → Sto → Prop} : iKeys3 t ρ h Q = t ρ h fun x h1 => ikD h1 Q x := id rfl
theorem ikD_T {o : Obj} {ws : List (List Key × V)} {Q : List D → (Sto → Prop) → Sto → Prop} (e : h[n]? = some (.zT o ws kvs)) : ikD h Q (.ref n) = Q (kvs.map fun kv => .tup (kv.1.map kD)) (fun h' => h'[n]? = some (.zT o ws kvs)) h := by
  simp only [ikD, e]
def onIt (o : Option (List (List Int))) (q : List (List Int) → Prop) (_ : Tag q := ⟨⟩) : Prop := match o with
  | some k => q k
  | none => False
theorem onIt_q {k : List (List Int)} {q : List (List Int) → Prop} : onIt (some k) q = q k := id rfl
theorem tSSetT_q {t : A3} {Q : List D → Sto → Prop} : tSSetT t ρ h Q = t ρ h fun xs h1 => onIt (itsOf xs) fun L => L.length < 64 ∧ (∀ p ∈ L, p ≠ []) ∧ ∀ M : List (List Int), M.Pairwise (· < ·) → (∀ p, p ∈ M ↔ p ∈ L) → Q (M.map itD) h1 := id rfl
theorem tL3_G {t : A3} {Q : List D → Sto → Prop} : tL3 srtG t ρ h Q = t ρ h fun xs h1 => srtG xs h1 Q := id rfl
end
end F3
set_option maxHeartbeats 1000000
/-! RB: raise that is never reached, d.setdefault(k, x), sorted(d) of int keys. -/
namespace F3
open PySem PySem.Spec PyProof.Rows L2
/-- a statement that is not reached -/
def cOff : C3 := fun _ _ _ => False
theorem c3_off {X : Cx} {st : Stmt} : PC3 X st cOff := ⟨⟨fun pins s σ H D I ⟨m, h, ρ, R, S, q⟩ => q.elim⟩, fun D D' ρ h w q => q⟩
/-- d.setdefault(k, x) -/
def dsetR (n : Nat) (y z : D) (h : Sto) (Q : DK) : Prop := match h[n]? with
  | some (.dK kvs) => match keyD y with
    | some k => kvs.length < 16777216 ∧ match valD kvs k with
      | some d => Q d h
      | none => Q z (h.set n (.dK (putD kvs k z)))
    | none => False
  | _ => False
def isDk (x : D) (h : Sto) : Prop := ∃ n kvs, x = .ref n ∧ h[n]? = some (.dK kvs)
def tDSetd3 (td ty tx : E3) : E3 := fun ρ h Q => td ρ h fun x h1 => isDk x h1 ∧ ty ρ h1 fun y h2 => tx ρ h2 fun z h3 => match x with
  | .ref n => dsetR n y z h3 Q
  | _ => False
section
variable {X : Cx}
theorem e3_dsetd {o e f : Expr} {td ty tx : E3} {apos cpos : Pos} (ho : PE3 X o td) (he : PE3 X e ty) (hf : PE3 X f tx) (m : M2 X o "setdefault" apos e f cpos) : PE3 X (.Call (.Attribute o "setdefault" apos) [e, f] [] cpos) (tDSetd3 td ty tx) := by
  refine ⟨PE.weak (pe_dsetd ho.pe he.pe hf.pe m) fun σ H Q ⟨m0, h, ρ, R, S, q⟩ => ?_, fun ρ h Q Q' w q => ho.mono _ _ _ _ (fun x h1 q1 => ⟨q1.1, he.mono _ _ _ _ (fun y h2 q2 => hf.mono _ _ _ _ (fun z h3 q3 => ?_) q2) q1.2⟩) q⟩
  · refine LE.bind ho.mono R S q fun m1 H1 v x h1 s1 R1 rx S1 q1 => ?_
    obtain ⟨⟨n, kvs0, rfl, e0⟩, q1⟩ := q1
    obtain ⟨a, vs0, rfl, em0, ea0, _⟩ := R1.dk rx e0
    refine ⟨a, rfl, .inl ⟨vs0, .inl ea0⟩, ?_⟩
    refine LE.bind he.mono R1 S1 q1 fun m2 H2 u y h2 s2 R2 ry S2 q2 => ?_
    refine LE.bind hf.mono R2 S2 q2 fun m3 H3 w z h3 s3 R3 rz S3 q3 => ?_
    have rx3 := (rx.step R1 s2).step R2 s3
    have q3 : dsetR n y z h3 (Up X.K m0 H Q) := q3
    unfold dsetR at q3
    split at q3
    next kvs e1 =>
      split at q3
      next k ek =>
        obtain ⟨a', vs, ea', em, ea, rk⟩ := R3.dk rx3 e1
        have : a = a' := by injection ea'
        subst this
        have hm : a ∈ m3 := List.mem_of_getElem? em
        have st := (s1.trans s2).trans s3
        refine ⟨vs, k, ea, keyD_rel (ry.step R2 s3) ek, by rw [rk.len, sizeLine_eq]; exact q3.1, fun v hv => ?_, fun hv => ?_⟩
        · rcases rk.val k with ⟨_, z2⟩ | ⟨d, v', z1, z2, z3⟩
          · rw [z2] at hv; cases hv
          · rw [z2] at hv; cases hv
            have q4 := q3.2
            rw [z1] at q4
            exact q4 m3 H3 v st R3 z3
        · rcases rk.val k with ⟨z1, _⟩ | ⟨d, v', z1, z2, z3⟩
          · have q4 := q3.2
            rw [z1] at q4
            have rp := (rk.put k rz).step R3 (Step.put (o := .dK (putK vs k w)) hm)
            exact q4 m3 _ w (st.trans (Step.put hm)) (R3.put em ⟨_, upd_same, rp.keys, rp.vals⟩) (rz.step R3 (Step.put hm))
          · rw [z2] at hv; cases hv
      next => exact q3.elim
    next => exact q3.elim
  · split at q3
    · unfold dsetR at q3 ⊢
      split at q3
      · split at q3
        · refine ⟨q3.1, ?_⟩
          have q4 := q3.2
          split at q4
          · exact w _ _ q4
          · exact w _ _ q4
        · exact q3.elim
      · exact q3.elim
    · exact q3.elim
/-! sorted(d) -/
def rSortedDk : List V → Hp → VK → Prop := fun xs H Q => ∃ (a : Addr) (kvs : List (Key × V)) (ks : List Int), xs = [.ref a] ∧ Rd H a (.dK kvs) ∧ kvs.map (·.1) = ks.map Sum.inl ∧ ks.length ≤ 16777216 ∧
    ∀ (ys : List Int) (p : Addr), ys.Perm ks → ys.Pairwise (· ≤ ·) → H p = none → Q (.ref p) (upd H p (.lst (ys.map V.int)))
theorem call_sortedDk (calm : X.calm = true) : CallR X (.builtin "sorted") rSortedDk := by
  intro pins s σ H xs us Q I r q
  obtain ⟨a, kvs, ks, rfl, hd, hks, hsz, q⟩ := q
  obtain ⟨u, rfl, rx⟩ := vals1 r
  cases rx
  obtain ⟨z, lo, vs, rel, dd⟩ := dk_rd I.hok hd
  obtain ⟨ep, hat⟩ := dd.dictAt
  have keysE : vs.map (·.1) = ks.map Sum.inl := rel.keys.symm.trans hks
  have lenE : vs.length = ks.length := by
    have := congrArg List.length keysE
    simpa using this
  have fits : vs.length ≤ sizeLine := by rw [lenE, sizeLine_eq]; exact hsz
  refine Calls.call_function_entry PyProof.Rows.kind_sorted PyProof.Rows.plain_sorted PyProof.Rows.entry_sorted (PyProof.Rows.args_sorted1 _) ?_
  unfold Builtin.«sorted»
  refine wpAny_bind (m := checkCount "sorted" 1 1 _) (wpAny_pure (wpAny_bind (PySem.W.kdu_collect (A := X.A.in1) (PySem.W.kdl_dict (knd := mixKind X.prog X.w) (kvs := vs) (ep := ep) lo) (I.ok.hd calm) hat fits fun hp tk got hk hgot => ?_)))
  have lenG : got.toList.length = ks.length := by rw [Array.length_toList, hgot.1, lenE]
  have itsG : IntsAre got.toList ks := ints_each lenG fun j v e => by
    obtain ⟨k, x, e1, e2⟩ := hgot.2 j v (by rw [← Array.getElem?_toList]; exact e)
    have e3 : (ks.map (Sum.inl : Int → Key))[j]? = some k := by rw [← keysE, List.getElem?_map, e1]; rfl
    rw [List.getElem?_map] at e3
    cases e4 : ks[j]? with
    | none => rw [e4] at e3; cases e3
    | some y =>
      rw [e4] at e3
      have e5 : Sum.inl y = k := Option.some.inj e3
      subst e5
      rcases keyIs_shape (show keyIs (Sum.inl y) v = true from e2) with ⟨i, t, ek, ev⟩ | ⟨w, t, ek, ev⟩
      · cases ek; exact ⟨y, t, rfl, ev⟩
      · cases ek
  have I1 : Inv X pins σ H { s with heap := hp, toks := tk } := I.kept hk
  have gz : got.toList.length ≤ sizeLine := by rw [lenG, sizeLine_eq]; exact hsz
  refine wpAny_bind (wpAny_newList ?_ gz)
  have ob : (hp.push (seqObj "list" got.toList.toArray 0)).get? hp.objs.size = some (seqObj "list" got.toList.toArray 0) := Heap.get?_push_size _ rfl
  show wpAny _ _ _ _ _ { s with heap := hp.push (seqObj "list" got.toList.toArray 0), toks := tk }
  refine wpAny_bind (wpAny_holding (wpAny_call_entry PyProof.Rows.slot_list_sort ⟨_, ob, rfl⟩ PyProof.Rows.entry_list_sort
    (SrtO.list_sort_ord (s := { s with heap := hp.push (seqObj "list" got.toList.toArray 0), toks := tk }) SrtO.swo_int ob gz (fun h2 => SrtO.ints_sortable itsG h2) fun out h1 h2 => ⟨_, rfl, ?_⟩) (PyProof.Rows.args_list_sort _)))
  obtain ⟨k1, k2, k3⟩ := SrtO.ints_out itsG h1 h2
  obtain ⟨e', he'⟩ := PyProof.Rows.sortedHeap_at (vs := got.toList) (out := out.toArray) ob
  have lenO : ((out.map SrtO.iv).map V.int).length ≤ sizeLine := by
    rw [List.length_map, k2.length_eq, sizeLine_eq]; exact hsz
  refine wpAny_pure ⟨_, rfl, .ref hp.objs.size, upd H hp.objs.size (.lst ((out.map SrtO.iv).map V.int)), I1.laid (t' := tk) (fun b u e => ?_) (Nat.le_refl _)
    (show ObjOk X.prog X.w _ _ _ (.lst ((out.map SrtO.iv).map V.int)) from ⟨lenO, out, e', vals_of_ints k1, he'⟩), rfl, q _ _ k2 k3 (I1.hok.fresh (Nat.le_refl _))⟩
  have hb : b < hp.objs.size := Heap.lt_size e
  rw [PyProof.Rows.sortedHeap_old (Nat.ne_of_lt hb) (by rw [size_push']; exact Nat.lt_succ_of_lt hb)]
  exact Heap.get?_push_of_some _ e
/-- the int keys of a dict, sorted -/
def srtK : M3 := fun xs h Q => ∃ (n : Nat) (kvs : List (Key × D)) (ks : List Int), xs = [.ref n] ∧ h[n]? = some (.dK kvs) ∧ kvs.map (·.1) = ks.map Sum.inl ∧ ks.length ≤ 16777216 ∧ ∀ ys : List Int, ys.Perm ks → ys.Pairwise (· ≤ ·) → Q (ys.map .int) h
theorem kl_sortedDk (calm : X.calm = true) : CallL3 X (.builtin "sorted") srtK := by
  refine ⟨fun xs h Q Q' w q => ?_, _, call_sortedDk calm, fun m h H xs vs Q R rs q => ?_⟩
  · obtain ⟨n, kvs, ks, e1, e2, e3, e4, q⟩ := q
    exact ⟨n, kvs, ks, e1, e2, e3, e4, fun ys h1 h2 => w _ _ (q ys h1 h2)⟩
  · obtain ⟨n, kvs, ks, rfl, e2, e3, e4, q⟩ := q
    match vs, rs with
    | [v], .cons r .nil =>
      obtain ⟨a, us, rfl, em, ea, rk⟩ := R.dk r e2
      refine ⟨a, us, ks, rfl, .inl ea, rk.keys.trans e3, e4, fun ys p h1 h2 hp => ?_⟩
      exact UpX.laid R (rel_ints ys) (q ys h1 h2) p hp
end
end F3
/-! HX: refusals: raise, calls that may raise, try .. except .. as e. -/
namespace F3
open PySem PySem.Spec PyProof.Rows L2
/-- the plain name of a refusal, its slots, its store -/
abbrev X4 := String → S3 → Sto → Prop
def xV (E : String → Sto → Prop) : X3 := fun v h => ∃ c, v = .type c ∧ E c h
/-- the wish of a context, of plain names -/
def UpW (K : PySem.W.Frag) (bk : String → Addr) (m : List Addr) (H : Hp) (W : WX) : X4 := fun c ρ h' => ∀ m' H' σ', Step m H m' H' → Rep K m' h' H' → RelS K m' H' ρ σ' → W (.ref (bk c)) none σ' H'
def UpEx (K : PySem.W.Frag) (bk : String → Addr) (m : List Addr) (H : Hp) (E : XK) : X3 := xV fun c h' => ∀ m' H', Step m H m' H' → Rep K m' h' H' → E (.ref (bk c)) none H'
def LSpX (K : PySem.W.Frag) (bk : String → Addr) (sp : Sp3) : Sp := fun vs H Q E => ∃ m h ds, Rep K m h H ∧ RelDs K m H ds vs ∧ sp ds h (Up K m H Q) (UpEx K bk m H E)
def LCb (K : PySem.W.Frag) (m0 : List Addr) (H0 : Hp) (t : C3) : TS := fun D σ H => ∃ m h ρ, Step m0 H0 m H ∧ Rep K m h H ∧ RelS K m H ρ σ ∧ t (UpC K m H D) ρ h
def LEb (K : PySem.W.Frag) (m0 : List Addr) (H0 : Hp) (t : E3) : TE := fun σ H Q => ∃ m h ρ, Step m0 H0 m H ∧ Rep K m h H ∧ RelS K m H ρ σ ∧ t ρ h (Up K m H Q)
structure PEb (X : Cx) (m0 : List Addr) (H0 : Hp) (e : Expr) (t : E3) : Prop where
  pe : PE X e (LEb X.K m0 H0 t)
  mono : MonoE t
structure PCb (X : Cx) (m0 : List Addr) (H0 : Hp) (st : Stmt) (t : C3) : Prop where
  pe : PS X st (LCb X.K m0 H0 t)
  mono : MonoC t
structure PCsb (X : Cx) (m0 : List Addr) (H0 : Hp) (st : List Stmt) (t : C3) : Prop where
  pe : PSs X st (LCb X.K m0 H0 t)
  mono : MonoC t
section
variable {X : Cx} {m0 : List Addr} {H0 : Hp} {st : Stmt} {rest : List Stmt} {t u : C3} {e : Expr} {te : E3} {pos : Pos}
theorem PC3.b (h : PC3 X st t) : PCb X m0 H0 st t := ⟨PS.weak h.pe fun D σ H ⟨m, h, ρ, _, R, S, q⟩ => ⟨m, h, ρ, R, S, q⟩, h.mono⟩
theorem PCs3.b (h : PCs3 X rest t) : PCsb X m0 H0 rest t := ⟨PSs.weak h.pe fun D σ H ⟨m, h, ρ, _, R, S, q⟩ => ⟨m, h, ρ, R, S, q⟩, h.mono⟩
theorem PE3.b (h : PE3 X e te) : PEb X m0 H0 e te := ⟨PE.weak h.pe fun D σ H ⟨m, h, ρ, _, R, S, q⟩ => ⟨m, h, ρ, R, S, q⟩, h.mono⟩
theorem csb_cons (h1 : PCb X m0 H0 st t) (h2 : PCsb X m0 H0 rest u) : PCsb X m0 H0 (st :: rest) (cSeq t u) := by
  refine ⟨PSs.weak (pss_cons h1.pe h2.pe) fun D σ H ⟨m, h, ρ, s0, R, S, q⟩ => ?_, h1.mono.seq h2.mono⟩
  refine ⟨m, h, ρ, s0, R, S, h1.mono { UpC X.K m H D with nx := u (UpC X.K m H D) } _ _ _ ⟨fun ρ' h' q m' H' σ' s R' S' => ?_, fun _ _ q => q, fun _ _ q => q, fun _ _ q => q⟩ q⟩
  exact ⟨m', h', ρ', s0.trans s, R', S', h2.mono _ _ _ _ (UpC.step s) q⟩
theorem csb_one (h1 : PCb X m0 H0 st t) : PCsb X m0 H0 [st] t := ⟨pss_one h1.pe, h1.mono⟩
theorem cb_expr (he : PEb X m0 H0 e te) (hs : swapsWith e none pos.line X.env = pure false := by rfl) : PCb X m0 H0 (.Expr e pos) (cDrop te) := by
  refine ⟨PS.weak (ps_expr he.pe hs) fun D σ H ⟨m, h, ρ, s0, R, S, q⟩ => ?_, fun D D' ρ h w q => he.mono _ _ _ _ (fun _ _ q => w.nx _ _ q) q⟩
  exact ⟨m, h, ρ, s0, R, S, he.mono _ _ _ _ (fun d h' q1 m1 H1 v s1 R1 rx => q1 m1 H1 σ s1 R1 (S.step R s1)) q⟩
theorem cb_ret (he : PEb X m0 H0 e te) : PCb X m0 H0 (.Return (some e) pos) (cRet te) := by
  refine ⟨PS.weak (ps_ret he.pe) fun D σ H ⟨m, h, ρ, s0, R, S, q⟩ => ?_, fun D D' ρ h w q => he.mono _ _ _ _ (fun _ _ q => w.rt _ _ q) q⟩
  exact ⟨m, h, ρ, s0, R, S, q⟩
theorem cb_set (i : Nat) {x : Str} {pos' : Pos} (hN : X.N.Nodup) (he : PEb X m0 H0 e te) (hi : X.N[i]? = some x := by rfl) (hx : Loc X.env.scope x := by first | exact Or.inl rfl | exact Or.inr rfl) (hs : swapsWith e (some (.Name x pos')) pos.line X.env = pure false := by rfl)
    (hf : X.fn x = true ∨ X.env.scope.names.lookup x = some .local := by first | exact .inl rfl | exact .inr rfl | assumption) : PCb X m0 H0 (.Assign [.Name x pos'] e pos) (cAsg te (gN i)) := by
  refine ⟨PS.weak (ps_set hN hi hx he.pe hs hf) fun D σ H ⟨m, h, ρ, s0, R, S, q⟩ => ?_, fun D D' ρ h w q => he.mono _ _ _ _ (fun _ _ q => w.nx _ _ q) q⟩
  exact ⟨m, h, ρ, s0, R, S, he.mono _ _ _ _ (fun d h' q1 m1 H1 v s1 R1 rx => q1 m1 H1 _ s1 R1 ((S.step R s1).set rx i)) q⟩
theorem cb_if {c : Expr} {a b : List Stmt} {tc : B3} (hc : PB3 X c tc) (ha : PCsb X m0 H0 a t) (hb : PCsb X m0 H0 b u) : PCb X m0 H0 (.If c a b pos) (cIf tc t u) := by
  refine ⟨PS.weak (ps_if hc.pe ha.pe hb.pe) fun D σ H ⟨m, h, ρ, s0, R, S, q⟩ => ?_, fun D D' ρ h w q => hc.mono _ _ _ _ (fun b h1 q => ?_) q⟩
  · refine LB.bind hc.mono R S q fun m1 H1 k h1 s1 R1 S1 q1 => ?_
    cases k with
    | true => rw [if_pos rfl] at q1 ⊢; exact ⟨m1, h1, ρ, s0.trans s1, R1, S1, ha.mono _ _ _ _ (UpC.step s1) q1⟩
    | false => rw [if_neg Bool.false_ne_true] at q1 ⊢; exact ⟨m1, h1, ρ, s0.trans s1, R1, S1, hb.mono _ _ _ _ (UpC.step s1) q1⟩
  · cases b with
    | true => rw [if_pos rfl] at q ⊢; exact ha.mono _ _ _ _ w q
    | false => rw [if_neg Bool.false_ne_true] at q ⊢; exact hb.mono _ _ _ _ w q
end
/-- what is known of the classes of refusals -/
structure OwnE (K : PySem.W.Frag) (bmB : List Value) (newId : String) (C : Addr) : Prop where
  ex : PySem.W.excIn K C bmB newId = true
  kp : PySem.W.keepIn K (.ref C) = true
  sb : PySem.W.subIn K (.ref C) (.type "BaseException") = some true
  ty : PySem.W.typeIn K (.ref C) = some (.type "type")
def cRz (E : X4) (c : String) : C3 := fun _ ρ h => E c ρ h
section
variable {X : Cx} {m0 : List Addr} {H0 : Hp} {W : WX} {E : X4} {bk : String → Addr}
theorem cb_raise (c : String) {x m : Str} {j : Nat} {p p2 pos pos2 : Pos} {bmB : List Value} {B newId initId : String} (hc : X.calm = true) (F : ExcBaseFacts B newId initId bmB) (o : OwnE X.K bmB newId (bk c)) (gC : X.mg x = some (.ref (bk c))) (tk : Takes X W) (hE : ∀ c ρ h', E c ρ h' → UpW X.K bk m0 H0 W c ρ h') (hg : Gl X x := by rfl)
    (hdb : (x == ("__debug__" : Str)) = false := by decide) : PCb X m0 H0 (.Raise (some (.Call (.Name x p) [.Constant (.str m) j p2] [] pos)) none pos2) (cRz E c) := by
  refine ⟨PS.weak (ps_raise hc tk (pmk_own F o.ex gC o.kp (raises_own o.sb o.ty) hg hdb)) fun D σ H ⟨m, h, ρ, s0, R, S, q⟩ => ?_, fun D D' ρ h w q => q⟩
  exact hE c ρ h q m H σ s0 R S
end
/-- a def that may refuse, by its promise -/
structure Fn3X (P : Program) (w : World) (K : PySem.W.Frag) (mg : Str → Option Value) (base : Heap) (bk : String → Addr) (x : Str) (k : Nat) (ps : List Str) (sp : Sp3) : Prop where
  ex : ∃ f fd, mg x = some (.ref f) ∧ PySem.W.keepIn K (.ref f) = true ∧ Binds K fd ps [] ∧ FnOk P w K mg base (L2.CX P w) k f fd ps (LSpX K bk sp)
  mono : MonoS sp
def tCallX (sp : Sp3) (E : X4) (ta : A3) : E3 := fun ρ h Q => ta ρ h fun ds h1 => sp ds h1 Q (xV fun c h2 => E c ρ h2)
section
variable {X : Cx} {m0 : List Addr} {H0 : Hp} {W : WX} {E : X4} {bk : String → Addr}
theorem eb_call {x : Str} {k n : Nat} {ps : List Str} {sp : Sp3} {e : Expr} {es : List Expr} {ta : A3} {p pos : Pos} (F : Fn3X X.prog X.w X.K X.mg X.base bk x k ps sp) (hr : Room n X.A) (tk : Takes X W) (hE : ∀ c ρ h', E c ρ h' → UpW X.K bk m0 H0 W c ρ h') (ha : PA3 X (e :: es) ta) (hk : k ≤ n := by decide) (hg : Gl X x := by rfl)
    (hdb : (x == ("__debug__" : Str)) = false := by decide) (he : starEach (e :: es) X.env = (false, eval e X.env) :: starEach es X.env := by rfl) (hpl : (backTo pos (starEach es X.env)).any (·.1) = false := by rfl) :
    PEb X m0 H0 (.Call (.Name x p) (e :: es) [] pos) (tCallX sp E ta) := by
  obtain ⟨f, fd, hm, kp, hb, F0⟩ := F.ex
  refine ⟨PE.weak (pe_callS F0 (hr.mono hk) hg hm kp hb (passAt tk) ha.pe hdb he hpl) fun σ H Q ⟨m, h, ρ, s0, R, S, q⟩ => ?_, fun ρ h Q Q' w q => ha.mono _ _ _ _ (fun ds h1 q1 => F.mono _ _ _ _ _ _ w (fun _ _ z => z) q1) q⟩
  refine LA.bind ha.mono R S q fun m1 H1 vs ds h1 s1 R1 rs S1 q1 => ?_
  refine ⟨m1, h1, ds, R1, rs, F.mono _ _ _ _ _ _ (fun d h' u => Up.step s1 u) (fun v h' ⟨c, ec, z⟩ => ⟨c, ec, fun m' H' s' R' => ?_⟩) q1⟩
  exact hE c ρ h' z m' H' σ (s0.trans (s1.trans s')) R' (S1.step R1 s')
/-- a call that refuses nothing here -/
theorem e3_callX {x : Str} {k n : Nat} {ps : List Str} {sp : Sp3} {e : Expr} {es : List Expr} {ta : A3} {p pos : Pos} (F : Fn3X X.prog X.w X.K X.mg X.base bk x k ps sp) (hr : Room n X.A) (ha : PA3 X (e :: es) ta) (hk : k ≤ n := by decide) (hg : Gl X x := by rfl)
    (hdb : (x == ("__debug__" : Str)) = false := by decide) (he : starEach (e :: es) X.env = (false, eval e X.env) :: starEach es X.env := by rfl) (hpl : (backTo pos (starEach es X.env)).any (·.1) = false := by rfl) :
    PE3 X (.Call (.Name x p) (e :: es) [] pos) (tCall3 sp ta) := by
  obtain ⟨f, fd, hm, kp, hb, F0⟩ := F.ex
  refine ⟨PE.weak (pe_call (E := fun _ _ _ => False) F0 (hr.mono hk) hg hm kp hb .nil (fun pins σ H s e s' I h => by obtain ⟨_, _, _, _, _, _, _, _, _, _, _, _, z⟩ := h; exact z.elim) ha.pe hdb he hpl) fun σ H Q ⟨m, h, ρ, R, S, q⟩ => ?_, fun ρ h Q Q' w q => ha.mono _ _ _ _ (fun ds h1 q1 => F.mono _ _ _ _ _ _ w (fun _ _ z => z) q1) q⟩
  refine LA.bind ha.mono R S q fun m1 H1 vs ds h1 s1 R1 rs S1 q1 => ?_
  rw [List.append_nil]
  exact ⟨m1, h1, ds, R1, rs, F.mono _ _ _ _ _ _ (fun d h' u => Up.step s1 u) (fun _ _ z => z.elim) q1⟩
end
/-- what is wanted of a refusal: of the store, made smaller as one likes -/
def GE (n : Nat) (E : X3) : X4 := fun c _ h => E (.type c) h ∨ ∃ h2, Gc n .non h .non h2 ∧ E (.type c) h2
section
variable {P : Program} {w : World} {K : PySem.W.Frag} {mg : Str → Option Value} {base : Heap} {bk : String → Addr}
theorem fn3X {x qual : Str} {st : Stmt} {f : Addr} {fd : FuncData} {N ps : List Str} {k : Nat} {sp : Sp3} {t : X4 → C3} (F : Fun K x qual st f fd) (S : FnScope N ps (defScope st)) (len : ∀ ds h Q E, sp ds h Q E → ds.length = ps.length)
    (dv : ∀ (cdv : Value) (A : Around) (outer : List Env) (s : Shared) (H : Hp) (E : XK) (m0 : List Addr) (E4 : X4), Room k (A.deeper (envOfC qual (defScope st) s.heap.objs.size f cdv)) →
      (∀ c ρ h', E4 c ρ h' → UpW K bk m0 H (fun cls d _ H' => E cls d H') c ρ h') → Takes (cxOf (L2.CX P w) P w K mg base N qual (defScope st) f cdv A outer s H E) (fun cls d _ H' => E cls d H') →
      PCsb (cxOf (L2.CX P w) P w K mg base N qual (defScope st) f cdv A outer s H E) m0 H (defBody st) (t E4))
    (rd : ∀ ds h Q E, ClS h.length h → ClDs h.length ds → sp ds h Q E → t (GE h.length E) (ends3 (GQ h.length Q)) (start3 N.length ds) h) : FnOk P w K mg base (L2.CX P w) (k + 1) f fd ps (LSpX K bk sp) := by
  refine F.okX S (fun vs H Q E ⟨m, h, ds, R, rs, q⟩ => by rw [← rs.length]; exact len _ _ _ _ q) fun cdv A outer s H vs Q E hr ⟨m, h, ds, R, rs, q⟩ => ?_
  have d := dv cdv A outer s H E m (GE h.length (UpEx K bk m H E)) hr (fun c ρ h' g => ?_) (takes_of rfl rfl rfl rfl)
  · refine ⟨_, d.pe, m, h, _, .refl, R, relS_start rs, d.mono (ends3 (GQ h.length (Up K m H Q))) _ _ _ ⟨fun ρ h' g => ?_, fun v h' g => ?_, fun _ _ z => z.elim, fun _ _ z => z.elim⟩ (rd ds h _ _ R.cl (by rw [← R.len]; exact rs.cl) q)⟩
    · intro m' H' σ' s' R' S'
      rcases g with g | ⟨d2, h2, gc, g⟩
      · exact g m' H' .non s' R' .non
      · obtain ⟨m2, s2, R2, r2⟩ := gc.lift R.len.symm s' R' .non
        exact g m2 H' .non s2 R2 r2
    · intro m' H' u s' R' ru
      rcases g with g | ⟨d2, h2, gc, g⟩
      · exact g m' H' u s' R' ru
      · obtain ⟨m2, s2, R2, r2⟩ := gc.lift R.len.symm s' R' ru
        exact g m2 H' u s2 R2 r2
  · intro m' H' σ' s' R' S'
    rcases g with ⟨c', ec, g⟩ | ⟨h2, gc, c', ec, g⟩
    · cases ec; exact g m' H' s' R'
    · cases ec
      obtain ⟨m2, s2, R2, r2⟩ := gc.lift R.len.symm s' R' .non
      exact g m2 H' s2 R2
end
end F3
/-! HY: try .. except .. as e, isinstance(e, ..). -/
namespace F3
open PySem PySem.Spec PyProof.Rows L2
def sufE (i : Nat) (D : Ends3) : Ends3 := ⟨fun ρ h => D.nx (ρ.set i none) h, D.rt, fun ρ h => D.bk (ρ.set i none) h, fun ρ h => D.ct (ρ.set i none) h⟩
def cTryE (rs : List String) (i : Nat) (tb : X4 → C3) (su : Addr → String → C3) : C3 := fun D ρ h => tb (fun c ρ' h' => c ∈ rs ∧ ∀ a, su a c (sufE i D) (ρ'.set i (some (.adr a))) h') D ρ h
/-- of a body: the wish about refusals may be weaker, too -/
def MonoX (t : X4 → C3) : Prop := ∀ (E E' : X4) D D' ρ h, (∀ c ρ h, E c ρ h → E' c ρ h) → EndsLe D D' → t E D ρ h → t E' D' ρ h
def MonoXE (t : X4 → E3) : Prop := ∀ (E E' : X4) ρ h (Q Q' : DK), (∀ c ρ h, E c ρ h → E' c ρ h) → (∀ d h', Q d h' → Q' d h') → t E ρ h Q → t E' ρ h Q'
theorem mx_call {sp : Sp3} {ta : A3} (ms : MonoS sp) (ma : MonoA ta) : MonoXE fun E => tCallX sp E ta := fun E E' ρ h Q Q' w w2 q => ma _ _ _ _ (fun ds h1 q1 => ms _ _ _ _ _ _ w2 (fun v h' ⟨c, e, z⟩ => ⟨c, e, w _ _ _ z⟩) q1) q
theorem mx_drop {t : X4 → E3} (mt : MonoXE t) : MonoX fun E => cDrop (t E) := fun E E' D D' ρ h w w2 q => mt _ _ _ _ _ _ w (fun _ _ q => w2.nx _ _ q) q
theorem mx_ret {t : X4 → E3} (mt : MonoXE t) : MonoX fun E => cRet (t E) := fun E E' D D' ρ h w w2 q => mt _ _ _ _ _ _ w (fun _ _ q => w2.rt _ _ q) q
theorem mx_set {t : X4 → E3} {i : Nat} (mt : MonoXE t) : MonoX fun E => cAsg (t E) (gN i) := fun E E' D D' ρ h w w2 q => mt _ _ _ _ _ _ w (fun _ _ q => w2.nx _ _ q) q
theorem mx_k {t : C3} (mt : MonoC t) : MonoX fun _ => t := fun E E' D D' ρ h w w2 q => mt _ _ _ _ w2 q
theorem mx_seq {t u : X4 → C3} (mt : MonoX t) (mu : MonoX u) : MonoX fun E => cSeq (t E) (u E) := fun E E' D D' ρ h w w2 q => mt E E' { D with nx := u E D } { D' with nx := u E' D' } _ _ w ⟨fun ρ h q => mu _ _ _ _ _ _ w w2 q, w2.rt, w2.bk, w2.ct⟩ q
theorem mx_if {tc : B3} {t u : X4 → C3} (mc : MonoB tc) (mt : MonoX t) (mu : MonoX u) : MonoX fun E => cIf tc (t E) (u E) := fun E E' D D' ρ h w w2 q => mc _ _ _ _ (fun b h1 q => by
  cases b with
  | true => rw [if_pos rfl] at q ⊢; exact mt _ _ _ _ _ _ w w2 q
  | false => rw [if_neg Bool.false_ne_true] at q ⊢; exact mu _ _ _ _ _ _ w w2 q) q
theorem RelS.unset {K : PySem.W.Frag} {m : List Addr} {H : Hp} {ρ : S3} {σ : L2.St} (r : RelS K m H ρ σ) (i : Nat) : RelS K m H (ρ.set i none) (σ.set i none) := by
  refine ⟨by simpa using r.1, fun j e hj => ?_⟩
  by_cases hij : i = j
  · subst hij
    have hl : i < ρ.length := by
      have := (List.getElem?_eq_some_iff.mp hj).1
      simpa using this
    rw [List.getElem?_set_self hl] at hj
    cases hj
  · rw [List.getElem?_set_ne hij] at hj ⊢
    exact r.2 j e hj
section
variable {X : Cx} {bk : String → Addr}
theorem c3_try {rs : List String} {i : Nat} {x n : Str} {C : Addr} {body suite : List Stmt} {b₀ : Stmt} {np pos pos' : Pos} {tb : X4 → C3} {su : Addr → String → C3} (hN : X.N.Nodup) (hc : Names X x (.ref C)) (ctch : ∀ c ∈ rs, PySem.W.exmOne X.K (.ref (bk c)) (.ref C) = some true)
    (hb : ∀ (W : WX) (pn : List (Addr × Obj)) (xe : Value → Shared → Prop) (m0 : List Addr) (H0 : Hp) (E4 : X4), Takes (X.tr pn xe) W → PassesOwn (model X.prog X.w) X.A X.env xe → (∀ c ρ h', E4 c ρ h' → UpW X.K bk m0 H0 W c ρ h') → PCsb (X.tr pn xe) m0 H0 body (tb E4))
    (mb : MonoX tb)
    (hsu : ∀ (a : Addr) (oe : Obj) (c : String) (pn : List (Addr × Obj)), c ∈ rs → Zc (.ref (bk c)) none oe → (∃ vs, oe.data = .fields vs) → PCs3 (X.suite a ((a, oe) :: pn)) (b₀ :: suite) (su a c))
    (hs : X.stack = X.env :: X.outer := by rfl) (hf : X.env.frame = some X.env.locals := by rfl) (hi : X.N[i]? = some n := by rfl) (hln : X.env.kindOf n = some .local := by rfl) :
    PC3 X (.Try body [.ExceptHandler (some (.Name x np)) (some n) (b₀ :: suite) pos'] [] [] pos) (cTryE rs i tb su) := by
  have ms : ∀ c ∈ rs, ∀ a, MonoC (su a c) := fun c hc a => (hsu a { cls := .ref (bk c), dict := none, data := .fields #[] } c [] hc ⟨rfl, rfl⟩ ⟨_, rfl⟩).mono
  refine ⟨PS.weak (ps_try_as (i := i) (tb := fun W D σ H => ∃ m0 H0 E4, (∀ c ρ h', E4 c ρ h' → UpW X.K bk m0 H0 W c ρ h') ∧ LCb X.K m0 H0 (tb E4) D σ H) (ts := fun a cls d D σ H => ∃ c, c ∈ rs ∧ cls = .ref (bk c) ∧ d = none ∧ LC X.K (su a c) D σ H) (Wout := fun _ _ _ _ => False) hs hf hN hi hln hc (fun u s' ⟨a, B, sI, pins, σ, H, cls, d, e, I, nb, up, sky, na, os, ag, w⟩ => w.elim) (fun W pn xe tk po => ?_) (fun a oe cls d pn hz hd => ?_)) fun D σ H ⟨m, h, ρ, R, S, q⟩ => ?_, fun D D' ρ h w q => ?_⟩
  · refine ⟨fun pins s σ H D I h => ?_⟩
    obtain ⟨m0, H0, E4, hE, q⟩ := h
    exact (hb W pn xe m0 H0 E4 tk po hE).pe.run pins s σ H D I q
  · refine ⟨fun pins s σ H D I h => ?_⟩
    obtain ⟨c, hc, rfl, rfl, q⟩ := h
    exact (hsu a oe c pn hc hz hd).pe.run pins s σ H D I q
  · refine ⟨m, H, _, fun c ρ' h' z m' H' σ' s R' S' => ?_, m, h, ρ, .refl, R, S, q⟩
    obtain ⟨zc, z⟩ := z
    refine ⟨true, ctch c zc, fun _ a na => ⟨c, zc, rfl, rfl, m', h', _, R', S'.set (.adr a) i, ms c zc a _ _ _ _ ⟨fun ρ2 h2 q m2 H2 σ2 s2 R2 S2 => ?_, fun d2 h2 q => Up.step s q, fun ρ2 h2 q m2 H2 σ2 s2 R2 S2 => ?_, fun ρ2 h2 q m2 H2 σ2 s2 R2 S2 => ?_⟩ (z a)⟩, fun z => nomatch z⟩
    · exact q m2 H2 _ (s.trans s2) R2 (S2.unset i)
    · exact q m2 H2 _ (s.trans s2) R2 (S2.unset i)
    · exact q m2 H2 _ (s.trans s2) R2 (S2.unset i)
  · exact mb _ _ _ _ _ _ (fun c ρ' h' z => ⟨z.1, fun a => ms c z.1 a (sufE i D) (sufE i D') _ _ ⟨fun ρ2 _ q => w.nx (ρ2.set i none) _ q, w.rt, fun ρ2 _ q => w.bk (ρ2.set i none) _ q, fun ρ2 _ q => w.ct (ρ2.set i none) _ q⟩ (z.2 a)⟩) w q
def tIsE (i : Nat) (a : Addr) (b : Bool) : E3 := fun ρ h Q => ρ[i]? = some (some (.adr a)) ∧ Q (.bl b) h
theorem e3_isE {a C : Addr} {oe : Obj} {pn : List (Addr × Obj)} (i : Nat) {x : Str} {cY : V} {cv : Value} {b : Bool} {eY : Expr} {p px pos : Pos} (K : ExcC X.K C) (hz : Zc (.ref C) none oe) (hf : ∃ vs, oe.data = .fields vs) (hm : X.mg "isinstance" = none) (hY : PE (X.suite a ((a, oe) :: pn)) eY (tC cY)) (hcv : ∀ u, RelV cY u → u = cv) (kit : PySem.W.kitOne X.K (.ref C) cv = some b)
    (hN : X.N[i]? = some x := by rfl) (hv : Vis X.env.scope x := by first | exact Or.inl rfl | exact Or.inr (Or.inl rfl) | exact Or.inr (Or.inr rfl)) (hd : (x == ("__debug__" : Str)) = false := by decide) (hcd : (x == ("__classdict__" : Str)) = false := by decide) (hg : Gl X "isinstance" := by rfl)
    (he : starEach [.Name x px, eY] X.env = (false, eval (.Name x px) X.env) :: starEach [eY] X.env := by rfl) (he2 : starEach [eY] X.env = (false, eval eY X.env) :: starEach [] X.env := by rfl) (hpl : (backTo pos (starEach [eY] X.env)).any (·.1) = false := by rfl) : PE3 (X.suite a ((a, oe) :: pn)) (.Call (.Name "isinstance" p) [.Name x px, eY] [] pos) (tIsE i a b) := by
  refine ⟨PE.weak (pe_callB (call_isE K hz hf) hg hm (by decide +kernel) (pa_cons (pe_var hN hv hd hcd) (pa_cons hY pa_nil he2) he) (by decide) (by decide) he hpl) fun σ H Q ⟨m, h, ρ, R, S, e, q⟩ => ?_, fun ρ h Q Q' w q => ⟨q.1, w _ _ q.2⟩⟩
  obtain ⟨v, e1, r⟩ := S.2 i _ e
  cases r
  exact ⟨_, e1, cY, cv, b, rfl, hcv, kit, q m H _ .refl R (.bl b)⟩
/-- isinstance(e, Y), Y a class of the module -/
theorem e3_isC {a C Y : Addr} {oe : Obj} {pn : List (Addr × Obj)} (i : Nat) {x y : Str} {b : Bool} {p px py pos : Pos} (K : ExcC X.K C) (hz : Zc (.ref C) none oe) (hf : ∃ vs, oe.data = .fields vs) (hm : X.mg "isinstance" = none) (hY : X.mg y = some (.ref Y)) (kit : PySem.W.kitOne X.K (.ref C) (.ref Y) = some b) (hgy : Gl X y := by rfl) (hdy : (y == ("__debug__" : Str)) = false := by decide)
    (hN : X.N[i]? = some x := by rfl) (hv : Vis X.env.scope x := by first | exact Or.inl rfl | exact Or.inr (Or.inl rfl) | exact Or.inr (Or.inr rfl)) (hd : (x == ("__debug__" : Str)) = false := by decide) (hcd : (x == ("__classdict__" : Str)) = false := by decide) (hg : Gl X "isinstance" := by rfl)
    (he : starEach [.Name x px, .Name y py] X.env = (false, eval (.Name x px) X.env) :: starEach [.Name y py] X.env := by rfl) (he2 : starEach [.Name y py] X.env = (false, eval (.Name y py) X.env) :: starEach [] X.env := by rfl) (hpl : (backTo pos (starEach [.Name y py] X.env)).any (·.1) = false := by rfl) :
    PE3 (X.suite a ((a, oe) :: pn)) (.Call (.Name "isinstance" p) [.Name x px, .Name y py] [] pos) (tIsE i a b) :=
  e3_isE i (cY := .ref Y) K hz hf hm (pe_glob hgy hY rfl hdy) (fun u r => r) kit hN hv hd hcd hg he he2 hpl
/-- isinstance(e, ValueError) -/
theorem e3_isT {a C : Addr} {T : String} {oe : Obj} {pn : List (Addr × Obj)} (i : Nat) {x y : Str} {b : Bool} {p px py pos : Pos} (K : ExcC X.K C) (hz : Zc (.ref C) none oe) (hf : ∃ vs, oe.data = .fields vs) (hm : X.mg "isinstance" = none) (hY : X.mg y = none) (kit : PySem.W.kitOne X.K (.ref C) (.type T) = some b) (hgy : Gl X y := by rfl) (hvy : bootBuiltins y = some (.type T) := by decide +kernel) (hny : y ≠ "__name__" := by decide) (hdy : (y == ("__debug__" : Str)) = false := by decide)
    (hN : X.N[i]? = some x := by rfl) (hv : Vis X.env.scope x := by first | exact Or.inl rfl | exact Or.inr (Or.inl rfl) | exact Or.inr (Or.inr rfl)) (hd : (x == ("__debug__" : Str)) = false := by decide) (hcd : (x == ("__classdict__" : Str)) = false := by decide) (hg : Gl X "isinstance" := by rfl)
    (he : starEach [.Name x px, .Name y py] X.env = (false, eval (.Name x px) X.env) :: starEach [.Name y py] X.env := by rfl) (he2 : starEach [.Name y py] X.env = (false, eval (.Name y py) X.env) :: starEach [] X.env := by rfl) (hpl : (backTo pos (starEach [.Name y py] X.env)).any (·.1) = false := by rfl) :
    PE3 (X.suite a ((a, oe) :: pn)) (.Call (.Name "isinstance" p) [.Name x px, .Name y py] [] pos) (tIsE i a b) :=
  e3_isE i (cY := .ty T) K hz hf hm (pe_bltn hgy hY hvy rfl hny hdy) (fun u r => r) kit hN hv hd hcd hg he he2 hpl
end
end F3
set_option maxHeartbeats 1000000
/-! HZ: the book of refusals; head-first rows of refusals. -/
namespace F3
open PySem PySem.Spec PyProof.Rows L2
def subE (c y : String) : Bool := decide (c = y) || decide (y = "CordError")
structure Book (K : PySem.W.Frag) (mg : Str → Option Value) (bk : String → Addr) (rs ys : List String) : Prop where
  own : ∀ c ∈ rs, OwnE K [.type "ValueError", .type "Exception", .type "BaseException", .type "object"] "ValueError.__new__" (bk c)
  exc : ∀ c ∈ rs, ExcC K (bk c)
  ctch : ∀ c ∈ rs, PySem.W.exmOne K (.ref (bk c)) (.ref (bk "CordError")) = some true
  kit : ∀ c ∈ rs, ∀ y ∈ ys, PySem.W.kitOne K (.ref (bk c)) (.ref (bk y)) = some (subE c y)
  kitV : ∀ c ∈ rs, PySem.W.kitOne K (.ref (bk c)) (.type "ValueError") = some true
  mg : ∀ y ∈ ys, mg (PySem.Str.ofString y) = some (.ref (bk y))
theorem MonoA.c3 {te : E3} {t : A3} (me : MonoE te) (mt : MonoA t) : MonoA (tC3 te t) := fun ρ h Q Q' w q => me _ _ _ _ (fun _ _ q => mt _ _ _ _ (fun _ _ q => w _ _ q) q) q
def callX (sp : Sp3) (ds : List D) (h : Sto) (Q : DK) (E : String → Sto → Prop) (_ : Tag Q := ⟨⟩) (_ : Tag E := ⟨⟩) : Prop := sp ds h Q (xV E)
def tryW (rs : List String) (i : Nat) (su : Addr → String → C3) (D : Ends3) (ρ : S3) : String → Sto → Prop := fun c h' => c ∈ rs ∧ ∀ a, su a c (sufE i D) (ρ.set i (some (.adr a))) h'
def tryX (rs : List String) (i : Nat) (su : Addr → String → C3) (D : Ends3) : X4 := fun c ρ h => tryW rs i su D ρ c h
def isAd (o : Option (Option D)) (a : Addr) (q : Prop) (_ : Tag q := ⟨⟩) : Prop := o = some (some (.adr a)) ∧ q
section
variable {ρ : S3} {h : Sto} {Q : DK} {D : Ends3} {E : X4}
theorem tCallX_q {sp : Sp3} {ta : A3} : tCallX sp E ta ρ h Q = ta ρ h fun ds h1 => callX sp ds h1 Q (fun c h2 => E c ρ h2) := id rfl
theorem cRz_q {c : String} : cRz E c D ρ h = E c ρ h := id rfl
theorem cTryE_q {rs : List String} {i : Nat} {tb : X4 → C3} {su : Addr → String → C3} : cTryE rs i tb su D ρ h = tb (tryX rs i su D) D ρ h := id rfl
theorem tIsE_q {i : Nat} {a : Addr} {b : Bool} : tIsE i a b ρ h Q = isAd ρ[i]? a (Q (.bl b) h) := id rfl
theorem isAd_q {a : Addr} {q : Prop} : isAd (some (some (.adr a))) a q = q := by simp [isAd]
theorem sufE_nx {i : Nat} : (sufE i D).nx ρ h = D.nx (ρ.set i none) h := id rfl
theorem sufE_rt {i : Nat} {d : F3.D} : (sufE i D).rt d h = D.rt d h := id rfl
end
theorem xV_t {E : String → Sto → Prop} {c : String} {h : Sto} (q : E c h) : xV E (.type c) h := ⟨c, rfl, q⟩
/-- a refusal, the store as it was -/
theorem ge_tail {h g : Sto} {n : Nat} {E : X3} {c : String} {ρ : S3} (hn : n = h.length) (hs : ClS h.length h) (q : E (.type c) h) : GE n E c ρ (h ++ g) := by
  subst hn
  exact .inr ⟨_, Gc.tail (by simp only [ClD]) hs, q⟩
end F3
/-! HW: xs.extend(a tuple). -/
namespace F3
open PySem PySem.Spec PyProof.Rows L2
/-- of any tuple's object -/
theorem ext_tup (l : Addr) (xs : Array Value) (n : Nat) (b : Addr) (ys : Array Value) (hs0 : ¬ (!xs.isEmpty && Builtin.List.listTooLong (xs.size + ys.size)) = true) (hs1 : xs.size ≤ sizeLine) (hs2 : xs.size + ys.size ≤ sizeLine + 1) :
    Meets (Builtin.«list.extend» ⟨[.ref l, .ref b], []⟩) (fun _ R s => s.heap.get? l = some { cls := .type "list", dict := none, data := .seq xs n, slots := #[] } ∧ IsTup s.heap b ys ∧ R (.ok (.ret Value.none)) { s with heap := s.heap.update l (Obj.mapSeq fun x => x ++ ys), toks := s.toks }) := by
  refine .of_wp fun prog w A R s hh => ?_
  obtain ⟨hl, ⟨⟨c, dd, dt, sl⟩, hb, e1, n2, e2⟩, q⟩ := hh
  obtain ⟨hp, g, d, tk, os⟩ := s
  simp only at e1 e2
  subst e1 e2
  have f1 := AutoSeq1.sub_tuple_tuple
  have f2 := AutoSeq1.sub_list_list
  have f3 := AutoSeq1.sub_tuple_list
  have f4 := AutoSeq1.sub_list_tuple
  have hz' : (xs ++ ys).size ≤ sizeLine + 1 := by rw [Array.size_append]; exact hs2
  wp_walk using (wpAny_updateSeq hl rfl (hz := hs1) (_hz' := hz')), AutoSeq1.wpAny_loadPart' hl, AutoSeq1.wpAny_loadPart' hb
  exact ⟨_, rfl, q⟩
section
variable {X : Cx}
def rExtU : V → List V → Hp → VK → Prop := fun x vs H Q => rExtend x vs H Q ∨ ∃ l b xs zs, x = .ref l ∧ vs = [.ref b] ∧ H l = some (.lst xs) ∧ SqT X.K H b zs ∧ xs.length + zs.length ≤ sizeLine ∧ Q .non (upd H l (.lst (xs ++ zs)))
theorem mt_extendU : MtM X "list.extend" (rExtU (X := X)) := by
  intro pins s σ H x vs v us Q I rx rv h
  rcases h with h | h
  · exact mt_extend pins s σ H x vs v us Q I rx rv h
  obtain ⟨l, b, xs, zs, rfl, rfl, hH, hB, hz, q⟩ := h
  cases rx
  obtain ⟨u, rfl, ru⟩ := rv.one
  cases ru
  obtain ⟨z, its, n, r, hl, e⟩ := I.lstM hH
  obtain ⟨its2, r2, it, z2⟩ := I.tuple hB
  have hl2 := r2.length
  have hsz : its.toArray.size + its2.toArray.size ≤ sizeLine := by rw [List.size_toArray, List.size_toArray]; omega
  have hlong : ¬ (!its.toArray.isEmpty && Builtin.List.listTooLong (its.toArray.size + its2.toArray.size)) = true := by
    rw [notLongL hsz, Bool.and_false]
    exact Bool.false_ne_true
  refine call_meets F.slot_list_extend ⟨_, e, rfl⟩ F.entry_list_extend (F.args_list_extend_2 _ _)
    (ext_tup l its.toArray n b its2.toArray hlong (by rw [List.size_toArray]; omega) (by omega)) ⟨e, it, ?_⟩
  refine ⟨.non, _, I.lset (its' := its ++ its2) hH e (by simp) (r.append r2) ?_, rfl, q⟩
  rw [List.length_append]
  omega
def extU : T3 := fun xs ds h Q => match ds with
  | [.ref n] => match h[n]? with
    | some (.lst zs) => xs.length + zs.length ≤ 16777216 ∧ Q .non (xs ++ zs)
    | _ => False
  | [.tup zs] => xs.length + zs.length ≤ 16777216 ∧ Q .non (xs ++ zs)
  | _ => False
theorem m_extendU : Mt3 X "list.extend" extU := by
  refine ⟨fun xs ds h Q Q' w q => ?_, _, mt_extendU, fun m h H a xs vs ds ws Q R ea hm rx rs q => ?_⟩
  · unfold extU at q ⊢
    split at q
    · split at q
      · exact ⟨q.1, w _ _ q.2⟩
      · exact q.elim
    · exact ⟨q.1, w _ _ q.2⟩
    · exact q.elim
  · unfold extU at q
    split at q
    · split at q
      next zs e =>
        match ws, rs with
        | [_], .cons r .nil =>
          obtain ⟨b, us, rfl, _, eb, r2⟩ := RelD.inst R r e
          exact .inl ⟨a, b, vs, us, rfl, rfl, ea, eb, by rw [sizeLine_eq, ← rx.length, ← r2.length]; exact q.1, q.2 _ _ .non (rx.append r2)⟩
      next => exact q.elim
    · match ws, rs with
      | [_], .cons (.tup et r2) .nil =>
        exact .inr ⟨a, _, vs, _, rfl, rfl, ea, .inl (.inl et), by rw [sizeLine_eq, ← rx.length, ← r2.length]; exact q.1, q.2 _ _ .non (rx.append r2)⟩
    · exact q.elim
theorem extU_tq {xs zs : List D} {h : Sto} {Q : D → List D → Prop} : extU xs [.tup zs] h Q = (xs.length + zs.length ≤ 16777216 ∧ Q .non (xs ++ zs)) := id rfl
end
end F3
set_option maxHeartbeats 400000
/-! HV: three targets at once (not to be joined with LW). -/
namespace F3
open PySem PySem.Spec PyProof.Rows L2
section
variable {X : Cx}
def cPar3 (i j l : Nat) (ta : A3) : C3 := fun D ρ h => ta ρ h fun vs h1 => match vs with
  | [a, b, c] => D.nx (((ρ.set i (some a)).set j (some b)).set l (some c)) h1
  | _ => False
theorem c3_par3 (i j l : Nat) {x y z : Str} {a b c : Expr} {ta : A3} {px py pz pt : Pos} {kt k2 pt2} {pos : Pos} (hc : X.calm = true) (hN : X.N.Nodup) (ha : PA3 X [a, b, c] ta) (hi : X.N[i]? = some x := by rfl) (hj : X.N[j]? = some y := by rfl) (hl : X.N[l]? = some z := by rfl) (hij : i ≠ j := by decide) (hil : i ≠ l := by decide) (hjl : j ≠ l := by decide)
    (hx : X.env.scope.names.lookup x = some .local := by rfl) (hy : X.env.scope.names.lookup y = some .local := by rfl) (hz : X.env.scope.names.lookup z = some .local := by rfl)
    (hw : swappedStores [.Tuple [.Name x px, .Name y py, .Name z pz] kt pt] (.Tuple [a, b, c] k2 pt2) X.env = pure (some [x, y, z]) := by rfl)
    (hs : swapsWithSole [.Tuple [.Name x px, .Name y py, .Name z pz] kt pt] (.Tuple [a, b, c] k2 pt2) pos.line X.env = pure false := by rfl) :
    PC3 X (.Assign [.Tuple [.Name x px, .Name y py, .Name z pz] kt pt] (.Tuple [a, b, c] k2 pt2) pos) (cPar3 i j l ta) := by
  refine ⟨PS.weak (ps_par3 hc hN hi hj hl hij hil hjl hx hy hz ha.pe hw hs) fun D σ H ⟨m, h, ρ, R, S, q⟩ => ?_, fun D D' ρ h w q => ha.mono _ _ _ _ (fun vs h1 q => ?_) q⟩
  · refine LA.bind ha.mono R S q fun m1 H1 vs xs h1 s1 R1 rx S1 q1 => ?_
    match xs, rx, q1 with
    | [a, b, c], .cons r1 (.cons r2 (.cons r3 .nil)), q1 => exact ⟨_, _, _, rfl, q1 m1 H1 _ s1 R1 (((S1.set r1 i).set r2 j).set r3 l)⟩
  · match vs, q with
    | [a, b, c], q => exact w.nx _ _ q
end
def parD3 (i j l : Nat) (ρ : S3) (h : Sto) (F : S3 → Sto → Prop) (vs : List D) (_ : Tag F := ⟨⟩) : Prop := match vs with
  | [a, b, c] => F (((ρ.set i (some a)).set j (some b)).set l (some c)) h
  | _ => False
theorem cPar3_q {E : Ends3} {ρ : S3} {h : Sto} {i j k : Nat} {t : A3} : cPar3 i j k t E ρ h = t ρ h fun vs h1 => parD3 i j k ρ h1 E.nx vs := id rfl
theorem parD3_q {ρ : S3} {h : Sto} {i j k : Nat} {F : S3 → Sto → Prop} {d e f : D} : parD3 i j k ρ h F [d, e, f] = F (((ρ.set i (some d)).set j (some e)).set k (some f)) h := id rfl
theorem gcd_turn (a b : Int) : Int.gcd b (a % b) = Int.gcd a b := by
  rw [Int.gcd_comm a b]
  have h : b * (a / b) + a % b = a := Int.mul_ediv_add_emod a b
  calc Int.gcd b (a % b) = Int.gcd b (a % b + b * (a / b)) := (Int.gcd_add_mul_left_right b (a % b) (a / b)).symm
    _ = Int.gcd b a := by rw [Int.add_comm, h]
end F3
set_option maxHeartbeats 400000
/-! WB: the laws' weighings, drawn. -/
namespace F3
open PySem PySem.Spec PyProof.Rows L2
def NumOk (r : Int) : Prop := -(10 ^ 62) ≤ r ∧ r ≤ 10 ^ 62
def r_number_1 : C3 :=
  (cSeq (cAsg (tCall3 sp_take (tC3 (tV 0) (tC3 (tIxX (tC3 (tO powR (tK (.int 10)) (tK (.int 3))) (tC3 (tO powR (tK (.int 10)) (tK (.int 20))) (tC3 (tO powR (tK (.int 10)) (tK (.int 62))) tN3))) (tO subR (tV 1) (tK (.int 5)))) tN3))) (gN 2))
    (cRet (tO mulR (tV 2) (tO subR (tK (.int 1)) (tO mulR (tK (.int 2)) (tCall3 sp_take (tC3 (tV 0) (tC3 (tK (.int 2)) tN3))))))))
def t_number : C3 :=
  (cSeq (cAsg (tCall3 sp_take (tC3 (tV 0) (tC3 (tK (.int 8)) tN3))) (gN 1))
    (cSeq (cIf (tT (tO ltR (tV 1) (tK (.int 5)))) (cRet (tO subR (tCall3 sp_take (tC3 (tV 0) (tC3 (tK (.int 9)) tN3))) (tK (.int 3)))) cNext)
    r_number_1))

def sp_number : Sp3 := spW (fun (_ : Unit) => []) (fun _ _ => True) (fun _ h d g => ∃ r : Int, NumOk r ∧ d = .int r ∧ g = [])
theorem mono_number : MonoS sp_number := mono_spW
theorem len_number : ∀ ds h Q E, sp_number ds h Q E → ds.length = 1 := len_spW fun _ => rfl
theorem rd_number : ∀ ds h Q E, ClS h.length h → ClDs h.length ds → sp_number ds h Q E → t_number (ends3 (GQ h.length Q)) (start3 3 ds) h := by
  rintro ds h Q E _ _ w
  obtain ⟨a, c, s, _, rfl, ha, hd, _, eh, q⟩ := spW_in w
  conv => arg 3; rw [eh]
  try simp only [↓tV_q, ↓tK_q, ↓tN3_q, ↓tC3_q, ↓cSeq_q, ↓cAsg_q, ↓tCall3_q, ↓start3_q, onO_some, List.getElem?_cons_zero, List.map_cons, List.map_nil, List.cons_append, List.nil_append, List.length_cons, List.length_nil, List.replicate_succ, List.replicate_zero, Nat.reduceAdd, Nat.reduceSub, t_number]
  refine take_q ha hd (by first | decide | omega) (by first | decide | omega) fun c s way hd way0 way1 => ?_
  try simp only [↓tV_q, ↓tK_q, ↓tO_q, ↓tT_q, ↓cSeq_q, ↓cIf_q, ↓gN_q, ↓start3_q, ↓ltR_ii_q, thenE_nx, onO_some, onB_bl, List.getElem?_cons_zero, List.getElem?_cons_succ, List.set_cons_zero, List.set_cons_succ, List.map_cons, List.map_nil, List.cons_append, List.nil_append, List.length_cons, List.length_nil, List.replicate_succ, List.replicate_zero, Nat.reduceAdd, Nat.reduceSub]
  refine ifC_of (fun hw => ?_) (fun hw => ?_)
  · try simp only [↓tV_q, ↓tK_q, ↓tO_q, ↓tN3_q, ↓tC3_q, ↓cRet_q, ↓tCall3_q, onO_some, List.getElem?_cons_zero]
    refine take_q ha hd (by first | decide | omega) (by first | decide | omega) fun c s r hd r0 r1 => ?_
    try simp only [↓tK_q, ↓subR_ii_q, thenE_rt, ends3_rt]
    exact .inl (q _ _ [] _ hd ⟨r - 3, ⟨by omega, by omega⟩, rfl, rfl⟩)
  · try simp only [↓tV_q, ↓tK_q, ↓tO_q, ↓tN3_q, ↓tC3_q, ↓cNext_q, ↓cSeq_q, ↓cAsg_q, ↓tCall3_q, ↓tIxX_q, ↓subR_ii_q, ↓powR_ii_q, thenE_nx, onO_some, onI_int, List.getElem?_cons_zero, List.getElem?_cons_succ, true_and, Int.reduceLE, r_number_1]
    refine ⟨by decide, by decide, by decide, ?_⟩
    refine atT_all (by omega) (by simp; omega) fun x hx => ?_
    have hx : ∃ n : Int, x = .int n ∧ 0 < n ∧ n ≤ 10 ^ 62 := by
      simp only [List.mem_cons, List.not_mem_nil, or_false] at hx
      rcases hx with rfl | rfl | rfl <;> exact ⟨_, rfl, by decide, by decide⟩
    obtain ⟨n, rfl, n0, n1⟩ := hx
    refine take_q ha hd (by first | decide | omega) (by first | decide | omega) fun c s f hd f0 f1 => ?_
    try simp only [↓tV_q, ↓tK_q, ↓tO_q, ↓tN3_q, ↓tC3_q, ↓cRet_q, ↓gN_q, ↓tCall3_q, thenE_nx, onO_some, List.getElem?_cons_zero, List.getElem?_cons_succ, List.set_cons_zero, List.set_cons_succ]
    refine take_q ha hd (by first | decide | omega) (by first | decide | omega) fun c s b hd b0 b1 => ?_
    try simp only [↓subR_ii_q, ↓mulR_ii_q, ends3_rt]
    refine ⟨mulOk_l (by decide), mulOk_r (by omega), .inl (q _ _ [] _ hd ⟨_, ?_, rfl, rfl⟩)⟩
    have : b = 0 ∨ b = 1 := by omega
    rcases this with rfl | rfl
    · exact ⟨by omega, by omega⟩
    · exact ⟨by omega, by omega⟩
theorem number_q {h g : Sto} {a : Nat} {c s : Int} {Q : DK} (ha : a < h.length) (hd : DrawOk c s) (q : ∀ c s r, DrawOk c s → NumOk r → Q (.int r) (W h a c s g)) : callS sp_number [.ref a] (W h a c s g) Q :=
  call_W () ha hd rfl trivial fun c' s' k d hd' ⟨r, hr, e1, e2⟩ => by
    subst e1; subst e2
    rw [List.append_nil]
    exact q _ _ r hd' hr
def WtOk (n : Nat) (w : List Int) : Prop := w.length = n ∧ ∀ r ∈ w, NumOk r
def e_weights_1 : E3 :=
  (tCall3 sp_number (tC3 (tV 0) tN3))
def t_weights : C3 :=
  (cRet (tB3 tupX (tLc3 (iRng (tC3 (tV 1) tN3)) (gN 2) bYes e_weights_1 [2])))

def sp_weights : Sp3 := spW (fun (n : Nat) => [.int n]) (fun n _ => n ≤ 100) (fun n h d g => ∃ w : List Int, WtOk n w ∧ d = wtD w ∧ g = [])
theorem mono_weights : MonoS sp_weights := mono_spW
theorem len_weights : ∀ ds h Q E, sp_weights ds h Q E → ds.length = 2 := len_spW fun _ => rfl
theorem rd_weights : ∀ ds h Q E, ClS h.length h → ClDs h.length ds → sp_weights ds h Q E → t_weights (ends3 (GQ h.length Q)) (start3 3 ds) h := by
  rintro ds h Q E _ _ w
  obtain ⟨a, c, s, n, rfl, ha, hd, hn, eh, q⟩ := spW_in w
  conv => arg 3; rw [eh]
  try simp only [↓tV_q, ↓tN3_q, ↓tC3_q, ↓cRet_q, ↓iRng_q, ↓rngD_1q, ↓tLc3_q, ↓tB3_q, ↓start3_q, onO_some, wipe3_nil, wipe3_cons, List.getElem?_cons_zero, List.getElem?_cons_succ, List.set_cons_zero, List.set_cons_succ, List.map_cons, List.map_nil, List.cons_append, List.nil_append, List.length_cons, List.length_nil, List.replicate_succ, List.replicate_zero, Nat.reduceAdd, Nat.reduceSub, t_weights]
  have hn' : n ≤ 100 := hn
  refine ⟨⟨by omega, by omega⟩, by simp; omega, ?_⟩
  refine lcQ (fun xs acc h' => ∃ c s w, DrawOk c s ∧ acc = w.map D.int ∧ (∀ r ∈ w, NumOk r) ∧ w.length + xs.length = n ∧ h' = W h a c s []) ⟨c, s, [], hd, rfl, by simp, by simp, rfl⟩ (fun _ _ _ _ => trivial) ?_ ?_
  · rintro acc h' ⟨c, s, w, hd, rfl, hw, hl, rfl⟩
    exact .inl (q _ _ [] _ hd ⟨w, ⟨by simpa using hl, hw⟩, rfl, rfl⟩)
  · rintro x r acc h' F ⟨c, s, w, hd, rfl, hw, hl, rfl⟩ hF
    try simp only [↓tV_q, ↓tN3_q, ↓tC3_q, ↓gN_q, ↓bYes_q, ↓tCall3_q, onO_some, ifC_true, List.getElem?_cons_zero, List.set_cons_zero, List.set_cons_succ, e_weights_1]
    refine number_q ha hd fun c s r hd hr => ?_
    refine hF _ _ ⟨c, s, w ++ [r], hd, by simp, fun x hx => ?_, by simp at hl ⊢; omega, rfl⟩
    rcases List.mem_append.mp hx with z | z
    · exact hw x z
    · rw [List.mem_singleton.mp z]; exact hr
theorem weights_q {h g : Sto} {a n : Nat} {c s : Int} {Q : DK} (ha : a < h.length) (hd : DrawOk c s) (hn : n ≤ 100) (q : ∀ c s w, DrawOk c s → WtOk n w → Q (wtD w) (W h a c s g)) : callS sp_weights [.ref a, .int n] (W h a c s g) Q :=
  call_W n ha hd rfl hn fun c' s' k d hd' ⟨r, hr, e1, e2⟩ => by
    subst e1; subst e2
    rw [List.append_nil]
    exact q _ _ r hd' hr
def t_many : C3 :=
  (cRet (tO addR (tK (.int 1)) (tCall3 sp_take (tC3 (tV 0) (tC3 (tIxX (tC3 (tK (.int 3)) (tC3 (tK (.int 3)) (tC3 (tK (.int 40)) (tC3 (tO powR (tK (.int 10)) (tK (.int 6))) (tC3 (tO powR (tK (.int 10)) (tK (.int 30))) (tC3 (tO powR (tK (.int 10)) (tK (.int 59))) tN3)))))) (tCall3 sp_take (tC3 (tV 0) (tC3 (tK (.int 6)) tN3)))) tN3)))))

def sp_many : Sp3 := spW (fun (_ : Unit) => []) (fun _ _ => True) (fun _ h d g => ∃ r : Int, (1 ≤ r ∧ r ≤ 10 ^ 59) ∧ d = .int r ∧ g = [])
theorem mono_many : MonoS sp_many := mono_spW
theorem len_many : ∀ ds h Q E, sp_many ds h Q E → ds.length = 1 := len_spW fun _ => rfl
theorem rd_many : ∀ ds h Q E, ClS h.length h → ClDs h.length ds → sp_many ds h Q E → t_many (ends3 (GQ h.length Q)) (start3 1 ds) h := by
  rintro ds h Q E _ _ w
  obtain ⟨a, c, s, _, rfl, ha, hd, _, eh, q⟩ := spW_in w
  conv => arg 3; rw [eh]
  try simp only [↓tV_q, ↓tK_q, ↓tO_q, ↓tN3_q, ↓tC3_q, ↓cRet_q, ↓tCall3_q, ↓tIxX_q, ↓start3_q, ↓powR_ii_q, onO_some, List.getElem?_cons_zero, List.map_cons, List.map_nil, List.cons_append, List.nil_append, List.length_cons, List.length_nil, List.replicate_zero, Nat.reduceAdd, Nat.reduceSub, true_and, Int.reduceLE, t_many]
  refine ⟨by decide, by decide, by decide, ?_⟩
  refine take_q ha hd (by first | decide | omega) (by first | decide | omega) fun c s way hd way0 way1 => ?_
  try simp only [onI_int]
  refine atT_all (by omega) (by simp; omega) fun x hx => ?_
  have hx : ∃ n : Int, x = .int n ∧ 0 < n ∧ n ≤ 10 ^ 59 := by
    simp only [List.mem_cons, List.not_mem_nil, or_false] at hx
    rcases hx with rfl | rfl | rfl | rfl | rfl | rfl <;> exact ⟨_, rfl, by decide, by decide⟩
  obtain ⟨n, rfl, n0, n1⟩ := hx
  refine take_q ha hd (by first | decide | omega) (by first | decide | omega) fun c s r hd r0 r1 => ?_
  try simp only [↓addR_ii_q, ends3_rt]
  exact .inl (q _ _ [] _ hd ⟨1 + r, ⟨by omega, by omega⟩, rfl, rfl⟩)
theorem many_q {h g : Sto} {a : Nat} {c s : Int} {Q : DK} (ha : a < h.length) (hd : DrawOk c s) (q : ∀ c s r, DrawOk c s → 1 ≤ r → r ≤ 10 ^ 59 → Q (.int r) (W h a c s g)) : callS sp_many [.ref a] (W h a c s g) Q :=
  call_W () ha hd rfl trivial fun c' s' k d hd' ⟨r, hr, e1, e2⟩ => by
    subst e1; subst e2
    rw [List.append_nil]
    exact q _ _ r hd' hr.1 hr.2
def PcOk (n : Nat) (p : Pc) : Prop := 1 ≤ p.1 ∧ p.1 ≤ 10 ^ 59 ∧ WtOk n p.2
def e_pieces_1 : E3 :=
  (tCall3 sp_weights (tC3 (tV 0) (tC3 (tV 1) tN3)))
def b_pieces_1 : C3 :=
  (cSeq (cAsg (tCall3 sp_many (tC3 (tV 0) tN3)) (gN 6))
    (cDrop (tLM appT (tV 4) (tC3 (tTup3 (tC3 (tV 6) (tC3 (tO ixR (tV 3) (tCall3 sp_take (tC3 (tV 0) (tC3 (tB3 lenR (tC3 (tV 3) tN3)) tN3)))) tN3))) tN3))))
def t_pieces : C3 :=
  (cSeq (cAsg (tNew (tLc3 (iRng (tC3 (tO addR (tK (.int 1)) (tCall3 sp_take (tC3 (tV 0) (tC3 (tK (.int 4)) tN3)))) tN3)) (gN 5) bYes e_pieces_1 [5])) (gN 3))
    (cSeq (cAsg (tNew tN3) (gN 4))
    (cSeq (cFor (iRng (tC3 (tV 2) tN3)) (gN 5) b_pieces_1)
    (cRet (tV 4)))))

def sp_pieces : Sp3 := spW (fun (x : Nat × Nat) => [.int x.1, .int x.2]) (fun x _ => x.1 ≤ 100 ∧ x.2 ≤ 100) (fun x h d g => ∃ ps : List Pc, (∀ p ∈ ps, PcOk x.1 p) ∧ ps.length = x.2 ∧ d = .ref h.length ∧ g = [.lst (ps.map pcD)])
theorem mono_pieces : MonoS sp_pieces := mono_spW
theorem len_pieces : ∀ ds h Q E, sp_pieces ds h Q E → ds.length = 3 := len_spW fun _ => rfl
theorem rd_pieces : ∀ ds h Q E, ClS h.length h → ClDs h.length ds → sp_pieces ds h Q E → t_pieces (ends3 (GQ h.length Q)) (start3 7 ds) h := by
  rintro ds h Q E hcl _ w
  obtain ⟨a, c, s, ⟨wd, most⟩, rfl, ha, hd, hn, eh, q⟩ := spW_in w
  conv => arg 3; rw [eh]
  try simp only [↓tV_q, ↓tK_q, ↓tO_q, ↓tN3_q, ↓tC3_q, ↓tNew_q, ↓cSeq_q, ↓cAsg_q, ↓iRng_q, ↓tLc3_q, ↓tCall3_q, ↓start3_q, onO_some, List.getElem?_cons_zero, List.map_cons, List.map_nil, List.cons_append, List.nil_append, List.length_cons, List.length_nil, List.replicate_succ, List.replicate_zero, Nat.reduceAdd, Nat.reduceSub, t_pieces]
  have hn1 : wd ≤ 100 := hn.1
  have hn2 : most ≤ 100 := hn.2
  refine take_q ha hd (by first | decide | omega) (by first | decide | omega) fun c s k hd k0 k1 => ?_
  try simp only [↓tN3_q, ↓rngD_1q, ↓start3_q, ↓addR_ii_q, wipe3_nil, wipe3_cons, List.set_cons_zero, List.set_cons_succ, List.map_cons, List.map_nil, List.cons_append, List.nil_append, List.length_cons, List.length_nil, List.replicate_succ, List.replicate_zero, Nat.reduceAdd, Nat.reduceSub]
  refine ⟨⟨by omega, by omega⟩, by simp; omega, ?_⟩
  refine lcQ (fun xs acc h' => ∃ c s, ∃ ws : List (List Int), DrawOk c s ∧ acc = ws.map wtD ∧ (∀ r ∈ ws, WtOk wd r) ∧ (ws.length : Int) + xs.length = 1 + k ∧ h' = W h a c s []) ⟨c, s, [], hd, rfl, by simp, by simp; omega, rfl⟩ (fun _ _ _ _ => trivial) ?_ ?_
  rotate_left
  · rintro x r acc h' F ⟨c, s, w, hd, rfl, hw, hl, rfl⟩ hF
    try simp only [↓tV_q, ↓tN3_q, ↓tC3_q, ↓gN_q, ↓bYes_q, ↓tCall3_q, onO_some, ifC_true, List.getElem?_cons_zero, List.getElem?_cons_succ, List.set_cons_zero, List.set_cons_succ, e_pieces_1]
    refine weights_q ha hd hn1 fun c s r hd hr => ?_
    refine hF _ _ ⟨c, s, w ++ [r], hd, by simp, fun x hx => ?_, by simp at hl ⊢; omega, rfl⟩
    rcases List.mem_append.mp hx with z | z
    · exact hw x z
    · rw [List.mem_singleton.mp z]; exact hr
  · rintro acc h' ⟨c, s, ws, hd, rfl, hw, hl, rfl⟩
    have hl : (ws.length : Int) = 1 + k := by simpa using hl
    try simp only [↓tV_q, ↓tN3_q, ↓tC3_q, ↓tNew_q, ↓cSeq_q, ↓cAsg_q, ↓gN_q, ↓cFor_q, ↓iRng_q, ↓rngD_1q, ↓start3_q, thenE_nx, onO_some, W_len, W_app, List.getElem?_cons_zero, List.getElem?_cons_succ, List.set_cons_zero, List.set_cons_succ, List.map_cons, List.map_nil, List.cons_append, List.nil_append, List.length_cons, List.length_nil, List.replicate_succ, List.replicate_zero, Nat.reduceAdd, Nat.reduceSub, Nat.add_zero, W_app, W_len]
    refine ⟨⟨by omega, by omega⟩, ?_⟩
    refine forQ (fun xs ρ h' => ∃ c s, ∃ ps : List Pc, ∃ o5 o6, DrawOk c s ∧ (∀ p ∈ ps, PcOk wd p) ∧ ps.length + xs.length = most ∧ ρ = [some (.ref a), some (.int wd), some (.int most), some (.ref h.length), some (.ref (h.length + 1)), o5, o6] ∧ h' = W h a c s [.lst (ws.map wtD), .lst (ps.map pcD)]) ⟨c, s, [], _, _, hd, by simp, by simp, rfl, rfl⟩ (fun _ _ _ _ => trivial) ?_ ?_
    · rintro ρ h' ⟨c, s, ps, o5, o6, hd, hp, hl, rfl, rfl⟩
      try simp only [↓tV_q, ↓cRet_q, thenE_nx, ends3_rt, onO_some, List.getElem?_cons_zero, List.getElem?_cons_succ]
      exact gq_W (n := 1) ha hcl rfl cl_pcs (q _ _ _ _ hd ⟨ps, hp, by simpa using hl, rfl, rfl⟩)
    · rintro x r ρ h' F ⟨c, s, ps, o5, o6, hd, hp, hl', rfl, rfl⟩ hF
      try simp only [↓tV_q, ↓tN3_q, ↓tC3_q, ↓cSeq_q, ↓cAsg_q, ↓gN_q, ↓tCall3_q, onO_some, List.getElem?_cons_zero, List.set_cons_zero, List.set_cons_succ, b_pieces_1]
      refine many_q ha hd fun c s m hd m0 m1 => ?_
      try simp only [↓tV_q, ↓tO_q, ↓tN3_q, ↓tC3_q, ↓tTup3_q, ↓cDrop_q, ↓gN_q, ↓tCall3_q, ↓tB3_q, ↓tLM_q, ↓lmD_q, ↓lenR_rq, thenE_nx, onO_some, onC_q, W_get0, W_getk, List.getElem?_cons_zero, List.getElem?_cons_succ, List.set_cons_zero, List.set_cons_succ, W_get0, W_getk]
      simp only [List.length_map]
      refine take_q ha hd (by first | decide | omega) (by first | decide | omega) fun c s i hd i0 i1 => ?_
      try simp only [↓ixR_rq, onC_q, W_get0, List.getElem?_cons_zero]
      skip
      have il : i.toNat < ws.length := by omega
      have e1 : atI (ws.map wtD) i = some (wtD ws[i.toNat]) := by
        rw [atI_map, atI_get (by omega) (by omega), List.getElem?_eq_getElem il]; rfl
      rw [atT_of e1]
      try simp only [↓tN3_q, ↓appT_q, loopE_nx, onC_q, W_getk, W_setk, List.getElem?_cons_zero, List.getElem?_cons_succ, List.set_cons_zero, List.set_cons_succ, W_getk]
      refine ⟨by simp; simp at hl'; omega, ?_⟩
      skip
      refine hF _ _ ⟨c, s, ps ++ [(m, ws[i.toNat])], _, _, hd, fun p hm => ?_, by simp at hl' ⊢; omega, rfl, by simp [pcD]⟩
      rcases List.mem_append.mp hm with z | z
      · exact hp p z
      · rw [List.mem_singleton.mp z]
        exact ⟨m0, m1, hw _ (List.getElem_mem _)⟩
theorem pieces_q {h g : Sto} {a n m : Nat} {c s : Int} {Q : DK} (ha : a < h.length) (hd : DrawOk c s) (hn : n ≤ 100) (hm : m ≤ 100) (q : ∀ (c s : Int) (ps : List Pc), DrawOk c s → (∀ p ∈ ps, PcOk n p) → ps.length = m → Q (.ref (h.length + g.length)) (W h a c s (g ++ [.lst (ps.map pcD)]))) : callS sp_pieces [.ref a, .int n, .int m] (W h a c s g) Q :=
  call_W (n, m) ha hd rfl ⟨hn, hm⟩ fun c' s' k d hd' ⟨ps, hp, hl, e1, e2⟩ => by
    subst e1; subst e2
    rw [W_len]
    exact q _ _ ps hd' hp hl
end F3
set_option maxHeartbeats 400000
namespace F3
open PySem PySem.Spec PyProof.Rows L2
/-! ### shape -/
def r_shape_1 : C3 :=
  (cDrop (tLM appT (tV 1) (tC3 (tTup3 (tC3 (tV 2) (tC3 (tV 3) tN3))) tN3)))
def b_shape_1 : C3 :=
  (cIf (tT (tO gtR (tV 2) (tK (.int 0)))) (cSeq (cIf (tAnd3 (tT (tOX (eqX true) (tV 1) tN3)) (tT (tO eqR (tO ixR (tO ixR (tV 1) (tU negR (tK (.int 1)))) (tK (.int 1))) (tV 3)))) (cAsg (tO addR (tV 2) (tO ixR (tLM popT (tV 1) tN3) (tK (.int 0)))) (gN 2)) cNext)
    r_shape_1) cNext)
def t_shape : C3 :=
  (cSeq (cAsg (tNew tN3) (gN 1))
    (cSeq (cFor (iSeq (tV 0)) (gTup3 2 (gCons3 (gN 2) (gCons3 (gN 3) gNil3))) b_shape_1)
    (cRet (tV 1))))

def b_shaped_1 : C3 :=
  (cIf (tAnd3 (tT (tO gtR (tV 2) (tK (.int 0)))) (tAnd3 (tT (tOX (eqX true) (tV 1) tN3)) (tT (tO eqR (tO ixR (tO ixR (tV 1) (tU negR (tK (.int 1)))) (tK (.int 1))) (tV 3))))) (cAsg (tTup3 (tC3 (tO addR (tO ixR (tO ixR (tV 1) (tU negR (tK (.int 1)))) (tK (.int 0))) (tV 2)) (tC3 (tV 3) tN3))) (gSub3 (tV 1) (tU negR (tK (.int 1))))) (cIf (tT (tO gtR (tV 2) (tK (.int 0)))) (cDrop (tLM appT (tV 1) (tC3 (tTup3 (tC3 (tV 2) (tC3 (tV 3) tN3))) tN3))) cNext))
def t_shaped : C3 :=
  (cSeq (cAsg (tNew tN3) (gN 1))
    (cSeq (cFor (iSeq (tV 0)) (gTup3 2 (gCons3 (gN 2) (gCons3 (gN 3) gNil3))) b_shaped_1)
    (cRet (tV 1))))

def sp_shape : Sp3 := spD (fun (x : Nat × List Pc) => [.ref x.1]) (fun x h => h[x.1]? = some (.lst (x.2.map pcD)) ∧ x.2.length ≤ 1000000) (fun x h => .ref h.length) (fun x h => h ++ [.lst ((shp x.2).map pcD)])
theorem mono_shape : MonoS sp_shape := mono_spD
theorem len_shape : ∀ ds h Q E, sp_shape ds h Q E → ds.length = 1 := len_spD fun _ => rfl
theorem sh_len (w : List Pc) (p : Pc) : (shStep w p).length ≤ w.length + 1 := by
  unfold shStep
  split
  · split
    · split
      · simp
        try omega
      · simp
    · simp
  · omega
theorem eqX_e0 {h : Sto} {n : Nat} {neg : Bool} {Q : DK} (e : h[n]? = some (.lst [])) : eqX neg (.ref n) [] h Q = Q (.bl (!neg)) h := by
  rw [eqX_pcs0 (w := []) (by simpa using e)]
  cases neg <;> rfl
theorem pop_pc {w : List Pc} {z : Pc} : ((w ++ [z]).map pcD)[((w ++ [z]).map pcD).length - 1]? = some (pcD z) := by simp
theorem dl_pc {w : List Pc} {z : Pc} : ((w ++ [z]).map pcD).dropLast = w.map pcD := by simp
theorem atT_neg1 {w : List Pc} {p : Pc} {k : D → Prop} : atT ((w ++ [p]).map pcD) (-1) k = k (pcD p) := by
  rw [List.map_append, List.map_singleton, atT_last]
theorem rd_shape : ∀ ds h Q E, ClS h.length h → ClDs h.length ds → sp_shape ds h Q E → t_shape (ends3 (GQ h.length Q)) (start3 4 ds) h := by
  rintro ds h Q E hcl _ ⟨⟨n, ps⟩, rfl, ⟨hn, hl⟩, q⟩
  have hn' : h[n]? = some (.lst (ps.map pcD)) := hn
  have hl' : ps.length ≤ 1000000 := hl
  have up : ∀ c : Cell, (h ++ [c])[n]? = some (.lst (ps.map pcD)) := fun c => by rw [List.getElem?_append_left (lt_of_get hn)]; exact hn
  have e0 : ∀ c : Cell, (h ++ [c])[h.length]? = some c := fun c => by simp
  have s0 : ∀ c c' : Cell, (h ++ [c]).set h.length c' = h ++ [c'] := fun c c' => set_app0
  try simp only [↓tV_q, ↓tN3_q, ↓tNew_q, ↓cSeq_q, ↓cAsg_q, ↓gN_q, ↓cFor_q, ↓iSeq_q, ↓iSeqD_rq, ↓start3_q, thenE_nx, onO_some, onC_q, List.getElem?_cons_zero, List.set_cons_zero, List.set_cons_succ, List.map_cons, List.map_nil, List.cons_append, List.nil_append, List.length_cons, List.length_nil, List.replicate_succ, List.replicate_zero, Nat.reduceAdd, Nat.reduceSub, t_shape, up]
  refine forQ (fun xs ρ h' => ∃ l r : List Pc, ∃ o2 o3, ps = l ++ r ∧ xs = r.map pcD ∧ (shp l).length ≤ l.length ∧ ρ = [some (.ref n), some (.ref h.length), o2, o3] ∧ h' = h ++ [.lst ((shp l).map pcD)]) ⟨[], ps, _, _, rfl, rfl, Nat.le_refl _, rfl, rfl⟩ ?_ ?_ ?_
  · rintro xs ρ h' ⟨l, r, o2, o3, rfl, rfl, _, rfl, rfl⟩
    exact up _
  · rintro ρ h' ⟨l, r, o2, o3, e, e2, _, rfl, rfl⟩
    have : r = [] := by simpa using e2.symm
    subst this
    rw [List.append_nil] at e
    subst e
    try simp only [↓tV_q, ↓cRet_q, thenE_nx, ends3_rt, onO_some, List.getElem?_cons_zero, List.getElem?_cons_succ]
    exact .inl q
  · rintro x xs ρ h' F ⟨l, r, o2, o3, e, e2, hz, rfl, rfl⟩ hF
    cases r with
    | nil => cases e2
    | cons p r =>
      rw [List.map_cons, List.cons.injEq] at e2
      obtain ⟨rfl, rfl⟩ := e2
      have es : shp (l ++ [p]) = shStep (shp l) p := by simp [shp]
      have hlen : l.length < 1000000 := by
        have := congrArg List.length e
        simp at this; omega
      have go : ∀ o2 o3, F [some (.ref n), some (.ref h.length), o2, o3] (h ++ [.lst ((shStep (shp l) p).map pcD)]) := fun o2 o3 => hF _ _ ⟨l ++ [p], r, o2, o3, by simp [e], rfl, by
        rw [es]
        have := sh_len (shp l) p
        simp; omega, rfl, by rw [es]⟩
      try simp only [↓tV_q, ↓tK_q, ↓tO_q, ↓tT_q, ↓cIf_q, ↓gtR_ii_q, onO_some, onB_bl, List.getElem?_cons_zero, List.getElem?_cons_succ, List.set_cons_zero, List.set_cons_succ, b_shape_1, gTup_pc]
      by_cases hp : 0 < p.1
      · refine ifC_yes hp ?_
        try simp only [↓tV_q, ↓tT_q, ↓tAnd3_q, ↓tN3_q, ↓cSeq_q, ↓cIf_q, ↓tOX_q, onO_some, List.getElem?_cons_zero, List.getElem?_cons_succ]
        rcases snoc_cases (shp l) with e1 | ⟨u, z, e1⟩
        · rw [e1] at hz go ⊢
          rw [shStep_nil hp] at go
          try simp only [↓tV_q, ↓tN3_q, ↓tC3_q, ↓tTup3_q, ↓cNext_q, ↓cDrop_q, ↓tLM_q, ↓lmD_q, ↓appT_q, thenE_nx, loopE_nx, onO_some, onB_bl, ifC_false, onC_q, List.getElem?_cons_zero, List.getElem?_cons_succ, List.map_nil, List.nil_append, List.length_nil, Nat.reduceLT, true_and, Bool.not_true, ↓eqX_e0 (e0 _), e0, s0, r_shape_1]
          exact go _ _
        · rw [e1] at hz go ⊢
          have ne : u ++ [z] ≠ [] := by simp
          try simp only [↓tV_q, ↓tK_q, ↓tO_q, ↓tU_q, ↓tT_q, ↓negR_i_q, ↓ixR_rq, onO_some, onB_bl, ifC_true, onC_q, List.getElem?_cons_zero, List.getElem?_cons_succ, if_true, Bool.not_false, decide_false, Int.reduceNeg, ↓eqX_pcs0 (w := u ++ [z]) (e0 _), e0, ne, atT_neg1, ix_pc1, eqR_wt]
          by_cases hw : z.2 = p.2
          · rw [shStep_same hp hw, List.map_append, List.map_singleton] at go
            refine ifC_yes hw ?_
            try simp only [↓tV_q, ↓tK_q, ↓tO_q, ↓tN3_q, ↓tC3_q, ↓tTup3_q, ↓cDrop_q, ↓cAsg_q, ↓gN_q, ↓tLM_q, ↓lmD_q, ↓appT_q, ↓popT_q, ↓addR_ii_q, thenE_nx, loopE_nx, onO_some, onC_q, onD_q, List.getElem?_cons_zero, List.getElem?_cons_succ, List.set_cons_zero, List.set_cons_succ, e0, s0, pop_pc, dl_pc, ix_pc0, r_shape_1]
            refine ⟨by simp at hz ⊢; omega, ?_⟩
            have e9 : (p.1 + z.1, p.2) = (z.1 + p.1, p.2) := by rw [Int.add_comm]
            have := go (some (.int (p.1 + z.1))) (some (wtD p.2))
            rw [← e9] at this
            exact this
          · rw [shStep_new hp hw, List.map_append (l₂ := [p]), List.map_singleton] at go
            refine ifC_no hw ?_
            try simp only [↓tV_q, ↓tN3_q, ↓tC3_q, ↓tTup3_q, ↓cNext_q, ↓cDrop_q, ↓tLM_q, ↓lmD_q, ↓appT_q, thenE_nx, loopE_nx, onO_some, onC_q, List.getElem?_cons_zero, List.getElem?_cons_succ, e0, s0, r_shape_1]
            refine ⟨by simp at hz ⊢; omega, ?_⟩
            exact go _ _
      · refine ifC_no hp ?_
        try simp only [↓cNext_q, loopE_nx]
        rw [shStep_none hp] at go
        exact go _ _
theorem shape_q {n : Nat} {ps : List Pc} {h : Sto} {Q : DK} (hn : h[n]? = some (.lst (ps.map pcD))) (hl : ps.length ≤ 1000000) (q : Q (.ref h.length) (h ++ [.lst ((shp ps).map pcD)])) : callS sp_shape [.ref n] h Q := ⟨(n, ps), rfl, ⟨hn, hl⟩, q⟩
def sp_shaped : Sp3 := sp_shape
theorem mono_shaped : MonoS sp_shaped := mono_spD
theorem len_shaped : ∀ ds h Q E, sp_shaped ds h Q E → ds.length = 1 := len_spD fun _ => rfl
theorem ixN_last {n : Nat} : ixN (n + 1) (-1) = some n := by
  unfold ixN
  rw [if_neg (by decide), if_pos (by omega)]
  congr 1; omega
theorem set_last {u : List Pc} {z y : Pc} : ((u ++ [z]).map pcD).set u.length (pcD y) = (u ++ [y]).map pcD := by
  rw [List.map_append, List.set_append, if_neg (by simp)]
  simp
theorem rd_shaped : ∀ ds h Q E, ClS h.length h → ClDs h.length ds → sp_shaped ds h Q E → t_shaped (ends3 (GQ h.length Q)) (start3 4 ds) h := by
  rintro ds h Q E hcl _ ⟨⟨n, ps⟩, rfl, ⟨hn, hl⟩, q⟩
  have hn' : h[n]? = some (.lst (ps.map pcD)) := hn
  have hl' : ps.length ≤ 1000000 := hl
  have up : ∀ c : Cell, (h ++ [c])[n]? = some (.lst (ps.map pcD)) := fun c => by rw [List.getElem?_append_left (lt_of_get hn)]; exact hn
  have e0 : ∀ c : Cell, (h ++ [c])[h.length]? = some c := fun c => by simp
  have s0 : ∀ c c' : Cell, (h ++ [c]).set h.length c' = h ++ [c'] := fun c c' => set_app0
  try simp only [↓tV_q, ↓tN3_q, ↓tNew_q, ↓cSeq_q, ↓cAsg_q, ↓gN_q, ↓cFor_q, ↓iSeq_q, ↓iSeqD_rq, ↓start3_q, thenE_nx, onO_some, onC_q, List.getElem?_cons_zero, List.set_cons_zero, List.set_cons_succ, List.map_cons, List.map_nil, List.cons_append, List.nil_append, List.length_cons, List.length_nil, List.replicate_succ, List.replicate_zero, Nat.reduceAdd, Nat.reduceSub, t_shaped, up]
  refine forQ (fun xs ρ h' => ∃ l r : List Pc, ∃ o2 o3, ps = l ++ r ∧ xs = r.map pcD ∧ (shp l).length ≤ l.length ∧ ρ = [some (.ref n), some (.ref h.length), o2, o3] ∧ h' = h ++ [.lst ((shp l).map pcD)]) ⟨[], ps, _, _, rfl, rfl, Nat.le_refl _, rfl, rfl⟩ ?_ ?_ ?_
  · rintro xs ρ h' ⟨l, r, o2, o3, rfl, rfl, _, rfl, rfl⟩
    exact up _
  · rintro ρ h' ⟨l, r, o2, o3, e, e2, _, rfl, rfl⟩
    have : r = [] := by simpa using e2.symm
    subst this
    rw [List.append_nil] at e
    subst e
    try simp only [↓tV_q, ↓cRet_q, thenE_nx, ends3_rt, onO_some, List.getElem?_cons_zero, List.getElem?_cons_succ]
    exact .inl q
  · rintro x xs ρ h' F ⟨l, r, o2, o3, e, e2, hz, rfl, rfl⟩ hF
    cases r with
    | nil => cases e2
    | cons p r =>
      rw [List.map_cons, List.cons.injEq] at e2
      obtain ⟨rfl, rfl⟩ := e2
      have es : shp (l ++ [p]) = shStep (shp l) p := by simp [shp]
      have hlen : l.length < 1000000 := by
        have := congrArg List.length e
        simp at this; omega
      have go : ∀ o2 o3, F [some (.ref n), some (.ref h.length), o2, o3] (h ++ [.lst ((shStep (shp l) p).map pcD)]) := fun o2 o3 => hF _ _ ⟨l ++ [p], r, o2, o3, by simp [e], rfl, by
        rw [es]
        have := sh_len (shp l) p
        simp; omega, rfl, by rw [es]⟩
      try simp only [↓tV_q, ↓tK_q, ↓tO_q, ↓tT_q, ↓tAnd3_q, ↓cIf_q, ↓gtR_ii_q, onO_some, onB_bl, List.getElem?_cons_zero, List.getElem?_cons_succ, List.set_cons_zero, List.set_cons_succ, b_shaped_1, gTup_pc]
      by_cases hp : 0 < p.1
      · refine ifC_yes hp ?_
        try simp only [↓tV_q, ↓tT_q, ↓tAnd3_q, ↓tN3_q, ↓tOX_q, onO_some, List.getElem?_cons_zero, List.getElem?_cons_succ]
        rcases snoc_cases (shp l) with e1 | ⟨u, z, e1⟩
        · rw [e1] at hz go ⊢
          rw [shStep_nil hp] at go
          try simp only [↓tV_q, ↓tK_q, ↓tO_q, ↓tT_q, ↓cIf_q, ↓gtR_ii_q, onO_some, onB_bl, ifC_false, List.getElem?_cons_zero, List.getElem?_cons_succ, List.map_nil, Bool.not_true, ↓eqX_e0 (e0 _), e0]
          refine ifC_yes hp ?_
          try simp only [↓tV_q, ↓tN3_q, ↓tC3_q, ↓tTup3_q, ↓cDrop_q, ↓tLM_q, ↓lmD_q, ↓appT_q, loopE_nx, onO_some, onC_q, List.getElem?_cons_zero, List.getElem?_cons_succ, List.nil_append, List.length_nil, Nat.reduceLT, true_and, e0, s0]
          exact go _ _
        · rw [e1] at hz go ⊢
          have ne : u ++ [z] ≠ [] := by simp
          try simp only [↓tV_q, ↓tK_q, ↓tO_q, ↓tU_q, ↓tT_q, ↓negR_i_q, ↓ixR_rq, onO_some, onB_bl, ifC_true, onC_q, List.getElem?_cons_zero, List.getElem?_cons_succ, if_true, Bool.not_false, decide_false, Int.reduceNeg, ↓eqX_pcs0 (w := u ++ [z]) (e0 _), e0, ne, atT_neg1, ix_pc1, eqR_wt]
          by_cases hw : z.2 = p.2
          · rw [shStep_same hp hw] at go
            refine ifC_yes hw ?_
            try simp only [↓tV_q, ↓tK_q, ↓tO_q, ↓tU_q, ↓tN3_q, ↓tC3_q, ↓tTup3_q, ↓cAsg_q, ↓gSub3_q, ↓setR_q, ↓addR_ii_q, ↓negR_i_q, ↓ixR_rq, onO_some, onC_q, List.getElem?_cons_zero, List.getElem?_cons_succ, Int.reduceNeg, e0, atT_neg1, ix_pc0]
            have e8 : ((u ++ [z]).map pcD).length = u.length + 1 := by simp
            rw [e8]
            try simp only [loopE_nx, onN_q, Int.reduceNeg, ixN_last, s0]
            have := go (some (.int p.1)) (some (wtD p.2))
            rw [← set_last (z := z)] at this
            exact this
          · rw [shStep_new hp hw, List.map_append (l₂ := [p]), List.map_singleton] at go
            refine ifC_no hw ?_
            try simp only [↓tV_q, ↓tK_q, ↓tO_q, ↓tT_q, ↓cIf_q, ↓gtR_ii_q, onO_some, onB_bl, List.getElem?_cons_zero, List.getElem?_cons_succ]
            refine ifC_yes hp ?_
            try simp only [↓tV_q, ↓tN3_q, ↓tC3_q, ↓tTup3_q, ↓cDrop_q, ↓tLM_q, ↓lmD_q, ↓appT_q, loopE_nx, onO_some, onC_q, List.getElem?_cons_zero, List.getElem?_cons_succ, e0, s0]
            refine ⟨by simp at hz ⊢; omega, ?_⟩
            exact go _ _
      · refine ifC_no hp ?_
        try simp only [↓tV_q, ↓tK_q, ↓tO_q, ↓tT_q, ↓cIf_q, ↓gtR_ii_q, onO_some, onB_bl, ifC_false, List.getElem?_cons_zero, List.getElem?_cons_succ]
        refine ifC_no hp ?_
        try simp only [↓cNext_q, loopE_nx]
        rw [shStep_none hp] at go
        exact go _ _
theorem shaped_q {n : Nat} {ps : List Pc} {h : Sto} {Q : DK} (hn : h[n]? = some (.lst (ps.map pcD))) (hl : ps.length ≤ 1000000) (q : Q (.ref h.length) (h ++ [.lst ((shp ps).map pcD)])) : callS sp_shaped [.ref n] h Q := ⟨(n, ps), rfl, ⟨hn, hl⟩, q⟩
end F3
set_option maxHeartbeats 400000
namespace F3
open PySem PySem.Spec PyProof.Rows L2
def e_length_1 : E3 :=
  (tV 1)
def t_length : C3 :=
  (cRet (tB3 sumX (tLc3 (iSeq (tV 0)) (gTup3 2 (gCons3 (gN 1) (gCons3 (gN 2) gNil3))) bYes e_length_1 [1, 2])))

def t_wide : C3 :=
  (cRet (tIxX (tC3 (tO addR (tK (.int 1)) (tCall3 sp_take (tC3 (tV 0) (tC3 (tK (.int 3)) tN3)))) (tC3 (tO addR (tK (.int 1)) (tCall3 sp_take (tC3 (tV 0) (tC3 (tK (.int 24)) tN3)))) tN3)) (tB3 intR (tC3 (tO eqR (tCall3 sp_take (tC3 (tV 0) (tC3 (tK (.int 8)) tN3))) (tK (.int 5))) tN3))))

theorem sum_fst {ps : List Pc} : intsOf (ps.map fun p => D.int p.1) = some (ps.map (·.1)) := by
  rw [← intsOf_map, List.map_map]; rfl
def sp_length : Sp3 := spD (fun (x : Nat × List Pc) => [.ref x.1]) (fun x h => h[x.1]? = some (.lst (x.2.map pcD)) ∧ x.2.length ≤ 16777216) (fun x h => .int (lenP x.2)) (fun x h => h)
theorem mono_length : MonoS sp_length := mono_spD
theorem len_length : ∀ ds h Q E, sp_length ds h Q E → ds.length = 1 := len_spD fun _ => rfl
theorem rd_length : ∀ ds h Q E, ClS h.length h → ClDs h.length ds → sp_length ds h Q E → t_length (ends3 (GQ h.length Q)) (start3 3 ds) h := by
  rintro ds h Q E hcl _ ⟨⟨n, ps⟩, rfl, ⟨hn, hl⟩, q⟩
  have hn' : h[n]? = some (.lst (ps.map pcD)) := hn
  have hl' : ps.length ≤ 16777216 := hl
  try simp only [↓tV_q, ↓cRet_q, ↓iSeq_q, ↓iSeqD_rq, ↓tLc3_q, ↓tB3_q, ↓start3_q, onO_some, onC_q, wipe3_nil, wipe3_cons, List.getElem?_cons_zero, List.set_cons_zero, List.set_cons_succ, List.map_cons, List.map_nil, List.cons_append, List.nil_append, List.length_cons, List.length_nil, List.replicate_succ, List.replicate_zero, Nat.reduceAdd, Nat.reduceSub, t_length, hn']
  refine ⟨by simp; omega, lcMap (r := fun p => D.int p.1) hn' ?_ fun p _ Q q => ?_⟩
  · try simp only [↓sumX_q, ends3_rt, onIs_q, sum_fst]
    exact .inl q
  · try simp only [↓tV_q, onO_some, List.getElem?_cons_zero, List.getElem?_cons_succ, List.set_cons_zero, List.set_cons_succ, gTup_pc, e_length_1]
    exact q
theorem length_q {n : Nat} {ps : List Pc} {h : Sto} {Q : DK} (hn : h[n]? = some (.lst (ps.map pcD))) (hl : ps.length ≤ 16777216) (q : Q (.int (lenP ps)) h) : callS sp_length [.ref n] h Q := ⟨(n, ps), rfl, ⟨hn, hl⟩, q⟩
def sp_wide : Sp3 := spW (fun (_ : Unit) => []) (fun _ _ => True) (fun _ h d g => ∃ r : Nat, (1 ≤ r ∧ r ≤ 24) ∧ d = .int r ∧ g = [])
theorem mono_wide : MonoS sp_wide := mono_spW
theorem len_wide : ∀ ds h Q E, sp_wide ds h Q E → ds.length = 1 := len_spW fun _ => rfl
theorem rd_wide : ∀ ds h Q E, ClS h.length h → ClDs h.length ds → sp_wide ds h Q E → t_wide (ends3 (GQ h.length Q)) (start3 1 ds) h := by
  rintro ds h Q E _ _ w
  obtain ⟨a, c, s, _, rfl, ha, hd, _, eh, q⟩ := spW_in w
  conv => arg 3; rw [eh]
  try simp only [↓tV_q, ↓tK_q, ↓tO_q, ↓tN3_q, ↓tC3_q, ↓cRet_q, ↓tCall3_q, ↓tIxX_q, ↓start3_q, onO_some, List.getElem?_cons_zero, List.map_cons, List.map_nil, List.cons_append, List.nil_append, List.length_cons, List.length_nil, List.replicate_zero, Nat.reduceAdd, Nat.reduceSub, t_wide]
  refine take_q ha hd (by first | decide | omega) (by first | decide | omega) fun c s x hd x0 x1 => ?_
  try simp only [↓tV_q, ↓tK_q, ↓tO_q, ↓tN3_q, ↓tC3_q, ↓tCall3_q, ↓start3_q, ↓addR_ii_q, onO_some, List.getElem?_cons_zero, List.map_cons, List.map_nil, List.cons_append, List.nil_append, List.length_cons, List.length_nil, List.replicate_zero, Nat.reduceAdd, Nat.reduceSub]
  refine take_q ha hd (by first | decide | omega) (by first | decide | omega) fun c s y hd y0 y1 => ?_
  try simp only [↓tV_q, ↓tK_q, ↓tO_q, ↓tN3_q, ↓tC3_q, ↓tCall3_q, ↓tB3_q, ↓start3_q, ↓addR_ii_q, onO_some, List.getElem?_cons_zero, List.map_cons, List.map_nil, List.cons_append, List.nil_append, List.length_cons, List.length_nil, List.replicate_zero, Nat.reduceAdd, Nat.reduceSub]
  refine take_q ha hd (by first | decide | omega) (by first | decide | omega) fun c s z hd z0 z1 => ?_
  try simp only [↓tK_q, ↓tN3_q, ↓eqR_ii_q, ↓intR_b_q, onI_int]
  have fin : ∀ r : Int, 1 ≤ r → r ≤ 24 → GQ h.length Q (.int r) (W h a c s []) := fun r r0 r1 => .inl (by
    have := q c s [] (.int r) hd ⟨r.toNat, ⟨by omega, by omega⟩, by congr 1; omega, rfl⟩
    exact this)
  refine atT_all (by split <;> decide) (by split <;> simp) fun d hx => ?_
  simp only [List.mem_cons, List.not_mem_nil, or_false] at hx
  rcases hx with rfl | rfl
  · try simp only [ends3_rt]
    exact fin _ (by omega) (by omega)
  · try simp only [ends3_rt]
    exact fin _ (by omega) (by omega)
theorem wide_q {h g : Sto} {a : Nat} {c s : Int} {Q : DK} (ha : a < h.length) (hd : DrawOk c s) (q : ∀ (c s : Int) (r : Nat), DrawOk c s → 1 ≤ r → r ≤ 24 → Q (.int r) (W h a c s g)) : callS sp_wide [.ref a] (W h a c s g) Q :=
  call_W () ha hd rfl trivial fun c' s' k d hd' ⟨r, hr, e1, e2⟩ => by
    subst e1; subst e2
    rw [List.append_nil]
    exact q _ _ r hd' hr.1 hr.2
end F3
namespace F3
/-! WC: pure laws of weighings: ends, parts. -/
def endsP : Int → List Pc → List Int
  | s, [] => [s]
  | s, p :: r => s :: endsP (s + p.1) r
theorem ends_len : ∀ (s : Int) (w : List Pc), (endsP s w).length = w.length + 1
  | s, [] => rfl
  | s, p :: r => by simp [endsP, ends_len]
theorem ends_snoc : ∀ (s : Int) (w : List Pc) (p : Pc), endsP s (w ++ [p]) = endsP s w ++ [s + lenP w + p.1]
  | s, [], p => by simp [endsP, lenP]
  | s, q :: r, p => by
    simp only [List.cons_append, endsP, ends_snoc (s + q.1) r p, lenP_cons]
    congr 2; simp; omega
theorem ends_last : ∀ (s : Int) (w : List Pc), (endsP s w).getLast? = some (s + lenP w)
  | s, [] => by simp [endsP, lenP]
  | s, p :: r => by
    have := ends_last (s + p.1) r
    simp only [endsP]
    rw [List.getLast?_cons, this, lenP_cons]
    simp; omega
def Pos (w : List Pc) : Prop := ∀ p ∈ w, 0 < p.1
theorem Pos.nn {w : List Pc} (h : Pos w) : NN w := fun p hp => by have := h p hp; omega
theorem Pos.tail {p : Pc} {w : List Pc} (h : Pos (p :: w)) : Pos w := fun q hq => h q (List.mem_cons_of_mem _ hq)
theorem Pos.head {p : Pc} {w : List Pc} (h : Pos (p :: w)) : 0 < p.1 := h p List.mem_cons_self
theorem Cn.Pos {w : List Pc} (h : Cn w) : Pos w := h.pos
theorem ends_ge : ∀ {s : Int} {w : List Pc}, NN w → ∀ x ∈ endsP s w, s ≤ x ∧ x ≤ s + lenP w
  | s, [], _, x, hx => by
    have : x = s := by simpa [endsP] using hx
    simp [lenP]; omega
  | s, p :: r, h, x, hx => by
    have hr : NN r := fun q hq => h q (List.mem_cons_of_mem _ hq)
    have h0 := h p List.mem_cons_self
    have := lenP_nn hr
    rw [lenP_cons]
    simp only [endsP] at hx
    rcases List.mem_cons.mp hx with e | e
    · omega
    · have := ends_ge hr x e
      omega
/-- the stretch of a place, by the begins at or ahead of it -/
theorem spot_at : ∀ {w : List Pc} {s i : Int}, Pos w → s ≤ i → i < s + lenP w → ∃ k q, ((endsP s w).filter fun b => decide (b ≤ i)).length = k + 1 ∧ w[k]? = some q ∧ q.2 = atP w (i - s)
  | [], s, i, _, h0, h1 => by simp [lenP] at h1; omega
  | p :: r, s, i, hp, h0, h1 => by
    rw [lenP_cons] at h1
    simp only [endsP, atP]
    by_cases hi : i - s < p.1
    · refine ⟨0, p, ?_, rfl, by rw [if_pos hi]⟩
      rw [List.filter_cons, if_pos (by simpa using h0)]
      have : ((endsP (s + p.1) r).filter fun b => decide (b ≤ i)) = [] := by
        rw [List.filter_eq_nil_iff]
        intro x hx
        have := (ends_ge hp.tail.nn x hx).1
        simp; omega
      rw [this]; rfl
    · obtain ⟨k, q, e1, e2, e3⟩ := spot_at (w := r) (s := s + p.1) (i := i) hp.tail (by omega) (by omega)
      refine ⟨k + 1, q, ?_, by simpa using e2, ?_⟩
      · rw [List.filter_cons, if_pos (by simpa using h0), List.length_cons, e1]
      · rw [if_neg hi, e3]
        congr 1; omega
/-! ### parts -/
def mnI (a b : Int) : Int := if b < a then b else a
def mxI (a b : Int) : Int := if b > a then b else a
/-- as the program cuts: ahead places stand in front -/
def partP : Int → List Pc → Int → Int → List Pc
  | _, [], _, _ => []
  | a, p :: r, b, e => (if mxI b a < mnI e (a + p.1) then [(mnI e (a + p.1) - mxI b a, p.2)] else []) ++ partP (a + p.1) r b e
theorem part_none : ∀ {a : Int} {w : List Pc} {b e : Int}, NN w → e ≤ a → partP a w b e = []
  | _, [], _, _, _, _ => rfl
  | a, p :: r, b, e, h, he => by
    have h0 := h p List.mem_cons_self
    simp only [partP]
    rw [part_none (fun q hq => h q (List.mem_cons_of_mem _ hq)) (by omega)]
    unfold mxI mnI
    rw [if_neg (by split <;> split <;> omega)]; rfl
theorem part_pos : ∀ {a : Int} {w : List Pc} {b e : Int}, Pos (partP a w b e)
  | _, [], _, _, p, hp => by cases hp
  | a, q :: r, b, e, p, hp => by
    simp only [partP] at hp
    rcases List.mem_append.mp hp with z | z
    · split at z
      · have : p = (mnI e (a + q.1) - mxI b a, q.2) := by simpa using z
        subst this; show 0 < mnI e (a + q.1) - mxI b a; omega
      · cases z
    · exact part_pos p z
theorem part_len : ∀ {a : Int} {w : List Pc} {b e : Int}, Pos w → b ≤ e → e ≤ a + lenP w → lenP (partP a w b e) = mxI 0 (e - mxI b a)
  | a, [], b, e, _, h1, h2 => by
    rw [lenP_nil] at h2
    simp only [partP, lenP_nil]; unfold mxI; split <;> split <;> omega
  | a, p :: r, b, e, hp, h1, h2 => by
    have h0 := hp.head
    rw [lenP_cons] at h2
    simp only [partP]
    rw [lenP_app, part_len hp.tail h1 (by omega)]
    have : ∀ x : Pc, lenP [x] = x.1 := fun x => by simp [lenP]
    split
    · rw [this]; unfold mxI mnI at *; simp only; (repeat' split) <;> split at * <;> omega
    · rw [lenP_nil]; unfold mxI mnI at *; (repeat' split) <;> split at * <;> omega
theorem part_at : ∀ {a : Int} {w : List Pc} {b e i : Int}, Pos w → 0 ≤ i → mxI b a + i < e → e ≤ a + lenP w → atP (partP a w b e) i = atP w (mxI b a - a + i)
  | a, [], b, e, i, _, h0, h1, h2 => by rw [lenP_nil] at h2; unfold mxI at *; split at h1 <;> omega
  | a, p :: r, b, e, i, hp, h0, h1, h2 => by
    have p0 := hp.head
    rw [lenP_cons] at h2
    simp only [partP]
    by_cases hc : mxI b a < mnI e (a + p.1)
    · rw [if_pos hc]
      simp only [List.singleton_append, atP]
      by_cases hi : i < mnI e (a + p.1) - mxI b a
      · rw [if_pos hi, if_pos (by unfold mnI mxI at *; (repeat' split at *) <;> omega)]
      · rw [if_neg hi, if_neg (by unfold mnI mxI at *; (repeat' split at *) <;> omega)]
        rw [part_at hp.tail (by omega) (by unfold mnI mxI at *; (repeat' split at *) <;> omega) (by omega)]
        congr 1
        unfold mnI mxI at *; (repeat' split at *) <;> omega
    · rw [if_neg hc, List.nil_append]
      simp only [atP]
      rw [if_neg (by unfold mnI mxI at *; (repeat' split at *) <;> omega), part_at hp.tail h0 (by unfold mnI mxI at *; (repeat' split at *) <;> omega) (by omega)]
      congr 1
      unfold mnI mxI at *; (repeat' split at *) <;> omega
theorem cn_cons {p : Pc} {w : List Pc} : Cn (p :: w) ↔ 0 < p.1 ∧ (∀ q, w.head? = some q → p.2 ≠ q.2) ∧ Cn w := by
  cases w with
  | nil => simp [Cn]
  | cons q r => simp [Cn]
theorem part_head : ∀ {a : Int} {w : List Pc} {b e : Int} {q : Pc}, Pos w → b ≤ a → (partP a w b e).head? = some q → ∃ p, w.head? = some p ∧ p.2 = q.2
  | _, [], _, _, _, _, _, h => by cases h
  | a, p :: r, b, e, q, hp, hb, h => by
    simp only [partP] at h
    by_cases hc : mxI b a < mnI e (a + p.1)
    · rw [if_pos hc] at h
      simp at h
      exact ⟨p, rfl, by rw [← h]⟩
    · rw [if_neg hc, List.nil_append] at h
      have p0 := hp.head
      rw [part_none hp.tail.nn (by unfold mnI mxI at hc; (repeat' split at hc) <;> omega)] at h
      cases h
theorem part_cn : ∀ {a : Int} {w : List Pc} {b e : Int}, Cn w → Cn (partP a w b e)
  | _, [], _, _, _ => trivial
  | a, p :: r, b, e, h => by
    simp only [partP]
    have h' := cn_cons.mp h
    by_cases hc : mxI b a < mnI e (a + p.1)
    · rw [if_pos hc, List.singleton_append]
      refine cn_cons.mpr ⟨by show 0 < mnI e (a + p.1) - mxI b a; omega, fun q hq => ?_, part_cn h'.2.2⟩
      have p0 := h'.1
      obtain ⟨x, e1, e2⟩ := part_head h'.2.2.Pos (by unfold mnI mxI at hc; (repeat' split at hc) <;> omega) hq
      rw [← e2]
      exact h'.2.1 x e1
    · rw [if_neg hc, List.nil_append]
      exact part_cn h'.2.2
theorem part_snoc : ∀ {a : Int} {w : List Pc} {p : Pc} {b e : Int}, partP a (w ++ [p]) b e = partP a w b e ++ (if mxI b (a + lenP w) < mnI e (a + lenP w + p.1) then [(mnI e (a + lenP w + p.1) - mxI b (a + lenP w), p.2)] else [])
  | a, [], p, b, e => by simp [partP, lenP]
  | a, q :: r, p, b, e => by
    simp only [List.cons_append, partP, part_snoc (w := r), lenP_cons, List.append_assoc]
    rw [show a + q.1 + lenP r = a + (q.1 + lenP r) by omega]
theorem part_whole {w : List Pc} (h : Cn w) : partP 0 w 0 (lenP w) = w := by
  have l0 := lenP_nn h.nn
  have hl : lenP (partP 0 w 0 (lenP w)) = lenP w := by
    rw [part_len h.Pos l0 (by omega)]; unfold mxI; (repeat' split) <;> omega
  refine cn_ext (part_cn h) h hl fun i h0 h1 => ?_
  rw [hl] at h1
  rw [part_at h.Pos h0 (by unfold mxI; (repeat' split) <;> omega) (by omega)]
  congr 1
  unfold mxI; (repeat' split) <;> omega
/-- as the law cuts: ahead places are taken off -/
def dropP : List Pc → Int → List Pc
  | [], _ => []
  | p :: r, a => if a ≤ 0 then p :: r else if p.1 > a then (p.1 - a, p.2) :: r else dropP r (a - p.1)
def roomP : List Pc → Int → List Pc
  | [], _ => []
  | p :: r, a => (if a > 0 then [(mnI p.1 a, p.2)] else []) ++ roomP r (a - mnI p.1 a)
theorem drop_at : ∀ {w : List Pc} {a i : Int}, Pos w → 0 ≤ a → 0 ≤ i → atP (dropP w a) i = atP w (a + i)
  | [], _, _, _, _, _ => rfl
  | p :: r, a, i, hp, h0, hi => by
    have p0 := hp.head
    simp only [dropP]
    by_cases h1 : a ≤ 0
    · rw [if_pos h1, show a + i = i by omega]
    · rw [if_neg h1]
      by_cases h2 : p.1 > a
      · rw [if_pos h2]
        simp only [atP]
        by_cases h3 : i < p.1 - a
        · rw [if_pos h3, if_pos (by omega)]
        · rw [if_neg h3, if_neg (by omega)]; congr 1; omega
      · rw [if_neg h2, drop_at hp.tail (by omega) hi]
        simp only [atP]
        rw [if_neg (by omega)]; congr 1; omega
theorem drop_len : ∀ {w : List Pc} {a : Int}, Pos w → 0 ≤ a → a ≤ lenP w → lenP (dropP w a) = lenP w - a
  | [], a, _, h0, h1 => by rw [lenP_nil] at h1; simp [dropP, lenP]; omega
  | p :: r, a, hp, h0, h1 => by
    have p0 := hp.head
    rw [lenP_cons] at h1
    simp only [dropP]
    by_cases h2 : a ≤ 0
    · rw [if_pos h2]; omega
    · rw [if_neg h2]
      by_cases h3 : p.1 > a
      · rw [if_pos h3, lenP_cons, lenP_cons]; simp; omega
      · rw [if_neg h3, drop_len hp.tail (by omega) (by omega), lenP_cons]; omega
theorem drop_cn : ∀ {w : List Pc} {a : Int}, Cn w → Cn (dropP w a)
  | [], _, _ => trivial
  | p :: r, a, h => by
    have h' := cn_cons.mp h
    simp only [dropP]
    by_cases h2 : a ≤ 0
    · rw [if_pos h2]; exact h
    · rw [if_neg h2]
      by_cases h3 : p.1 > a
      · rw [if_pos h3]; exact cn_cons.mpr ⟨by show 0 < p.1 - a; omega, h'.2.1, h'.2.2⟩
      · rw [if_neg h3]; exact drop_cn h'.2.2
theorem room_none : ∀ {w : List Pc} {a : Int}, NN w → a ≤ 0 → roomP w a = []
  | [], _, _, _ => rfl
  | p :: r, a, h, h0 => by
    have := h p List.mem_cons_self
    simp only [roomP]
    rw [if_neg (by omega), List.nil_append]
    exact room_none (fun q hq => h q (List.mem_cons_of_mem _ hq)) (by unfold mnI; split <;> omega)
theorem room_at : ∀ {w : List Pc} {a i : Int}, Pos w → 0 ≤ i → i < a → atP (roomP w a) i = atP w i
  | [], _, _, _, _, _ => rfl
  | p :: r, a, i, hp, h0, hi => by
    have p0 := hp.head
    simp only [roomP]
    rw [if_pos (by omega)]
    simp only [List.singleton_append, atP]
    by_cases h1 : i < p.1
    · rw [if_pos (by unfold mnI; split <;> omega), if_pos h1]
    · rw [if_neg (by unfold mnI; split <;> omega), if_neg h1, show mnI p.1 a = p.1 by unfold mnI; split <;> omega, room_at hp.tail (by omega) (by omega)]
theorem room_len : ∀ {w : List Pc} {a : Int}, Pos w → 0 ≤ a → a ≤ lenP w → lenP (roomP w a) = a
  | [], a, _, h0, h1 => by rw [lenP_nil] at h1; simp [roomP, lenP]; omega
  | p :: r, a, hp, h0, h1 => by
    have p0 := hp.head
    rw [lenP_cons] at h1
    simp only [roomP]
    rw [lenP_app, room_len hp.tail (by unfold mnI; split <;> omega) (by unfold mnI; split <;> (have := lenP_nn hp.tail.nn; omega))]
    have : ∀ x : Pc, lenP [x] = x.1 := fun x => by simp [lenP]
    by_cases h2 : a > 0
    · rw [if_pos h2, this]; show mnI p.1 a + (a - mnI p.1 a) = a; omega
    · rw [if_neg h2, lenP_nil]; unfold mnI; split <;> omega
theorem room_head : ∀ {w : List Pc} {a : Int} {q : Pc}, Pos w → (roomP w a).head? = some q → ∃ p, w.head? = some p ∧ p.2 = q.2
  | [], _, _, _, h => by cases h
  | p :: r, a, q, hp, h => by
    simp only [roomP] at h
    by_cases h2 : a > 0
    · rw [if_pos h2] at h
      simp at h
      exact ⟨p, rfl, by rw [← h]⟩
    · have p0 := hp.head
      rw [if_neg h2, List.nil_append, room_none hp.tail.nn (by unfold mnI; split <;> omega)] at h
      cases h
theorem room_cn : ∀ {w : List Pc} {a : Int}, Cn w → Cn (roomP w a)
  | [], _, _ => trivial
  | p :: r, a, h => by
    have h' := cn_cons.mp h
    simp only [roomP]
    by_cases h2 : a > 0
    · rw [if_pos h2, List.singleton_append]
      refine cn_cons.mpr ⟨by show 0 < mnI p.1 a; have := h'.1; unfold mnI; split <;> omega, fun q hq => ?_, room_cn h'.2.2⟩
      obtain ⟨x, e1, e2⟩ := room_head h'.2.2.Pos hq
      rw [← e2]; exact h'.2.1 x e1
    · rw [if_neg h2, List.nil_append]; exact room_cn h'.2.2
theorem part_law {w : List Pc} {b e : Int} (h : Cn w) (h0 : 0 ≤ b) (h1 : b ≤ e) (h2 : e ≤ lenP w) : partP 0 w b e = roomP (dropP w b) (e - b) := by
  have m0 : mxI b 0 = b := by unfold mxI; split <;> omega
  have dp := drop_cn (a := b) h
  have dl := drop_len h.Pos h0 (by omega)
  have hl : lenP (partP 0 w b e) = e - b := by
    rw [part_len h.Pos h1 (by omega), m0]; unfold mxI; split <;> omega
  have hl2 : lenP (roomP (dropP w b) (e - b)) = e - b := room_len dp.Pos (by omega) (by omega)
  refine cn_ext (part_cn h) (room_cn dp) (by rw [hl, hl2]) fun i g0 g1 => ?_
  rw [hl] at g1
  rw [part_at h.Pos g0 (by rw [m0]; omega) (by omega), room_at dp.Pos g0 g1, drop_at h.Pos h0 g0, m0]
  congr 1; omega
theorem room_snoc : ∀ {w : List Pc} {p : Pc} {a : Int}, roomP (w ++ [p]) a = roomP w a ++ roomP [p] (w.foldl (fun a p => a - mnI p.1 a) a)
  | [], p, a => by simp [roomP]
  | q :: r, p, a => by
    simp only [List.cons_append, roomP, room_snoc (w := r), List.append_assoc, List.foldl_cons]
    simp [roomP]
end F3
namespace F3
/-! WD: pure laws of weighings: added, cut. -/
def plusL (u v : List Int) : List Int := List.zipWith (· + ·) u v
theorem plus_comm : ∀ u v : List Int, plusL u v = plusL v u
  | [], [] => rfl
  | [], _ :: _ => rfl
  | _ :: _, [] => rfl
  | a :: u, b :: v => by
    have := plus_comm u v
    simp only [plusL, List.zipWith_cons_cons, Int.add_comm a b] at this ⊢
    rw [this]
theorem plus_bare : ∀ (u : List Int) (n : Nat), u.length = n → plusL u (List.replicate n 0) = u
  | [], 0, _ => rfl
  | a :: u, n + 1, h => by
    have := plus_bare u n (by simpa using h)
    simp only [plusL, List.replicate_succ, List.zipWith_cons_cons] at this ⊢
    rw [this]; simp
  | [], n + 1, h => by simp at h
  | _ :: _, 0, h => by simp at h
theorem plus_len {u v : List Int} : (plusL u v).length = min u.length v.length := by simp [plusL]
def addP : List Pc → List Pc → List Pc
  | [], _ => []
  | _ :: _, [] => []
  | p :: r, q :: s => (mnI p.1 q.1, plusL p.2 q.2) :: (if p.1 < q.1 then addP r ((q.1 - p.1, q.2) :: s) else if q.1 < p.1 then addP ((p.1 - q.1, p.2) :: r) s else addP r s)
termination_by u v => u.length + v.length
theorem addP_nil {v : List Pc} : addP [] v = [] := by unfold addP; rfl
theorem addP_nil' {u : List Pc} : addP u [] = [] := by cases u <;> (unfold addP; rfl)
theorem addP_cons {p q : Pc} {r s : List Pc} : addP (p :: r) (q :: s) = (mnI p.1 q.1, plusL p.2 q.2) :: (if p.1 < q.1 then addP r ((q.1 - p.1, q.2) :: s) else if q.1 < p.1 then addP ((p.1 - q.1, p.2) :: r) s else addP r s) := by
  rw [addP]
/-- induction along addP -/
theorem addP_ind {M : List Pc → List Pc → Prop} (h0 : ∀ v, M [] v) (h1 : ∀ u, M u []) (h2 : ∀ p r q s, p.1 < q.1 → M r ((q.1 - p.1, q.2) :: s) → M (p :: r) (q :: s)) (h3 : ∀ p r q s, q.1 < p.1 → M ((p.1 - q.1, p.2) :: r) s → M (p :: r) (q :: s)) (h4 : ∀ p r q s, p.1 = q.1 → M r s → M (p :: r) (q :: s)) :
    ∀ (n : Nat) (u v : List Pc), u.length + v.length ≤ n → M u v := by
  intro n
  induction n with
  | zero =>
    intro u v h
    cases u with
    | nil => exact h0 v
    | cons p r => simp at h
  | succ n ih =>
    intro u v h
    cases u with
    | nil => exact h0 v
    | cons p r =>
      cases v with
      | nil => exact h1 _
      | cons q s =>
        simp only [List.length_cons] at h
        rcases Int.lt_trichotomy p.1 q.1 with hc | hc | hc
        · exact h2 p r q s hc (ih _ _ (by simp only [List.length_cons]; omega))
        · exact h4 p r q s hc (ih _ _ (by omega))
        · exact h3 p r q s hc (ih _ _ (by simp only [List.length_cons]; omega))
theorem Pos.cons {p : Pc} {w : List Pc} (h0 : 0 < p.1) (h : Pos w) : Pos (p :: w) := fun q hq => by
  rcases List.mem_cons.mp hq with e | e
  · subst e; exact h0
  · exact h q e
theorem addP_spec : ∀ (u v : List Pc), Pos u → Pos v → lenP u = lenP v → Pos (addP u v) ∧ lenP (addP u v) = lenP u ∧ (addP u v).length ≤ u.length + v.length ∧ ∀ i, 0 ≤ i → i < lenP u → atP (addP u v) i = plusL (atP u i) (atP v i) := by
  intro u v
  refine addP_ind (M := fun u v => Pos u → Pos v → lenP u = lenP v → Pos (addP u v) ∧ lenP (addP u v) = lenP u ∧ (addP u v).length ≤ u.length + v.length ∧ ∀ i, 0 ≤ i → i < lenP u → atP (addP u v) i = plusL (atP u i) (atP v i)) ?_ ?_ ?_ ?_ ?_ _ u v (Nat.le_refl _)
  · intro v hu hv e
    rw [addP_nil]
    exact ⟨hu, rfl, by simp, fun i h0 h1 => by rw [lenP_nil] at h1; omega⟩
  · intro u hu hv e
    rw [addP_nil']
    rw [lenP_nil] at e
    exact ⟨hv, by rw [lenP_nil]; omega, by simp, fun i h0 h1 => by omega⟩
  · intro p r q s hc ih hu hv e
    have p0 := hu.head
    rw [lenP_cons, lenP_cons] at e
    obtain ⟨i1, i2, i3, i4⟩ := ih hu.tail (Pos.cons (by show 0 < q.1 - p.1; omega) hv.tail) (by rw [lenP_cons]; show _ = q.1 - p.1 + _; omega)
    have m0 : mnI p.1 q.1 = p.1 := by unfold mnI; split <;> omega
    rw [addP_cons, if_pos hc, m0]
    refine ⟨Pos.cons p0 i1, by rw [lenP_cons, lenP_cons, i2], by simp only [List.length_cons] at i3 ⊢; omega, fun i h0 h1 => ?_⟩
    rw [lenP_cons] at h1
    simp only [atP]
    by_cases hi : i < p.1
    · rw [if_pos hi, if_pos hi, if_pos (by omega)]
    · rw [if_neg hi, if_neg hi, i4 _ (by omega) (by omega)]
      congr 1
      simp only [atP]
      by_cases h2 : i < q.1
      · rw [if_pos (by omega), if_pos h2]
      · rw [if_neg (by omega), if_neg h2]; congr 1; omega
  · intro p r q s hc ih hu hv e
    have q0 := hv.head
    rw [lenP_cons, lenP_cons] at e
    obtain ⟨i1, i2, i3, i4⟩ := ih (Pos.cons (by show 0 < p.1 - q.1; omega) hu.tail) hv.tail (by rw [lenP_cons]; show p.1 - q.1 + _ = _; omega)
    have m0 : mnI p.1 q.1 = q.1 := by unfold mnI; split <;> omega
    rw [addP_cons, if_neg (by omega), if_pos hc, m0]
    rw [lenP_cons] at i2 i4
    refine ⟨Pos.cons q0 i1, by rw [lenP_cons, lenP_cons, i2]; show q.1 + (p.1 - q.1 + _) = _; omega, by simp only [List.length_cons] at i3 ⊢; omega, fun i h0 h1 => ?_⟩
    rw [lenP_cons] at h1
    have i4' : ∀ i, 0 ≤ i → i < p.1 - q.1 + lenP r → atP (addP ((p.1 - q.1, p.2) :: r) s) i = plusL (atP ((p.1 - q.1, p.2) :: r) i) (atP s i) := i4
    simp only [atP]
    by_cases hi : i < q.1
    · rw [if_pos hi, if_pos hi, if_pos (by omega)]
    · rw [if_neg hi, if_neg hi, i4' _ (by omega) (by omega)]
      congr 1
      simp only [atP]
      by_cases h2 : i < p.1
      · rw [if_pos (by omega), if_pos h2]
      · rw [if_neg (by omega), if_neg h2]; congr 1; omega
  · intro p r q s hc ih hu hv e
    have p0 := hu.head
    rw [lenP_cons, lenP_cons] at e
    obtain ⟨i1, i2, i3, i4⟩ := ih hu.tail hv.tail (by omega)
    have m0 : mnI p.1 q.1 = p.1 := by unfold mnI; split <;> omega
    rw [addP_cons, if_neg (by omega), if_neg (by omega), m0]
    refine ⟨Pos.cons p0 i1, by rw [lenP_cons, lenP_cons, i2], by simp only [List.length_cons] at i3 ⊢; omega, fun i h0 h1 => ?_⟩
    rw [lenP_cons] at h1
    simp only [atP]
    by_cases hi : i < p.1
    · rw [if_pos hi, if_pos hi, if_pos (by omega)]
    · rw [if_neg hi, if_neg hi, if_neg (by omega), i4 _ (by omega) (by omega), hc]
/-! ### cut -/
def cut1 : Int → Pc → List Int → List Pc
  | _, p, [] => [p]
  | h, p, x :: xs => if h < x ∧ x < h + p.1 then (x - h, p.2) :: cut1 x (p.1 - (x - h), p.2) xs else cut1 h p xs
def cutP : Int → List Pc → List Int → List Pc
  | _, [], _ => []
  | h, p :: r, xs => cut1 h p xs ++ cutP (h + p.1) r xs
theorem cut1_spec : ∀ (xs : List Int) (h : Int) (p : Pc), 0 < p.1 → xs.Pairwise (· ≤ ·) → Pos (cut1 h p xs) ∧ lenP (cut1 h p xs) = p.1 ∧ (cut1 h p xs).length ≤ xs.length + 1 ∧ (∀ i, 0 ≤ i → i < p.1 → atP (cut1 h p xs) i = p.2) ∧
    ∀ x, x ∈ endsP h (cut1 h p xs) ↔ x = h ∨ x = h + p.1 ∨ (x ∈ xs ∧ h < x ∧ x < h + p.1)
  | [], h, p, h0, _ => by
    refine ⟨Pos.cons h0 (fun q hq => by cases hq), by simp [cut1, lenP], by simp [cut1], fun i h1 h2 => by simp [cut1, atP, h2], fun x => by simp [cut1, endsP]⟩
  | y :: xs, h, p, h0, hs => by
    have hs' := List.pairwise_cons.mp hs
    simp only [cut1]
    by_cases hc : h < y ∧ y < h + p.1
    · rw [if_pos hc]
      obtain ⟨a1, a2, a3, a4, a5⟩ := cut1_spec xs y (p.1 - (y - h), p.2) (by show 0 < p.1 - (y - h); omega) hs'.2
      simp only at a2 a4 a5
      refine ⟨Pos.cons (by show 0 < y - h; omega) a1, by rw [lenP_cons, a2]; show y - h + _ = _; omega, by simp only [List.length_cons]; omega, fun i h1 h2 => ?_, fun x => ?_⟩
      · simp only [atP]
        split
        · rfl
        · exact a4 _ (by omega) (by omega)
      · simp only [endsP]
        rw [List.mem_cons, show h + (y - h) = y by omega, a5, show y + (p.1 - (y - h)) = h + p.1 by omega, List.mem_cons]
        constructor
        · rintro (e | e | e | ⟨e1, e2, e3⟩)
          · exact .inl e
          · exact .inr (.inr ⟨.inl e, by omega, by omega⟩)
          · exact .inr (.inl e)
          · exact .inr (.inr ⟨.inr e1, by omega, by omega⟩)
        · rintro (e | e | ⟨e1 | e1, e2, e3⟩)
          · exact .inl e
          · exact .inr (.inr (.inl e))
          · exact .inr (.inl e1)
          · have := hs'.1 x e1
            by_cases hx : x = y
            · exact .inr (.inl hx)
            · exact .inr (.inr (.inr ⟨e1, by omega, e3⟩))
    · rw [if_neg hc]
      obtain ⟨a1, a2, a3, a4, a5⟩ := cut1_spec xs h p h0 hs'.2
      refine ⟨a1, a2, by simp only [List.length_cons]; omega, a4, fun x => ?_⟩
      rw [a5, List.mem_cons]
      constructor
      · rintro (e | e | ⟨e1, e2, e3⟩)
        · exact .inl e
        · exact .inr (.inl e)
        · exact .inr (.inr ⟨.inr e1, e2, e3⟩)
      · rintro (e | e | ⟨e1 | e1, e2, e3⟩)
        · exact .inl e
        · exact .inr (.inl e)
        · exact absurd ⟨by omega, by omega⟩ hc
        · exact .inr (.inr ⟨e1, e2, e3⟩)
theorem ends_app : ∀ {u v : List Pc} {s x : Int}, x ∈ endsP s (u ++ v) ↔ x ∈ endsP s u ∨ x ∈ endsP (s + lenP u) v
  | [], v, s, x => by
    rw [List.nil_append, lenP_nil, show s + 0 = s by omega]
    constructor
    · exact .inr
    · rintro (e | e)
      · have : x = s := by simpa [endsP] using e
        subst this
        cases v <;> simp [endsP]
      · exact e
  | p :: r, v, s, x => by
    simp only [List.cons_append, endsP, List.mem_cons, ends_app (u := r), lenP_cons, or_assoc, show s + (p.1 + lenP r) = s + p.1 + lenP r by omega]
theorem ends_first {s : Int} {w : List Pc} : s ∈ endsP s w := by cases w <;> simp [endsP]
theorem ends_fin {s : Int} {w : List Pc} : s + lenP w ∈ endsP s w := List.mem_of_getLast? (ends_last s w)
theorem pos_app {u v : List Pc} : Pos (u ++ v) ↔ Pos u ∧ Pos v := by
  constructor
  · exact fun h => ⟨fun p hp => h p (List.mem_append_left _ hp), fun p hp => h p (List.mem_append_right _ hp)⟩
  · rintro ⟨h1, h2⟩ p hp
    rcases List.mem_append.mp hp with e | e
    · exact h1 p e
    · exact h2 p e
theorem cut_spec : ∀ (w : List Pc) (s : Int) (xs : List Int), Pos w → xs.Pairwise (· ≤ ·) → Pos (cutP s w xs) ∧ lenP (cutP s w xs) = lenP w ∧ (cutP s w xs).length ≤ w.length * (xs.length + 1) ∧ (∀ i, 0 ≤ i → i < lenP w → atP (cutP s w xs) i = atP w i) ∧
    ∀ x, x ∈ endsP s (cutP s w xs) ↔ x ∈ endsP s w ∨ (x ∈ xs ∧ s < x ∧ x < s + lenP w)
  | [], s, xs, _, _ => by
    refine ⟨fun p hp => (by cases hp), rfl, by simp [cutP], fun i _ _ => rfl, fun x => ?_⟩
    simp only [cutP, endsP, lenP_nil]
    constructor
    · exact .inl
    · rintro (e | ⟨_, e1, e2⟩)
      · exact e
      · omega
  | p :: r, s, xs, hp, hs => by
    obtain ⟨a1, a2, a3, a4, a5⟩ := cut1_spec xs s p hp.head hs
    obtain ⟨b1, b2, b3, b4, b5⟩ := cut_spec r (s + p.1) xs hp.tail hs
    have p0 := hp.head
    have lr := lenP_nn hp.tail.nn
    simp only [cutP]
    refine ⟨pos_app.mpr ⟨a1, b1⟩, by rw [lenP_app, lenP_cons, a2, b2], ?_, fun i h0 h1 => ?_, fun x => ?_⟩
    · rw [List.length_append, List.length_cons, Nat.succ_mul]; omega
    · rw [lenP_cons] at h1
      rw [atP_app a1.nn h0, a2]
      simp only [atP]
      split
      next hi => exact a4 i h0 hi
      next hi => exact b4 _ (by omega) (by omega)
    · rw [ends_app, a2, a5, b5, lenP_cons]
      simp only [endsP, List.mem_cons]
      have hf : s + p.1 ∈ endsP (s + p.1) r := ends_first
      constructor
      · rintro ((e | e | ⟨e1, e2, e3⟩) | e | ⟨e1, e2, e3⟩)
        · exact .inl (.inl e)
        · exact .inl (.inr (by rw [e]; exact hf))
        · exact .inr ⟨e1, e2, by omega⟩
        · exact .inl (.inr e)
        · exact .inr ⟨e1, by omega, by omega⟩
      · rintro ((e | e) | ⟨e1, e2, e3⟩)
        · exact .inl (.inl e)
        · exact .inr (.inl e)
        · rcases Int.lt_trichotomy x (s + p.1) with h | h | h
          · exact .inl (.inr (.inr ⟨e1, e2, h⟩))
          · exact .inl (.inr (.inl h))
          · exact .inr (.inr ⟨e1, h, by omega⟩)
theorem ends_sorted : ∀ {w : List Pc} {s : Int}, Pos w → (endsP s w).Pairwise (· < ·)
  | [], s, _ => by simp [endsP]
  | p :: r, s, h => by
    simp only [endsP]
    refine List.pairwise_cons.mpr ⟨fun x hx => ?_, ends_sorted h.tail⟩
    have := (ends_ge h.tail.nn x hx).1
    have := h.head
    omega
theorem ints_ext : ∀ {ms ns : List Int}, ms.Pairwise (· < ·) → ns.Pairwise (· < ·) → (∀ k, k ∈ ms ↔ k ∈ ns) → ms = ns
  | [], [], _, _, _ => rfl
  | [], n :: r, _, _, h => by have := (h n).mpr List.mem_cons_self; cases this
  | m :: r, [], _, _, h => by have := (h m).mp List.mem_cons_self; cases this
  | m :: r, n :: q, h1, h2, h => by
    have a1 := List.pairwise_cons.mp h1
    have a2 := List.pairwise_cons.mp h2
    have e : m = n := by
      rcases List.mem_cons.mp ((h m).mp List.mem_cons_self) with e | e
      · exact e
      · rcases List.mem_cons.mp ((h n).mpr List.mem_cons_self) with e' | e'
        · exact e'.symm
        · have x := a1.1 n e'
          have y := a2.1 m e
          omega
    subst e
    rw [ints_ext a1.2 a2.2 fun k => ?_]
    have hk := h k
    constructor
    · intro hm
      rcases List.mem_cons.mp (hk.mp (List.mem_cons_of_mem _ hm)) with e | e
      · have := a1.1 k hm
        omega
      · exact e
    · intro hm
      rcases List.mem_cons.mp (hk.mpr (List.mem_cons_of_mem _ hm)) with e | e
      · have := a2.1 k hm
        omega
      · exact e
theorem manys_of_ends : ∀ {u v : List Pc} {s : Int}, endsP s u = endsP s v → u.map (·.1) = v.map (·.1)
  | [], [], _, _ => rfl
  | [], q :: s, _, h => by have := congrArg List.length h; simp [endsP, ends_len] at this
  | p :: r, [], _, h => by have := congrArg List.length h; simp [endsP, ends_len] at this
  | p :: r, q :: t, s, h => by
    simp only [endsP, List.cons.injEq, true_and] at h
    have e : s + p.1 = s + q.1 := by
      have h1 : (endsP (s + p.1) r).head? = some (s + p.1) := by cases r <;> rfl
      have h2 : (endsP (s + q.1) t).head? = some (s + q.1) := by cases t <;> rfl
      rw [h, h2] at h1
      simpa using h1.symm
    rw [e] at h
    simp only [List.map_cons, List.cons.injEq]
    exact ⟨by omega, manys_of_ends h⟩
def zipP (u v : List Pc) : List Pc := List.zipWith (fun p q => (p.1, plusL p.2 q.2)) u v
theorem zip_spec : ∀ {u v : List Pc}, u.map (·.1) = v.map (·.1) → Pos u → Pos (zipP u v) ∧ lenP (zipP u v) = lenP u ∧ ∀ i, 0 ≤ i → i < lenP u → atP (zipP u v) i = plusL (atP u i) (atP v i)
  | [], [], _, h => ⟨h, rfl, fun i h0 h1 => by rw [lenP_nil] at h1; omega⟩
  | [], _ :: _, e, _ => by simp at e
  | _ :: _, [], e, _ => by simp at e
  | p :: r, q :: s, e, h => by
    simp only [List.map_cons, List.cons.injEq] at e
    obtain ⟨a1, a2, a3⟩ := zip_spec e.2 h.tail
    have ez : zipP (p :: r) (q :: s) = (p.1, plusL p.2 q.2) :: zipP r s := rfl
    rw [ez]
    refine ⟨Pos.cons h.head a1, by rw [lenP_cons, lenP_cons, a2], fun i h0 h1 => ?_⟩
    rw [lenP_cons] at h1
    simp only [atP]
    rw [← e.1]
    split
    · rfl
    · exact a3 _ (by omega) (by omega)
/-- what the law adds, by cuts, is what the program adds -/
theorem added_law {u v : List Pc} {xs ys : List Int} (hu : Pos u) (hv : Pos v) (hl : lenP u = lenP v) (hx : xs.Pairwise (· ≤ ·)) (hy : ys.Pairwise (· ≤ ·)) (mx : ∀ x, x ∈ xs ↔ x ∈ endsP 0 v) (my : ∀ x, x ∈ ys ↔ x ∈ endsP 0 u) :
    shp (zipP (cutP 0 u xs) (cutP 0 v ys)) = shp (addP u v) := by
  obtain ⟨a1, a2, _, a4, a5⟩ := cut_spec u 0 xs hu hx
  obtain ⟨b1, b2, _, b4, b5⟩ := cut_spec v 0 ys hv hy
  have ee : endsP 0 (cutP 0 u xs) = endsP 0 (cutP 0 v ys) := ints_ext (ends_sorted a1) (ends_sorted b1) fun x => by
    have f1 := @ends_first 0 u
    have f2 := @ends_first 0 v
    have g1 := @ends_fin 0 u
    have g2 := @ends_fin 0 v
    rw [a5, b5, mx, my]
    constructor
    · rintro (e | ⟨e, _, _⟩)
      · have h := ends_ge hu.nn x e
        by_cases hx0 : x = 0
        · left; rw [hx0]; exact f2
        · by_cases hx1 : x = 0 + lenP v
          · left; rw [hx1]; exact g2
          · exact .inr ⟨e, by omega, by omega⟩
      · exact .inl e
    · rintro (e | ⟨e, _, _⟩)
      · have h := ends_ge hv.nn x e
        by_cases hx0 : x = 0
        · left; rw [hx0]; exact f1
        · by_cases hx1 : x = 0 + lenP u
          · left; rw [hx1]; exact g1
          · exact .inr ⟨e, by omega, by omega⟩
      · exact .inl e
  obtain ⟨c1, c2, c3⟩ := zip_spec (manys_of_ends ee) a1
  obtain ⟨d1, d2, _, d4⟩ := addP_spec u v hu hv hl
  refine cn_ext (cn_shp _) (cn_shp _) (by rw [len_shp c1.nn, len_shp d1.nn, c2, d2, a2]) fun i h0 h1 => ?_
  rw [len_shp c1.nn, c2, a2] at h1
  rw [at_shp c1.nn h0, at_shp d1.nn h0, c3 i h0 (by omega), d4 i h0 h1, a4 i h0 h1, b4 i h0 (by omega)]
theorem add_comm' {u v : List Pc} (hu : Pos u) (hv : Pos v) (hl : lenP u = lenP v) : shp (addP u v) = shp (addP v u) := by
  obtain ⟨d1, d2, _, d4⟩ := addP_spec u v hu hv hl
  obtain ⟨e1, e2, _, e4⟩ := addP_spec v u hv hu hl.symm
  refine cn_ext (cn_shp _) (cn_shp _) (by rw [len_shp d1.nn, len_shp e1.nn, d2, e2, hl]) fun i h0 h1 => ?_
  rw [len_shp d1.nn, d2] at h1
  rw [at_shp d1.nn h0, at_shp e1.nn h0, d4 i h0 h1, e4 i h0 (by omega), plus_comm]
/-- what is put on a weighing -/
def putP (w : List Pc) (b : Int) (t : List Pc) : List Pc := shp (partP 0 w 0 b ++ shp (addP (partP 0 w b (b + lenP t)) t) ++ partP 0 w (b + lenP t) (lenP w))
theorem put_law {w t : List Pc} {b : Int} {n : Nat} (hw : Pos w) (ht : Pos t) (h0 : 0 ≤ b) (h1 : b + lenP t ≤ lenP w) (hn : ∀ i, 0 ≤ i → i < lenP w → (atP w i).length = n) :
    putP w b t = shp (addP w (shp ([(b, List.replicate n 0)] ++ t ++ [(lenP w - b - lenP t, List.replicate n 0)]))) := by
  have lt := lenP_nn ht.nn
  have nz : NN ([(b, List.replicate n 0)] ++ t ++ [(lenP w - b - lenP t, List.replicate n 0)]) := by
    intro p hp
    simp only [List.mem_append, List.mem_singleton] at hp
    rcases hp with (rfl | hp) | rfl
    · exact h0
    · exact ht.nn p hp
    · show 0 ≤ lenP w - b - lenP t; omega
  have zc := cn_shp ([(b, List.replicate n 0)] ++ t ++ [(lenP w - b - lenP t, List.replicate n 0)])
  have zl : lenP (shp ([(b, List.replicate n 0)] ++ t ++ [(lenP w - b - lenP t, List.replicate n 0)])) = lenP w := by
    rw [len_shp nz, lenP_app, lenP_app]; simp [lenP]; omega
  have za : ∀ i, 0 ≤ i → atP (shp ([(b, List.replicate n 0)] ++ t ++ [(lenP w - b - lenP t, List.replicate n 0)])) i = if i < b then List.replicate n 0 else if i < b + lenP t then atP t (i - b) else if i < lenP w then List.replicate n 0 else [] := fun i hi => by
    rw [at_shp nz hi, List.append_assoc, List.singleton_append]
    simp only [atP]
    split
    · rfl
    · rw [atP_app ht.nn (by omega)]
      by_cases h2 : i < b + lenP t
      · rw [if_pos (by omega), if_pos h2]
      · rw [if_neg (by omega), if_neg h2]
        simp only [atP]
        by_cases h3 : i < lenP w
        · rw [if_pos (by omega), if_pos h3]
        · rw [if_neg (by omega), if_neg h3]
  generalize hz : shp ([(b, List.replicate n 0)] ++ t ++ [(lenP w - b - lenP t, List.replicate n 0)]) = z at *
  obtain ⟨a1, a2, _, a4⟩ := addP_spec w z hw zc.Pos zl.symm
  -- the three parts
  have pl1 : lenP (partP 0 w 0 b) = b := by rw [part_len hw h0 (by omega)]; unfold mxI; (repeat' split) <;> omega
  have pl2 : lenP (partP 0 w b (b + lenP t)) = lenP t := by rw [part_len hw (by omega) (by omega)]; unfold mxI; (repeat' split) <;> omega
  have pl3 : lenP (partP 0 w (b + lenP t) (lenP w)) = lenP w - b - lenP t := by rw [part_len hw (by omega) (by omega)]; unfold mxI; (repeat' split) <;> omega
  obtain ⟨b1, b2, _, b4⟩ := addP_spec _ _ (part_pos (a := 0) (w := w) (b := b) (e := b + lenP t)) ht pl2
  have mp : NN (partP 0 w 0 b ++ shp (addP (partP 0 w b (b + lenP t)) t) ++ partP 0 w (b + lenP t) (lenP w)) := nn_app.mpr ⟨nn_app.mpr ⟨part_pos.nn, (cn_shp _).nn⟩, part_pos.nn⟩
  have ml : lenP (shp (addP (partP 0 w b (b + lenP t)) t)) = lenP t := by rw [len_shp b1.nn, b2, pl2]
  unfold putP
  refine cn_ext (cn_shp _) (cn_shp _) (by rw [len_shp mp, len_shp a1.nn, a2, lenP_app, lenP_app, pl1, pl3, ml]; omega) fun i i0 i1 => ?_
  rw [len_shp mp, lenP_app, lenP_app, pl1, pl3, ml] at i1
  rw [at_shp mp i0, at_shp a1.nn i0, a4 i i0 (by omega), za i i0, List.append_assoc, atP_app part_pos.nn i0, pl1]
  by_cases c1 : i < b
  · rw [if_pos c1, if_pos c1, plus_bare _ _ (hn i i0 (by omega)), part_at hw i0 (by unfold mxI; (repeat' split) <;> omega) (by omega)]
    congr 1; unfold mxI; (repeat' split) <;> omega
  · rw [if_neg c1, if_neg c1, atP_app (cn_shp _).nn (by omega), ml]
    by_cases c2 : i < b + lenP t
    · rw [if_pos (by omega), if_pos c2, at_shp b1.nn (by omega), b4 _ (by omega) (by omega), part_at hw (by omega) (by unfold mxI; (repeat' split) <;> omega) (by omega)]
      congr 2; unfold mxI; (repeat' split) <;> omega
    · rw [if_neg (by omega), if_neg c2, if_pos (by omega), plus_bare _ _ (hn i i0 (by omega)), part_at hw (by omega) (by unfold mxI; (repeat' split) <;> omega) (by omega)]
      congr 1; unfold mxI; (repeat' split) <;> omega
end F3
namespace F3
/-! WE: pure laws of weighings: wound round. -/
def scaleL (c : Int) (w : List Int) : List Int := w.map (c * ·)
theorem scale_len {c : Int} {w : List Int} : (scaleL c w).length = w.length := by simp [scaleL]
theorem scale_zero : ∀ w : List Int, scaleL 0 w = List.replicate w.length 0
  | [] => rfl
  | a :: r => by
    have := scale_zero r
    simp only [scaleL, List.map_cons, List.length_cons, List.replicate_succ] at this ⊢
    rw [this]; simp
theorem scale_one : ∀ w : List Int, scaleL 1 w = w
  | [] => rfl
  | a :: r => by
    have := scale_one r
    simp only [scaleL, List.map_cons] at this ⊢
    rw [this]; simp
theorem plus_scale : ∀ (f w : List Int) (a b : Int), f.length = w.length → plusL (plusL f (scaleL a w)) (scaleL b w) = plusL f (scaleL (a + b) w)
  | [], [], _, _, _ => rfl
  | x :: f, y :: w, a, b, h => by
    have := plus_scale f w a b (by simpa using h)
    simp only [plusL, scaleL, List.map_cons, List.zipWith_cons_cons] at this ⊢
    rw [this, Int.add_mul, Int.add_assoc]
  | [], _ :: _, _, _, h => by simp at h
  | _ :: _, [], _, _, h => by simp at h
/-- how many places ahead of e leave the rest p by t -/
def ahd (e p t : Int) : Int := (e + t - 1 - p) / t
theorem ahd_eq {e p t : Int} (ht : 0 < t) (h0 : 0 ≤ p) (h1 : p < t) : ahd e p t = e / t + if p < e % t then 1 else 0 := by
  unfold ahd
  have m0 := Int.emod_nonneg e (show t ≠ 0 by omega)
  have m1 := Int.emod_lt_of_pos e ht
  have hd := Int.mul_ediv_add_emod e t
  generalize e / t = q at *
  generalize e % t = r at *
  have e1 : e + t - 1 - p = (r + t - 1 - p) + t * q := by omega
  rw [e1, Int.add_mul_ediv_left _ _ (show t ≠ 0 by omega)]
  split
  · have : (r + t - 1 - p) / t = 1 := by
      rw [show r + t - 1 - p = (r - 1 - p) + t * 1 by omega, Int.add_mul_ediv_left _ _ (show t ≠ 0 by omega), Int.ediv_eq_zero_of_lt (by omega) (by omega)]; rfl
    omega
  · have : (r + t - 1 - p) / t = 0 := Int.ediv_eq_zero_of_lt (by omega) (by omega)
    omega
/-- the arc of the rest -/
def arcP (here rest t : Int) (x : List Int) : List Pc := if here + rest ≤ t then [(here, scaleL 0 x), (rest, x), (t - here - rest, scaleL 0 x)] else [(here + rest - t, x), (t - rest, scaleL 0 x), (t - here, x)]
theorem arc_nn {here rest t : Int} {x : List Int} (h0 : 0 ≤ here) (h1 : here < t) (r0 : 0 ≤ rest) (r1 : rest < t) : NN (arcP here rest t x) ∧ lenP (arcP here rest t x) = t := by
  unfold arcP
  split
  · refine ⟨fun p hp => ?_, by simp [lenP]; omega⟩
    simp only [List.mem_cons, List.not_mem_nil, or_false] at hp
    rcases hp with rfl | rfl | rfl
    · exact h0
    · exact r0
    · show 0 ≤ t - here - rest; omega
  · refine ⟨fun p hp => ?_, by simp [lenP]; omega⟩
    simp only [List.mem_cons, List.not_mem_nil, or_false] at hp
    rcases hp with rfl | rfl | rfl
    · show 0 ≤ here + rest - t; omega
    · show 0 ≤ t - rest; omega
    · show 0 ≤ t - here; omega
theorem arc_at {here rest t p : Int} {x : List Int} (h0 : 0 ≤ here) (h1 : here < t) (r0 : 0 ≤ rest) (r1 : rest < t) (p0 : 0 ≤ p) (p1 : p < t) :
    atP (arcP here rest t x) p = scaleL (if here + rest ≤ t then (if here ≤ p ∧ p < here + rest then 1 else 0) else (if p < here + rest - t ∨ here ≤ p then 1 else 0)) x := by
  unfold arcP
  by_cases hc : here + rest ≤ t
  · simp only [if_pos hc, atP]
    by_cases c1 : p < here
    · rw [if_pos c1, if_neg (by omega)]
    · rw [if_neg c1]
      by_cases c2 : p - here < rest
      · rw [if_pos c2, if_pos (by omega), scale_one]
      · rw [if_neg c2, if_pos (by omega), if_neg (by omega)]
  · simp only [if_neg hc, atP]
    by_cases c1 : p < here + rest - t
    · rw [if_pos c1, if_pos (by omega), scale_one]
    · rw [if_neg c1]
      by_cases c2 : p - (here + rest - t) < t - rest
      · rw [if_pos c2, if_neg (by omega)]
      · rw [if_neg c2, if_pos (by omega), if_pos (by omega), scale_one]
/-- how often the places from e on, m of them, come to p -/
theorem often_eq {e m t p : Int} (ht : 0 < t) (p0 : 0 ≤ p) (p1 : p < t) :
    m / t + (if e % t + m % t ≤ t then (if e % t ≤ p ∧ p < e % t + m % t then 1 else 0) else (if p < e % t + m % t - t ∨ e % t ≤ p then 1 else 0)) = ahd (e + m) p t - ahd e p t := by
  rw [ahd_eq ht p0 p1, ahd_eq ht p0 p1]
  have e0 := Int.emod_nonneg e (show t ≠ 0 by omega)
  have e1 := Int.emod_lt_of_pos e ht
  have m0 := Int.emod_nonneg m (show t ≠ 0 by omega)
  have m1 := Int.emod_lt_of_pos m ht
  have he := Int.mul_ediv_add_emod e t
  have hm := Int.mul_ediv_add_emod m t
  have key : (e % t + m % t < t ∧ (e + m) / t = e / t + m / t ∧ (e + m) % t = e % t + m % t) ∨ (t ≤ e % t + m % t ∧ (e + m) / t = e / t + m / t + 1 ∧ (e + m) % t = e % t + m % t - t) := by
    by_cases hc : e % t + m % t < t
    · left
      have : e + m = (e % t + m % t) + t * (e / t + m / t) := by rw [Int.mul_add]; omega
      refine ⟨hc, ?_, ?_⟩
      · rw [this, Int.add_mul_ediv_left _ _ (show t ≠ 0 by omega), Int.ediv_eq_zero_of_lt (by omega) hc]; omega
      · rw [this, Int.add_mul_emod_self_left, Int.emod_eq_of_lt (by omega) hc]
    · right
      have : e + m = (e % t + m % t - t) + t * (e / t + m / t + 1) := by rw [Int.mul_add, Int.mul_add]; omega
      refine ⟨by omega, ?_, ?_⟩
      · rw [this, Int.add_mul_ediv_left _ _ (show t ≠ 0 by omega), Int.ediv_eq_zero_of_lt (by omega) (by omega)]; omega
      · rw [this, Int.add_mul_emod_self_left, Int.emod_eq_of_lt (by omega) (by omega)]
  generalize (e + m) / t = q at *
  generalize (e + m) % t = r at *
  generalize e / t = qe at *
  generalize e % t = re at *
  generalize m / t = qm at *
  generalize m % t = rm at *
  clear he hm
  rcases key with ⟨k1, rfl, rfl⟩ | ⟨k1, rfl, rfl⟩
  · rw [if_pos (by omega)]
    by_cases c1 : p < re
    · rw [if_neg (by omega), if_pos (by omega), if_pos c1]; omega
    · by_cases c2 : p < re + rm
      · rw [if_pos (by omega), if_pos c2, if_neg c1]; omega
      · rw [if_neg (by omega), if_neg c2, if_neg c1]; omega
  · by_cases c0 : re + rm ≤ t
    · rw [if_pos c0]
      by_cases c1 : p < re
      · rw [if_neg (by omega), if_neg (by omega), if_pos c1]; omega
      · rw [if_pos (by omega), if_neg (by omega), if_neg c1]; omega
    · rw [if_neg c0]
      by_cases c1 : p < re
      · by_cases c2 : p < re + rm - t
        · rw [if_pos (by omega), if_pos c2, if_pos c1]; omega
        · rw [if_neg (by omega), if_neg c2, if_pos c1]; omega
      · rw [if_pos (by omega), if_neg (by omega), if_neg c1]; omega
/-- what comes to p of the stretches from e on, put on acc -/
def denW (t p : Int) : Int → List Pc → List Int → List Int
  | _, [], acc => acc
  | e, q :: r, acc => denW t p (e + q.1) r (plusL acc (scaleL (ahd (e + q.1) p t - ahd e p t) q.2))
/-- one stretch more -/
def onceP (found : List Pc) (here m : Int) (x : List Int) (t : Int) : List Pc := shp (addP (shp (addP found [(t, scaleL (m / t) x)])) (shp (arcP here (m % t) t x)))
theorem once_spec {found : List Pc} {e m t : Int} {x : List Int} (hf : Pos found) (hl : lenP found = t) (ht : 0 < t) (hx : ∀ p, 0 ≤ p → p < t → (atP found p).length = x.length) :
    Pos (onceP found (e % t) m x t) ∧ Cn (onceP found (e % t) m x t) ∧ lenP (onceP found (e % t) m x t) = t ∧ ∀ p, 0 ≤ p → p < t → atP (onceP found (e % t) m x t) p = plusL (atP found p) (scaleL (ahd (e + m) p t - ahd e p t) x) := by
  have e0 := Int.emod_nonneg e (show t ≠ 0 by omega)
  have e1 := Int.emod_lt_of_pos e ht
  have m0 := Int.emod_nonneg m (show t ≠ 0 by omega)
  have m1 := Int.emod_lt_of_pos m ht
  have rp : Pos [(t, scaleL (m / t) x)] := Pos.cons ht (fun q hq => by cases hq)
  have rl : lenP [(t, scaleL (m / t) x)] = t := by simp [lenP]
  obtain ⟨a1, a2, _, a4⟩ := addP_spec found _ hf rp (by rw [rl, hl])
  obtain ⟨n1, n2⟩ := arc_nn (x := x) e0 e1 m0 m1
  have sl : lenP (shp (addP found [(t, scaleL (m / t) x)])) = t := by rw [len_shp a1.nn, a2, hl]
  have al : lenP (shp (arcP (e % t) (m % t) t x)) = t := by rw [len_shp n1, n2]
  obtain ⟨b1, b2, _, b4⟩ := addP_spec _ _ (cn_shp (addP found [(t, scaleL (m / t) x)])).Pos (cn_shp (arcP (e % t) (m % t) t x)).Pos (by rw [sl, al])
  unfold onceP
  refine ⟨(cn_shp _).Pos, cn_shp _, by rw [len_shp b1.nn, b2, sl], fun p p0 p1 => ?_⟩
  rw [at_shp b1.nn p0, b4 p p0 (by omega), at_shp a1.nn p0, a4 p p0 (by omega), at_shp n1 p0, arc_at e0 e1 m0 m1 p0 p1]
  have : atP [(t, scaleL (m / t) x)] p = scaleL (m / t) x := by simp [atP, p1]
  rw [this, plus_scale _ _ _ _ (hx p p0 p1), often_eq ht p0 p1]
theorem once_len (found : List Pc) (here m : Int) (x : List Int) (t : Int) (hf : Pos found) (hl : lenP found = t) (ht : 0 < t) (h0 : 0 ≤ here) (h1 : here < t) : (onceP found here m x t).length ≤ found.length + 4 := by
  have shl : ∀ ps : List Pc, (shp ps).length ≤ ps.length := by
    have : ∀ (ps w : List Pc), (ps.foldl shStep w).length ≤ w.length + ps.length := by
      intro ps
      induction ps with
      | nil => intro w; simp
      | cons p r ih =>
        intro w
        rw [List.foldl_cons]
        have := ih (shStep w p)
        have h1 : (shStep w p).length ≤ w.length + 1 := by
          unfold shStep
          split
          · split
            · split
              · simp
                try omega
              · simp
            · simp
          · omega
        simp only [List.length_cons]; omega
    intro ps
    have := this ps []
    simpa [shp] using this
  have m0 := Int.emod_nonneg m (show t ≠ 0 by omega)
  have m1 := Int.emod_lt_of_pos m ht
  have rp : Pos [(t, scaleL (m / t) x)] := Pos.cons ht (fun q hq => by cases hq)
  have rl : lenP [(t, scaleL (m / t) x)] = t := by simp [lenP]
  obtain ⟨a1, a2, a3, _⟩ := addP_spec found _ hf rp (by rw [rl, hl])
  obtain ⟨n1, n2⟩ := arc_nn (x := x) h0 h1 m0 m1
  have sl : lenP (shp (addP found [(t, scaleL (m / t) x)])) = t := by rw [len_shp a1.nn, a2, hl]
  have al : lenP (shp (arcP here (m % t) t x)) = t := by rw [len_shp n1, n2]
  obtain ⟨b1, b2, b3, b4⟩ := addP_spec _ _ (cn_shp (addP found [(t, scaleL (m / t) x)])).Pos (cn_shp (arcP here (m % t) t x)).Pos (by rw [sl, al])
  have g1 := shl (addP (shp (addP found [(t, scaleL (m / t) x)])) (shp (arcP here (m % t) t x)))
  have g2 := shl (addP found [(t, scaleL (m / t) x)])
  have g3 := shl (arcP here (m % t) t x)
  have g4 : (arcP here (m % t) t x).length = 3 := by unfold arcP; split <;> rfl
  unfold onceP
  simp only [List.length_cons, List.length_nil] at a3
  omega
def woundP (t : Int) : Int → List Pc → List Pc → List Pc
  | _, [], found => found
  | e, q :: r, found => woundP t (e + q.1) r (onceP found (e % t) q.1 q.2 t)
theorem wound_spec {t : Int} {n : Nat} (ht : 0 < t) : ∀ (w found : List Pc) (e : Int), (∀ q ∈ w, q.2.length = n) → Cn found → lenP found = t → (∀ p, 0 ≤ p → p < t → (atP found p).length = n) →
    Cn (woundP t e w found) ∧ lenP (woundP t e w found) = t ∧ ∀ p, 0 ≤ p → p < t → atP (woundP t e w found) p = denW t p e w (atP found p)
  | [], found, e, _, hc, hl, _ => ⟨hc, hl, fun _ _ _ => rfl⟩
  | q :: r, found, e, hn, hc, hl, hf => by
    have hq : q.2.length = n := hn q List.mem_cons_self
    obtain ⟨a1, a2, a3, a4⟩ := once_spec (e := e) (m := q.1) (x := q.2) hc.Pos hl ht fun p p0 p1 => by rw [hf p p0 p1, hq]
    obtain ⟨b1, b2, b3⟩ := wound_spec ht r (onceP found (e % t) q.1 q.2 t) (e + q.1) (fun x hx => hn x (List.mem_cons_of_mem _ hx)) a2 a3 fun p p0 p1 => by
      rw [a4 p p0 p1, plus_len, scale_len, hf p p0 p1, hq]; omega
    refine ⟨b1, b2, fun p p0 p1 => ?_⟩
    show atP (woundP t (e + q.1) r (onceP found (e % t) q.1 q.2 t)) p = denW t p (e + q.1) r (plusL (atP found p) (scaleL (ahd (e + q.1) p t - ahd e p t) q.2))
    rw [b3 p p0 p1, a4 p p0 p1]
/-! ### as the law reckons -/
/-- the pieces between cuts -/
def dueP (t : Int) (w : List Pc) (z : List Int) : List Int → List Pc
  | c :: d :: r => (d - c, denW t c 0 w z) :: dueP t w z (d :: r)
  | _ => []
theorem den_const {t c p : Int} (ht : 0 < t) : ∀ (w : List Pc) (e : Int) (z : List Int), (∀ x ∈ endsP e w, (p < x % t ↔ c < x % t)) → 0 ≤ c → c < t → 0 ≤ p → p < t → denW t p e w z = denW t c e w z
  | [], _, _, _, _, _, _, _ => rfl
  | q :: r, e, z, h, c0, c1, p0, p1 => by
    have h1 := h e (by simp [endsP])
    have h2 := h (e + q.1) (by simp only [endsP, List.mem_cons]; exact .inr ends_first)
    simp only [denW]
    have : ahd (e + q.1) p t - ahd e p t = ahd (e + q.1) c t - ahd e c t := by
      rw [ahd_eq ht p0 p1, ahd_eq ht p0 p1, ahd_eq ht c0 c1, ahd_eq ht c0 c1]
      simp only [h1, h2]
    rw [this]
    exact den_const ht r _ _ (fun x hx => h x (by simp only [endsP, List.mem_cons]; exact .inr hx)) c0 c1 p0 p1
theorem due_spec {t : Int} {w : List Pc} {z : List Int} (ht : 0 < t) : ∀ (cs : List Int) (c : Int), (c :: cs).Pairwise (· < ·) → (c :: cs).getLast? = some t → 0 ≤ c → (∀ x ∈ endsP 0 w, x % t < c ∨ x % t ∈ c :: cs) →
    Pos (dueP t w z (c :: cs)) ∧ lenP (dueP t w z (c :: cs)) = t - c ∧ ∀ i, 0 ≤ i → i < t - c → atP (dueP t w z (c :: cs)) i = denW t (c + i) 0 w z
  | [], c, _, hl, _, _ => by
    have : c = t := by simpa using hl
    subst this
    exact ⟨fun p hp => (by cases hp), by simp [dueP, lenP], fun i h0 h1 => by omega⟩
  | d :: r, c, hs, hl, c0, hm => by
    have hs' := List.pairwise_cons.mp hs
    have cd := hs'.1 d List.mem_cons_self
    have hl' : (d :: r).getLast? = some t := by rw [List.getLast?_cons_cons] at hl; exact hl
    have dt : d ≤ t := by
      have hm := List.mem_of_getLast? hl'
      rcases List.mem_cons.mp hm with e | e
      · omega
      · have := (List.pairwise_cons.mp hs'.2).1 t e; omega
    obtain ⟨a1, a2, a3⟩ := due_spec (w := w) (z := z) ht r d hs'.2 hl' (by omega) fun x hx => by
      rcases hm x hx with h | h
      · exact .inl (by omega)
      · rcases List.mem_cons.mp h with e | e
        · exact .inl (by omega)
        · exact .inr e
    simp only [dueP]
    refine ⟨Pos.cons (by show 0 < d - c; omega) a1, by rw [lenP_cons, a2]; show d - c + (t - d) = _; omega, fun i h0 h1 => ?_⟩
    simp only [atP]
    by_cases hi : i < d - c
    · rw [if_pos hi]
      refine (den_const ht w 0 z (fun x hx => ?_) c0 (by omega) (by omega) (by omega)).symm
      rcases hm x hx with h | h
      · constructor <;> (intro; omega)
      · rcases List.mem_cons.mp h with e | e
        · constructor <;> (intro; omega)
        · have : d ≤ x % t := by
            rcases List.mem_cons.mp e with e | e
            · omega
            · have := (List.pairwise_cons.mp hs'.2).1 _ e; omega
          constructor <;> (intro; omega)
    · rw [if_neg hi, a3 _ (by omega) (by omega)]
      congr 1; omega
theorem wound_law {t : Int} {n : Nat} {w : List Pc} {cs : List Int} (ht : 0 < t) (hw : ∀ q ∈ w, q.2.length = n) (hs : (0 :: cs).Pairwise (· < ·)) (hl : (0 :: cs).getLast? = some t) (hm : ∀ x ∈ endsP 0 w, x % t ∈ 0 :: cs) :
    woundP t 0 w [(t, List.replicate n 0)] = shp (dueP t w (List.replicate n 0) (0 :: cs)) := by
  have c0 : Cn [(t, List.replicate n 0)] := ht
  have l0 : lenP [(t, List.replicate n 0)] = t := by simp [lenP]
  have a0 : ∀ p, p < t → atP [(t, List.replicate n 0)] p = List.replicate n 0 := fun p hp => by simp [atP, hp]
  obtain ⟨a1, a2, a3⟩ := wound_spec ht w _ 0 hw c0 l0 fun p p0 p1 => by rw [a0 p p1]; simp
  obtain ⟨b1, b2, b3⟩ := due_spec (w := w) (z := List.replicate n 0) ht cs 0 hs hl (by omega) fun x hx => .inr (hm x hx)
  refine cn_ext a1 (cn_shp _) (by rw [a2, len_shp b1.nn, b2]; omega) fun i h0 h1 => ?_
  rw [a2] at h1
  rw [a3 i h0 h1, at_shp b1.nn h0, b3 i h0 (by omega), a0 i h1]
  congr 1; omega
end F3
namespace F3
/-! WH: pure laws of weighings: more. -/
theorem mem_step {w : List Pc} {p x : Pc} (hx : x ∈ shStep w p) : x.2 = p.2 ∨ x ∈ w := by
  by_cases h : 0 < p.1
  · rcases snoc_cases w with rfl | ⟨u, q, rfl⟩
    · rw [shStep_nil h] at hx
      have : x = p := by simpa using hx
      exact .inl (by rw [this])
    · by_cases e : q.2 = p.2
      · rw [shStep_same h e] at hx
        rcases List.mem_append.mp hx with z | z
        · exact .inr (List.mem_append_left _ z)
        · have : x = (q.1 + p.1, p.2) := by simpa using z
          exact .inl (by rw [this])
      · rw [shStep_new h e] at hx
        rcases List.mem_append.mp hx with z | z
        · exact .inr z
        · have : x = p := by simpa using z
          exact .inl (by rw [this])
  · rw [shStep_none h] at hx; exact .inr hx
theorem mem_fold : ∀ (ps : List Pc) {w : List Pc} {x : Pc}, x ∈ ps.foldl shStep w → (∃ q ∈ ps, q.2 = x.2) ∨ x ∈ w
  | [], _, _, h => .inr h
  | p :: r, w, x, h => by
    rw [List.foldl_cons] at h
    rcases mem_fold r h with ⟨q, h1, h2⟩ | z
    · exact .inl ⟨q, List.mem_cons_of_mem _ h1, h2⟩
    · rcases mem_step z with e | e
      · exact .inl ⟨p, List.mem_cons_self, e.symm⟩
      · exact .inr e
theorem mem_shp {ps : List Pc} {x : Pc} (h : x ∈ shp ps) : ∃ q ∈ ps, q.2 = x.2 := by
  rcases mem_fold ps h with e | e
  · exact e
  · cases e
theorem shp_len (ps : List Pc) : (shp ps).length ≤ ps.length := by
  have : ∀ (ps w : List Pc), (ps.foldl shStep w).length ≤ w.length + ps.length := by
    intro ps
    induction ps with
    | nil => intro w; simp
    | cons p r ih =>
      intro w
      rw [List.foldl_cons]
      have := ih (shStep w p)
      have h1 : (shStep w p).length ≤ w.length + 1 := by
        unfold shStep
        split
        · split
          · split
            · simp
              try omega
            · simp
          · simp
        · omega
      simp only [List.length_cons]; omega
  have := this ps []
  simpa [shp] using this
end F3
set_option maxHeartbeats 400000
/-! WI: a weighing drawn, its ends; the weights at a place. -/
namespace F3
open PySem PySem.Spec PyProof.Rows L2
theorem len_le {B : Int} : ∀ {ps : List Pc}, (∀ p ∈ ps, p.1 ≤ B) → lenP ps ≤ ps.length * B
  | [], _ => by simp [lenP]
  | p :: r, h => by
    rw [lenP_cons, List.length_cons]
    have := h p List.mem_cons_self
    have := len_le (ps := r) fun q hq => h q (List.mem_cons_of_mem _ hq)
    rw [Int.natCast_add, Int.add_mul]; omega
/-- a drawn weighing of so many weights -/
structure WgOk (n : Nat) (w : List Pc) : Prop where
  cn : Cn w
  wt : ∀ p ∈ w, WtOk n p.2
  len : w.length ≤ 40
  long : lenP w ≤ 10 ^ 61
def t_weighing : C3 :=
  (cSeq (cAsg (tIxX (tC3 (tCall3 sp_take (tC3 (tV 0) (tC3 (tK (.int 7)) tN3))) (tC3 (tCall3 sp_take (tC3 (tV 0) (tC3 (tK (.int 41)) tN3))) tN3)) (tB3 intR (tC3 (tO eqR (tCall3 sp_take (tC3 (tV 0) (tC3 (tK (.int 8)) tN3))) (tK (.int 3))) tN3))) (gN 2))
    (cRet (tCall3 sp_shape (tC3 (tCall3 sp_pieces (tC3 (tV 0) (tC3 (tV 1) (tC3 (tV 2) tN3)))) tN3))))

def sp_weighing : Sp3 := spW (fun (n : Nat) => [.int n]) (fun n _ => n ≤ 24) (fun n h d g => ∃ w : List Pc, WgOk n w ∧ d = .ref h.length ∧ g = [.lst (w.map pcD)])
theorem mono_weighing : MonoS sp_weighing := mono_spW
theorem len_weighing : ∀ ds h Q E, sp_weighing ds h Q E → ds.length = 2 := len_spW fun _ => rfl
theorem rd_weighing : ∀ ds h Q E, ClS h.length h → ClDs h.length ds → sp_weighing ds h Q E → t_weighing (ends3 (GQ h.length Q)) (start3 3 ds) h := by
  rintro ds h Q E hcl _ w
  obtain ⟨a, c, s, wd, rfl, ha, hd, hn, eh, q⟩ := spW_in w
  have hn' : wd ≤ 24 := hn
  conv => arg 3; rw [eh]
  try simp only [↓tV_q, ↓tK_q, ↓tN3_q, ↓tC3_q, ↓cSeq_q, ↓cAsg_q, ↓tCall3_q, ↓tIxX_q, ↓start3_q, onO_some, List.getElem?_cons_zero, List.map_cons, List.map_nil, List.cons_append, List.nil_append, List.length_cons, List.length_nil, List.replicate_succ, List.replicate_zero, Nat.reduceAdd, Nat.reduceSub, t_weighing]
  refine take_q ha hd (by first | decide | omega) (by first | decide | omega) fun c s x hd x0 x1 => ?_
  try simp only [↓tV_q, ↓tK_q, ↓tN3_q, ↓tC3_q, ↓tCall3_q, ↓start3_q, onO_some, List.getElem?_cons_zero, List.map_cons, List.map_nil, List.cons_append, List.nil_append, List.length_cons, List.length_nil, List.replicate_succ, List.replicate_zero, Nat.reduceAdd, Nat.reduceSub]
  refine take_q ha hd (by first | decide | omega) (by first | decide | omega) fun c s y hd y0 y1 => ?_
  try simp only [↓tV_q, ↓tK_q, ↓tO_q, ↓tN3_q, ↓tC3_q, ↓tCall3_q, ↓tB3_q, ↓start3_q, onO_some, List.getElem?_cons_zero, List.map_cons, List.map_nil, List.cons_append, List.nil_append, List.length_cons, List.length_nil, List.replicate_succ, List.replicate_zero, Nat.reduceAdd, Nat.reduceSub]
  refine take_q ha hd (by first | decide | omega) (by first | decide | omega) fun c s z hd z0 z1 => ?_
  try simp only [↓tK_q, ↓tN3_q, ↓eqR_ii_q, ↓intR_b_q, onI_int]
  refine atT_all (by split <;> decide) (by split <;> simp) fun d hx => ?_
  have hx : ∃ m : Nat, d = .int m ∧ m ≤ 40 := by
    simp only [List.mem_cons, List.not_mem_nil, or_false] at hx
    rcases hx with rfl | rfl
    · exact ⟨x.toNat, by congr 1; omega, by omega⟩
    · exact ⟨y.toNat, by congr 1; omega, by omega⟩
  obtain ⟨m, rfl, hm⟩ := hx
  try simp only [↓tV_q, ↓tN3_q, ↓tC3_q, ↓cRet_q, ↓gN_q, ↓tCall3_q, ↓start3_q, thenE_nx, onO_some, List.getElem?_cons_zero, List.getElem?_cons_succ, List.set_cons_zero, List.set_cons_succ, List.map_cons, List.map_nil, List.cons_append, List.nil_append, List.length_cons, List.length_nil, List.replicate_succ, List.replicate_zero, Nat.reduceAdd, Nat.reduceSub]
  refine pieces_q ha hd (by omega) (by omega) fun c s ps hd hp hl => ?_
  try simp only [↓tN3_q, List.nil_append, List.length_nil, Nat.add_zero]
  refine shape_q (ps := ps) (by first | (rw [W_get0]; rfl) | (rw [W_getk]; rfl)) (by omega) ?_
  try simp only [ends3_rt, W_len, W_app, List.cons_append, List.nil_append, List.length_cons, List.length_nil, Nat.reduceAdd, W_len, W_app]
  refine gq_W (n := 1) ha hcl rfl cl_pcs (q _ _ _ _ hd ⟨shp ps, ⟨cn_shp ps, fun p h => ?_, by have := shp_len ps; omega, ?_⟩, rfl, rfl⟩)
  · obtain ⟨z, h1, h2⟩ := mem_shp h
    rw [← h2]; exact (hp z h1).2.2
  · rw [len_shp fun p h => by have := (hp p h).1; omega]
    have := len_le (B := 10 ^ 59) fun p h => (hp p h).2.1
    rw [hl] at this
    have : (m : Int) * 10 ^ 59 ≤ 40 * 10 ^ 59 := Int.mul_le_mul_of_nonneg_right (by omega) (by decide)
    omega
theorem weighing_q {h g : Sto} {a n : Nat} {c s : Int} {Q : DK} (ha : a < h.length) (hd : DrawOk c s) (hn : n ≤ 24) (q : ∀ (c s : Int) (w : List Pc), DrawOk c s → WgOk n w → Q (.ref (h.length + g.length)) (W h a c s (g ++ [.lst (w.map pcD)]))) : callS sp_weighing [.ref a, .int n] (W h a c s g) Q :=
  call_W n ha hd rfl hn fun c' s' k d hd' ⟨w, hw, e1, e2⟩ => by
    subst e1; subst e2
    rw [W_len]
    exact q _ _ w hd' hw
def b_ends_1 : C3 :=
  (cDrop (tLM appT (tV 1) (tC3 (tO addR (tO ixR (tV 1) (tU negR (tK (.int 1)))) (tV 2)) tN3)))
def t_ends : C3 :=
  (cSeq (cAsg (tNew (tC3 (tK (.int 0)) tN3)) (gN 1))
    (cSeq (cFor (iSeq (tV 0)) (gTup3 2 (gCons3 (gN 2) (gCons3 (gN 3) gNil3))) b_ends_1)
    (cRet (tV 1))))

def sp_ends : Sp3 := spD (fun (x : Nat × List Pc) => [.ref x.1]) (fun x h => h[x.1]? = some (.lst (x.2.map pcD)) ∧ x.2.length ≤ 1000) (fun x h => .ref h.length) (fun x h => h ++ [.lst ((endsP 0 x.2).map .int)])
theorem mono_ends : MonoS sp_ends := mono_spD
theorem len_ends : ∀ ds h Q E, sp_ends ds h Q E → ds.length = 1 := len_spD fun _ => rfl
theorem rd_ends : ∀ ds h Q E, ClS h.length h → ClDs h.length ds → sp_ends ds h Q E → t_ends (ends3 (GQ h.length Q)) (start3 4 ds) h := by
  rintro ds h Q E hcl _ ⟨⟨n, w⟩, rfl, ⟨hn, hl⟩, q⟩
  have hn' : h[n]? = some (.lst (w.map pcD)) := hn
  have hl' : w.length ≤ 1000 := hl
  try simp only [↓tV_q, ↓tK_q, ↓tN3_q, ↓tC3_q, ↓tNew_q, ↓cSeq_q, ↓cAsg_q, ↓gN_q, ↓cFor_q, ↓iSeq_q, ↓iSeqD_rq, ↓start3_q, thenE_nx, onO_some, onC_q, List.getElem?_cons_zero, List.set_cons_zero, List.set_cons_succ, List.map_cons, List.map_nil, List.cons_append, List.nil_append, List.length_cons, List.length_nil, List.replicate_succ, List.replicate_zero, Nat.reduceAdd, Nat.reduceSub, t_ends, get_up hn']
  refine forL (fun l ρ h' => ∃ o2 o3, ρ = [some (.ref n), some (.ref h.length), o2, o3] ∧ h' = h ++ [.lst ((endsP 0 l).map .int)]) ⟨_, _, rfl, rfl⟩ ?_ ?_ ?_
  · rintro l ρ h' ⟨o2, o3, rfl, rfl⟩
    exact get_up hn'
  · rintro ρ h' ⟨o2, o3, rfl, rfl⟩
    try simp only [↓tV_q, ↓cRet_q, thenE_nx, ends3_rt, onO_some, List.getElem?_cons_zero, List.getElem?_cons_succ]
    exact .inl q
  · rintro l p r ρ h' F e ⟨o2, o3, rfl, rfl⟩ hF
    have hll := congrArg List.length e
    simp at hll
    try simp only [↓tV_q, ↓tK_q, ↓tO_q, ↓tU_q, ↓tN3_q, ↓tC3_q, ↓cDrop_q, ↓tLM_q, ↓lmD_q, ↓appT_q, ↓addR_ii_q, ↓negR_i_q, ↓ixR_rq, loopE_nx, onO_some, onC_q, List.getElem?_cons_zero, List.getElem?_cons_succ, List.set_cons_zero, List.set_cons_succ, Int.reduceNeg, gTup_pc, b_ends_1, get_new, atT_lastI (ends_last 0 l)]
    refine ⟨by simp [ends_len]; omega, ?_⟩
    refine hF _ _ ⟨_, _, rfl, ?_⟩
    rw [ends_snoc, set_app0]
    simp
theorem ends_q {n : Nat} {w : List Pc} {h : Sto} {Q : DK} (hn : h[n]? = some (.lst (w.map pcD))) (hl : w.length ≤ 1000) (q : Q (.ref h.length) (h ++ [.lst ((endsP 0 w).map .int)])) : callS sp_ends [.ref n] h Q := ⟨(n, w), rfl, ⟨hn, hl⟩, q⟩
def r_weights_at_1 : C3 :=
  (cAsg (tO subR (tV 2) (tV 3)) (gN 2))
def b_weights_at_1 : C3 :=
  (cSeq (cIf (tT (tO ltR (tV 2) (tV 3))) (cRet (tV 4)) cNext)
    r_weights_at_1)
def t_weights_at : C3 :=
  (cSeq (cAsg (tV 1) (gN 2))
    (cSeq (cFor (iSeq (tV 0)) (gTup3 2 (gCons3 (gN 3) (gCons3 (gN 4) gNil3))) b_weights_at_1)
    (cRet (tTup3 tN3))))

def sp_weights_at : Sp3 := spD (fun (x : Nat × List Pc × Int) => [.ref x.1, .int x.2.2]) (fun x h => h[x.1]? = some (.lst (x.2.1.map pcD))) (fun x h => wtD (atP x.2.1 x.2.2)) (fun x h => h)
theorem mono_weights_at : MonoS sp_weights_at := mono_spD
theorem len_weights_at : ∀ ds h Q E, sp_weights_at ds h Q E → ds.length = 2 := len_spD fun _ => rfl
theorem rd_weights_at : ∀ ds h Q E, ClS h.length h → ClDs h.length ds → sp_weights_at ds h Q E → t_weights_at (ends3 (GQ h.length Q)) (start3 5 ds) h := by
  rintro ds h Q E hcl _ ⟨⟨n, w, i⟩, rfl, hn, q⟩
  have hn' : h[n]? = some (.lst (w.map pcD)) := hn
  have q' : Q (wtD (atP w i)) h := q
  try simp only [↓tV_q, ↓cSeq_q, ↓cAsg_q, ↓gN_q, ↓cFor_q, ↓iSeq_q, ↓iSeqD_rq, ↓start3_q, thenE_nx, onO_some, onC_q, List.getElem?_cons_zero, List.getElem?_cons_succ, List.set_cons_zero, List.set_cons_succ, List.map_cons, List.map_nil, List.cons_append, List.nil_append, List.length_cons, List.length_nil, List.replicate_succ, List.replicate_zero, Nat.reduceAdd, Nat.reduceSub, t_weights_at, hn']
  refine forL (fun l ρ h' => ∃ o3 o4, (∀ r, w = l ++ r → atP w i = atP r (i - lenP l)) ∧ ρ = [some (.ref n), some (.int i), some (.int (i - lenP l)), o3, o4] ∧ h' = h) ⟨_, _, fun r e => by rw [lenP_nil, Int.sub_zero, e]; rfl, by rw [lenP_nil, Int.sub_zero], rfl⟩ ?_ ?_ ?_
  · rintro l ρ h' ⟨o2, o3, _, rfl, rfl⟩
    exact hn'
  · rintro ρ h' ⟨o2, o3, hw, rfl, rfl⟩
    try simp only [↓tN3_q, ↓tTup3_q, ↓cRet_q, thenE_nx, ends3_rt]
    rw [hw [] (by simp)] at q'
    exact .inl q'
  · rintro l p r ρ h' F e ⟨o2, o3, hw, rfl, rfl⟩ hF
    have h1 := hw _ e
    simp only [atP] at h1
    try simp only [↓tV_q, ↓tO_q, ↓tT_q, ↓cSeq_q, ↓cIf_q, ↓ltR_ii_q, onO_some, onB_bl, List.getElem?_cons_zero, List.getElem?_cons_succ, List.set_cons_zero, List.set_cons_succ, gTup_pc, b_weights_at_1]
    refine ifC_of (fun hc => ?_) (fun hc => ?_)
    · try simp only [↓tV_q, ↓cRet_q, thenE_rt, loopE_rt, ends3_rt, onO_some, List.getElem?_cons_zero, List.getElem?_cons_succ]
      rw [if_pos hc] at h1
      rw [h1] at q'
      exact .inl q'
    · try simp only [↓tV_q, ↓tO_q, ↓cNext_q, ↓cAsg_q, ↓gN_q, ↓subR_ii_q, thenE_nx, loopE_nx, onO_some, List.getElem?_cons_zero, List.getElem?_cons_succ, List.set_cons_zero, List.set_cons_succ, r_weights_at_1]
      rw [if_neg hc] at h1
      have e1 : lenP (l ++ [p]) = lenP l + p.1 := by rw [lenP_app]; simp [lenP]
      refine hF _ _ ⟨_, _, fun r' e' => ?_, by rw [e1, Int.sub_sub], rfl⟩
      have : r' = r := by
        rw [e] at e'
        have : l ++ p :: r = l ++ p :: r' := by simpa using e'
        simpa using this.symm
      subst this
      rw [h1, e1, Int.sub_sub]
theorem weights_at_q {n : Nat} {w : List Pc} {i : Int} {h : Sto} {Q : DK} (hn : h[n]? = some (.lst (w.map pcD))) (q : Q (wtD (atP w i)) h) : callS sp_weights_at [.ref n, .int i] h Q := ⟨(n, w, i), rfl, hn, q⟩
end F3
set_option maxHeartbeats 400000
/-! WJ: parts and backward, by the program. -/
namespace F3
open PySem PySem.Spec PyProof.Rows L2
def r_part_1 : C3 :=
  (cAsg (tO addR (tV 4) (tV 5)) (gN 4))
def b_part_1 : C3 :=
  (cSeq (cAsg (tB3 maxR (tC3 (tV 1) (tC3 (tV 4) tN3))) (gN 7))
    (cSeq (cAsg (tB3 minR (tC3 (tV 2) (tC3 (tO addR (tV 4) (tV 5)) tN3))) (gN 8))
    (cSeq (cIf (tT (tO ltR (tV 7) (tV 8))) (cDrop (tLM appT (tV 3) (tC3 (tTup3 (tC3 (tO subR (tV 8) (tV 7)) (tC3 (tV 6) tN3))) tN3))) cNext)
    r_part_1)))
def t_part : C3 :=
  (cSeq (cAsg (tNew tN3) (gN 3))
    (cSeq (cAsg (tK (.int 0)) (gN 4))
    (cSeq (cFor (iSeq (tV 0)) (gTup3 2 (gCons3 (gN 5) (gCons3 (gN 6) gNil3))) b_part_1)
    (cRet (tV 3)))))

def sp_part : Sp3 := spD (fun (x : Nat × List Pc × Int × Int) => [.ref x.1, .int x.2.2.1, .int x.2.2.2]) (fun x h => h[x.1]? = some (.lst (x.2.1.map pcD)) ∧ x.2.1.length ≤ 1000) (fun x h => .ref h.length) (fun x h => h ++ [.lst ((partP 0 x.2.1 x.2.2.1 x.2.2.2).map pcD)])
theorem mono_part : MonoS sp_part := mono_spD
theorem len_part : ∀ ds h Q E, sp_part ds h Q E → ds.length = 3 := len_spD fun _ => rfl
theorem part_size : ∀ (a : Int) (w : List Pc) (b e : Int), (partP a w b e).length ≤ w.length
  | _, [], _, _ => Nat.le_refl _
  | a, p :: r, b, e => by
    have := part_size (a + p.1) r b e
    simp only [partP, List.length_append, List.length_cons]
    split <;> simp <;> omega
theorem lenP_snoc {l : List Pc} {p : Pc} : lenP (l ++ [p]) = lenP l + p.1 := by rw [lenP_app]; simp [lenP]
theorem rd_part : ∀ ds h Q E, ClS h.length h → ClDs h.length ds → sp_part ds h Q E → t_part (ends3 (GQ h.length Q)) (start3 9 ds) h := by
  rintro ds h Q E hcl _ ⟨⟨n, w, b, e⟩, rfl, ⟨hn, hl⟩, q⟩
  have hn' : h[n]? = some (.lst (w.map pcD)) := hn
  have hl' : w.length ≤ 1000 := hl
  try simp only [↓tV_q, ↓tK_q, ↓tN3_q, ↓tNew_q, ↓cSeq_q, ↓cAsg_q, ↓gN_q, ↓cFor_q, ↓iSeq_q, ↓iSeqD_rq, ↓start3_q, thenE_nx, onO_some, onC_q, List.getElem?_cons_zero, List.set_cons_zero, List.set_cons_succ, List.map_cons, List.map_nil, List.cons_append, List.nil_append, List.length_cons, List.length_nil, List.replicate_succ, List.replicate_zero, Nat.reduceAdd, Nat.reduceSub, t_part, get_up hn']
  refine forL (fun l ρ h' => ∃ o5 o6 o7 o8, ρ = [some (.ref n), some (.int b), some (.int e), some (.ref h.length), some (.int (lenP l)), o5, o6, o7, o8] ∧ h' = h ++ [.lst ((partP 0 l b e).map pcD)]) ⟨_, _, _, _, rfl, rfl⟩ ?_ ?_ ?_
  · rintro l ρ h' ⟨o5, o6, o7, o8, rfl, rfl⟩
    exact get_up hn'
  · rintro ρ h' ⟨o5, o6, o7, o8, rfl, rfl⟩
    try simp only [↓tV_q, ↓cRet_q, thenE_nx, ends3_rt, onO_some, List.getElem?_cons_zero, List.getElem?_cons_succ]
    exact .inl q
  · rintro l p r ρ h' F ee ⟨o5, o6, o7, o8, rfl, rfl⟩ hF
    have hll := congrArg List.length ee
    simp at hll
    have hz := part_size 0 l b e
    have ps := part_snoc (a := 0) (w := l) (p := p) (b := b) (e := e)
    rw [Int.zero_add] at ps
    have fin : ∀ o5 o6 o7 o8, F [some (.ref n), some (.int b), some (.int e), some (.ref h.length), some (.int (lenP l + p.1)), o5, o6, o7, o8] (h ++ [.lst ((partP 0 (l ++ [p]) b e).map pcD)]) := fun o5 o6 o7 o8 => hF _ _ ⟨o5, o6, o7, o8, by rw [lenP_snoc], rfl⟩
    rw [ps] at fin
    try simp only [↓tV_q, ↓tO_q, ↓tT_q, ↓tN3_q, ↓tC3_q, ↓cSeq_q, ↓cIf_q, ↓cAsg_q, ↓gN_q, ↓tB3_q, ↓addR_ii_q, ↓ltR_ii_q, ↓minR_ii_q, ↓maxR_ii_q, thenE_nx, onO_some, onB_bl, List.getElem?_cons_zero, List.getElem?_cons_succ, List.set_cons_zero, List.set_cons_succ, gTup_pc, b_part_1]
    refine ifC_of (fun hc => ?_) (fun hc => ?_)
    · have hc : mxI b (lenP l) < mnI e (lenP l + p.1) := hc
      rw [if_pos hc] at fin
      try simp only [↓tV_q, ↓tO_q, ↓tN3_q, ↓tC3_q, ↓tTup3_q, ↓cDrop_q, ↓tLM_q, ↓lmD_q, ↓appT_q, ↓subR_ii_q, thenE_nx, onO_some, onC_q, List.getElem?_cons_zero, List.getElem?_cons_succ, get_new]
      refine ⟨by simp; omega, ?_⟩
      try simp only [↓tV_q, ↓tO_q, ↓cAsg_q, ↓gN_q, ↓addR_ii_q, loopE_nx, onO_some, List.getElem?_cons_zero, List.getElem?_cons_succ, List.set_cons_zero, List.set_cons_succ, set_app0, r_part_1]
      rw [List.map_append] at fin
      exact fin _ _ _ _
    · have hc : ¬ mxI b (lenP l) < mnI e (lenP l + p.1) := hc
      rw [if_neg hc, List.append_nil] at fin
      try simp only [↓tV_q, ↓tO_q, ↓cNext_q, ↓cAsg_q, ↓gN_q, ↓addR_ii_q, thenE_nx, loopE_nx, onO_some, List.getElem?_cons_zero, List.getElem?_cons_succ, List.set_cons_zero, List.set_cons_succ, r_part_1]
      exact fin _ _ _ _
theorem part_q {n : Nat} {w : List Pc} {b e : Int} {h : Sto} {Q : DK} (hn : h[n]? = some (.lst (w.map pcD))) (hl : w.length ≤ 1000) (q : Q (.ref h.length) (h ++ [.lst ((partP 0 w b e).map pcD)])) : callS sp_part [.ref n, .int b, .int e] h Q := ⟨(n, w, b, e), rfl, ⟨hn, hl⟩, q⟩
def t_backward : C3 :=
  (cRet (tNew (xRev (tV 0))))

def sp_backward : Sp3 := spD (fun (x : Nat × List Pc) => [.ref x.1]) (fun x h => h[x.1]? = some (.lst (x.2.map pcD))) (fun x h => .ref h.length) (fun x h => h ++ [.lst ((x.2.reverse).map pcD)])
theorem mono_backward : MonoS sp_backward := mono_spD
theorem len_backward : ∀ ds h Q E, sp_backward ds h Q E → ds.length = 1 := len_spD fun _ => rfl
theorem rd_backward : ∀ ds h Q E, ClS h.length h → ClDs h.length ds → sp_backward ds h Q E → t_backward (ends3 (GQ h.length Q)) (start3 1 ds) h := by
  rintro ds h Q E hcl _ ⟨⟨n, w⟩, rfl, hn, q⟩
  have hn' : h[n]? = some (.lst (w.map pcD)) := hn
  try simp only [↓tV_q, ↓tNew_q, ↓cRet_q, ↓start3_q, ↓xRev_q, ↓onL'_r, ends3_rt, onO_some, onC_q, List.getElem?_cons_zero, List.map_cons, List.map_nil, List.cons_append, List.nil_append, List.length_cons, List.length_nil, List.replicate_zero, Nat.reduceAdd, Nat.reduceSub, t_backward, hn']
  rw [← List.map_reverse]
  exact .inl q
theorem backward_q {n : Nat} {w : List Pc} {h : Sto} {Q : DK} (hn : h[n]? = some (.lst (w.map pcD))) (q : Q (.ref h.length) (h ++ [.lst ((w.reverse).map pcD)])) : callS sp_backward [.ref n] h Q := ⟨(n, w), rfl, hn, q⟩
end F3
set_option maxHeartbeats 400000
/-! WQ: sorts of weighings, plain. -/
namespace F3
open PySem PySem.Spec PyProof.Rows L2
theorem str_uniq : ∀ {xs ys : List (List Int)}, xs.Pairwise (· < ·) → ys.Pairwise (· < ·) → (∀ a, a ∈ xs ↔ a ∈ ys) → xs = ys
  | [], [], _, _, _ => rfl
  | [], y :: ys, _, _, h => absurd ((h y).mpr List.mem_cons_self) (by simp)
  | x :: xs, [], _, _, h => absurd ((h x).mp List.mem_cons_self) (by simp)
  | x :: xs, y :: ys, h1, h2, h => by
    rw [List.pairwise_cons] at h1 h2
    have e : x = y := by
      rcases List.mem_cons.mp ((h x).mp List.mem_cons_self) with e | e
      · exact e
      · rcases List.mem_cons.mp ((h y).mpr List.mem_cons_self) with e2 | e2
        · exact e2.symm
        · exact absurd (h1.1 _ e2) (List.lt_asymm (h2.1 _ e))
    subst e
    congr 1
    refine str_uniq h1.2 h2.2 fun a => ⟨fun ha => ?_, fun ha => ?_⟩
    · rcases List.mem_cons.mp ((h a).mp (List.mem_cons_of_mem _ ha)) with e | e
      · subst e; exact absurd (h1.1 _ ha) (List.lt_irrefl _)
      · exact e
    · rcases List.mem_cons.mp ((h a).mpr (List.mem_cons_of_mem _ ha)) with e | e
      · subst e; exact absurd (h2.1 _ ha) (List.lt_irrefl _)
      · exact e
/-- how many places have the weights k -/
def cntP : List Pc → List Int → Int
  | [], _ => 0
  | p :: w, k => (if p.2 = k then p.1 else 0) + cntP w k
theorem cntP_app (k : List Int) : ∀ (v w : List Pc), cntP (v ++ w) k = cntP v k + cntP w k
  | [], w => by simp [cntP]
  | p :: v, w => by rw [List.cons_append, cntP, cntP, cntP_app k v w]; omega
theorem cntP_rev (k : List Int) : ∀ (w : List Pc), cntP w.reverse k = cntP w k
  | [] => rfl
  | p :: w => by rw [List.reverse_cons, cntP_app, cntP_rev k w]; simp [cntP]; omega
abbrev Ks := List (List Int × Int)
def kvI (p : List Int × Int) : List Key × D := (p.1.map Sum.inl, .int p.2)
def valI (ks : Ks) (k : List Int) : Option Int := (ks.find? fun p => decide (p.1 = k)).map (·.2)
def putI (ks : Ks) (k : List Int) (v : Int) : Ks := if (ks.any fun p => decide (p.1 = k)) = true then ks.map (fun p => if p.1 = k then (p.1, v) else p) else ks ++ [(k, v)]
theorem inl_inj : ∀ {a b : List Int}, (a.map Sum.inl : List Key) = b.map Sum.inl ↔ a = b
  | a, b => ⟨fun h => (List.map_inj_right (fun x y e => by cases e; rfl)).mp h, fun h => by rw [h]⟩
theorem valD_kvI (k : List Int) : ∀ ks : Ks, valD (ks.map kvI) (k.map Sum.inl) = (valI ks k).map D.int
  | [] => rfl
  | p :: ks => by
    have ih := valD_kvI k ks
    unfold valD valI at ih ⊢
    rw [List.map_cons, List.find?_cons, List.find?_cons]
    by_cases h : p.1 = k
    · simp [kvI, h]
    · have h' : ¬ ((p.1.map Sum.inl : List Key) = k.map Sum.inl) := fun z => h (inl_inj.mp z)
      simp only [kvI, h, h', decide_false] at ih ⊢
      exact ih
theorem putD_kvI (k : List Int) (v : Int) (ks : Ks) : putD (ks.map kvI) (k.map Sum.inl) (.int v) = (putI ks k v).map kvI := by
  have e : ((ks.map kvI).any fun kv => decide (kv.1 = (k.map Sum.inl : List Key))) = (ks.any fun p => decide (p.1 = k)) := by
    rw [List.any_map]
    congr 1
    funext p
    simp only [Function.comp, kvI]
    exact decide_eq_decide.mpr inl_inj
  unfold putD putI
  rw [e]
  split
  · rw [List.map_map, List.map_map]
    refine List.map_congr_left fun p _ => ?_
    show (if (kvI p).1 = k.map Sum.inl then ((kvI p).1, D.int v) else kvI p) = kvI (if p.1 = k then (p.1, v) else p)
    by_cases h : p.1 = k
    · rw [if_pos h, if_pos (show (kvI p).1 = k.map Sum.inl from inl_inj.mpr h)]; rfl
    · rw [if_neg h, if_neg (show ¬ (kvI p).1 = k.map Sum.inl from fun z => h (inl_inj.mp z))]
  · rw [List.map_append]; rfl
/-- the dict behind the pieces l -/
structure KS (l : List Pc) (ks : Ks) : Prop where
  nd : (ks.map (·.1)).Nodup
  mem : ∀ k, k ∈ ks.map (·.1) ↔ k ∈ l.map (·.2)
  cnt : ∀ p ∈ ks, p.2 = cntP l p.1
theorem KS.nil : KS [] [] := ⟨List.nodup_nil, fun _ => by simp, fun _ h => nomatch h⟩
theorem cntP_none {k : List Int} : ∀ {l : List Pc}, k ∉ l.map (·.2) → cntP l k = 0
  | [], _ => rfl
  | p :: l, h => by
    rw [List.map_cons, List.mem_cons, not_or] at h
    rw [cntP, if_neg (fun z => h.1 z.symm), cntP_none h.2]; rfl
theorem KS.val {l : List Pc} {ks : Ks} (h : KS l ks) (k : List Int) : (valI ks k).getD 0 = cntP l k := by
  unfold valI
  cases e : ks.find? fun p => decide (p.1 = k) with
  | none =>
    rw [cntP_none]
    · rfl
    · rw [← h.mem]
      intro z
      obtain ⟨p, hp, rfl⟩ := List.mem_map.mp z
      have := List.find?_eq_none.mp e p hp
      simp at this
  | some p =>
    have h1 := List.mem_of_find?_eq_some e
    have h2 := List.find?_some e
    simp only [decide_eq_true_eq] at h2
    rw [← h2]
    exact h.cnt p h1
theorem KS.put {l : List Pc} {ks : Ks} (h : KS l ks) (p : Pc) : KS (l ++ [p]) (putI ks p.2 ((valI ks p.2).getD 0 + p.1)) := by
  rw [h.val]
  have c1 : ∀ k, cntP (l ++ [p]) k = cntP l k + if p.2 = k then p.1 else 0 := fun k => by rw [cntP_app]; simp [cntP]
  unfold putI
  split
  next e =>
    have em : (ks.map fun q => if q.1 = p.2 then (q.1, cntP l p.2 + p.1) else q).map (·.1) = ks.map (·.1) := by
      rw [List.map_map]
      refine List.map_congr_left fun q _ => ?_
      simp only [Function.comp]
      split <;> rfl
    have hm : p.2 ∈ l.map (·.2) := by
      rw [← h.mem]
      obtain ⟨q, hq, e2⟩ := List.any_eq_true.mp e
      rw [← of_decide_eq_true e2]
      exact List.mem_map_of_mem hq
    refine ⟨by rw [em]; exact h.nd, fun k => ?_, fun q hq => ?_⟩
    · rw [em, h.mem, List.map_append, List.mem_append]
      constructor
      · exact .inl
      · rintro (z | z)
        · exact z
        · rw [List.map_cons, List.map_nil, List.mem_singleton] at z
          rw [z]; exact hm
    · obtain ⟨r, hr, rfl⟩ := List.mem_map.mp hq
      split
      next e3 => rw [c1]; simp only [e3]; simp
      next e3 => rw [c1, if_neg (fun z => e3 z.symm), h.cnt r hr]; omega
  next e =>
    have hn : p.2 ∉ ks.map (·.1) := fun z => e (by
      obtain ⟨q, hq, e2⟩ := List.mem_map.mp z
      exact List.any_eq_true.mpr ⟨q, hq, decide_eq_true e2⟩)
    refine ⟨?_, fun k => ?_, fun q hq => ?_⟩
    · rw [List.map_append, List.map_cons, List.map_nil]
      refine List.nodup_append.mpr ⟨h.nd, by simp, fun a ha b hb => ?_⟩
      rw [List.mem_singleton] at hb
      rw [hb]
      intro z
      rw [z] at ha
      exact hn ha
    · rw [List.map_append, List.map_append, List.mem_append, List.mem_append, h.mem]
      simp
    · rcases List.mem_append.mp hq with z | z
      · rw [c1, h.cnt q z, if_neg]
        · omega
        · exact fun y => hn (y ▸ List.mem_map_of_mem z)
      · rw [List.mem_singleton] at z
        subst z
        rw [c1, if_pos rfl]
end F3
set_option maxHeartbeats 400000
/-! WR: the sorts in order, plain. -/
namespace F3
open PySem PySem.Spec PyProof.Rows L2
def insK (k : List Int) : List (List Int) → List (List Int)
  | [] => [k]
  | a :: r => if k < a then k :: a :: r else if k = a then a :: r else a :: insK k r
theorem insK_mem (k x : List Int) : ∀ l : List (List Int), x ∈ insK k l ↔ x = k ∨ x ∈ l
  | [] => by simp [insK]
  | a :: r => by
    unfold insK
    split
    · simp
    · split
      next h => subst h; simp
      next => rw [List.mem_cons, List.mem_cons, insK_mem k x r]; constructor <;> (intro h; rcases h with h | h | h <;> simp [h])
theorem lt_of_not {k a : List Int} (h1 : ¬ k < a) (h2 : ¬ k = a) : a < k := by
  rcases List.le_iff_lt_or_eq.mp (List.not_lt.mp h1) with h | h
  · exact h
  · exact absurd h.symm h2
theorem insK_pw (k : List Int) : ∀ {l : List (List Int)}, l.Pairwise (· < ·) → (insK k l).Pairwise (· < ·)
  | [], _ => by simp [insK]
  | a :: r, h => by
    have h0 := List.pairwise_cons.mp h
    unfold insK
    split
    next c => exact List.pairwise_cons.mpr ⟨fun x hx => (List.mem_cons.mp hx).elim (fun e => by rw [e]; exact c) fun hx => List.lt_trans c (h0.1 x hx), h⟩
    next c =>
      split
      next => exact h
      next c2 => exact List.pairwise_cons.mpr ⟨fun x hx => ((insK_mem k x r).mp hx).elim (fun e => by rw [e]; exact lt_of_not c c2) fun hx => h0.1 x hx, insK_pw k h0.2⟩
def kys : List Pc → List (List Int)
  | [] => []
  | p :: w => insK p.2 (kys w)
theorem kys_mem (k : List Int) : ∀ w : List Pc, k ∈ kys w ↔ k ∈ w.map (·.2)
  | [] => by simp [kys]
  | p :: w => by rw [kys, insK_mem, kys_mem k w, List.map_cons, List.mem_cons]
theorem kys_pw : ∀ w : List Pc, (kys w).Pairwise (· < ·)
  | [] => List.Pairwise.nil
  | p :: w => insK_pw _ (kys_pw w)
theorem kys_uniq {w : List Pc} {M : List (List Int)} (h1 : M.Pairwise (· < ·)) (h2 : ∀ k, k ∈ M ↔ k ∈ w.map (·.2)) : M = kys w :=
  str_uniq h1 (kys_pw w) fun k => (h2 k).trans (kys_mem k w).symm
theorem kys_rev (w : List Pc) : kys w.reverse = kys w := kys_uniq (kys_pw _) fun k => by rw [kys_mem]; simp
theorem kys_len : ∀ w : List Pc, (kys w).length ≤ w.length
  | [] => Nat.le_refl _
  | p :: w => by
    have h := kys_len w
    have : ∀ l : List (List Int), (insK p.2 l).length ≤ l.length + 1 := fun l => by
      induction l with
      | nil => simp [insK]
      | cons a r ih => unfold insK; split <;> (try split) <;> simp <;> omega
    rw [kys, List.length_cons]
    exact Nat.le_trans (this _) (by omega)
def sortsP (w : List Pc) : Ks := (kys w).map fun k => (k, cntP w k)
theorem sortsP_rev (w : List Pc) : sortsP w.reverse = sortsP w := by
  unfold sortsP
  rw [kys_rev]
  exact List.map_congr_left fun k _ => by rw [cntP_rev]
def stD (p : List Int × Int) : D := .tup [.tup (p.1.map .int), .int p.2]
def stP (p : List Int × Int) : PyData := .tuple [.tuple (p.1.map .int), .int p.2]
def stL (p q : List Int × Int) : Bool := decide (p.1 < q.1 ∨ (p.1 = q.1 ∧ p.2 ≤ q.2))
theorem dataLe_st : PySem.W.dataLe false stP = stL := by
  funext p q
  have e : PySem.W.dataLe false stP p q = (!PySem.W.dataLt (stP q) (stP p)) := rfl
  rw [e]
  unfold stP stL
  rw [PySem.W.dataLt_pair (by simpa [PySem.W.alike] using PySem.W.alike_ints q.1 p.1) (by simp [PySem.W.alike])]
  have e1 : PyData.eqv (.tuple (q.1.map .int)) (.tuple (p.1.map .int)) = decide (q.1 = p.1) := by
    exact eqv_tupI
  have e2 : PySem.W.dataLt (.tuple (q.1.map .int)) (.tuple (p.1.map .int)) = decide (q.1 < p.1) := by
    rw [PySem.W.dataLt_tuple]; exact PySem.W.dataLt_ints _ _
  rw [e1, e2, PySem.W.dataLt_int]
  simp only [PyData.eqv, beq_iff_eq, decide_eq_true_eq]
  by_cases h : q.1 = p.1
  · rw [if_pos h]
    have h' : ¬ p.1 < q.1 := by rw [h]; exact List.lt_irrefl _
    by_cases h2 : q.2 = p.2
    · simp [h, h2]
    · by_cases h3 : q.2 < p.2
      · simp [h, h2, h3, show ¬ p.2 ≤ q.2 by omega]
      · simp [h, h2, h3, show p.2 ≤ q.2 by omega]
  · rw [if_neg h]
    by_cases h2 : q.1 < p.1
    · have h3 : ¬ p.1 = q.1 := fun z => h z.symm
      simp [h2, List.lt_asymm h2, h3]
    · simp [h2, lt_of_not h2 h]
theorem stL_trans (a b c : List Int × Int) (h1 : stL a b = true) (h2 : stL b c = true) : stL a c = true := by
  unfold stL at *
  simp only [decide_eq_true_eq] at *
  rcases h1 with h1 | ⟨h1, h3⟩
  · rcases h2 with h2 | ⟨h2, h4⟩
    · exact .inl (List.lt_trans h1 h2)
    · exact .inl (h2 ▸ h1)
  · rcases h2 with h2 | ⟨h2, h4⟩
    · exact .inl (h1 ▸ h2)
    · exact .inr ⟨h1.trans h2, by omega⟩
theorem stL_total (a b : List Int × Int) : (stL a b || stL b a) = true := by
  unfold stL
  simp only [Bool.or_eq_true, decide_eq_true_eq]
  by_cases h : a.1 < b.1
  · exact .inl (.inl h)
  · by_cases h2 : a.1 = b.1
    · by_cases h3 : a.2 ≤ b.2
      · exact .inl (.inr ⟨h2, h3⟩)
      · exact .inr (.inr ⟨h2.symm, by omega⟩)
    · exact .inr (.inl (lt_of_not h h2))
theorem KS.sorted {w : List Pc} {ks : Ks} (h : KS w ks) : ks.mergeSort (PySem.W.dataLe false stP) = sortsP w := by
  rw [dataLe_st]
  have pm := List.mergeSort_perm ks stL
  have pw := List.pairwise_mergeSort stL_trans stL_total ks
  generalize ks.mergeSort stL = S at *
  have nd : (S.map (·.1)).Nodup := (pm.map (·.1)).nodup_iff.mpr h.nd
  have e1 : S.map (·.1) = kys w := by
    refine kys_uniq ?_ fun k => by rw [← h.mem]; exact (pm.map (·.1)).mem_iff
    rw [List.pairwise_map]
    refine (pw.and (List.pairwise_map.mp nd)).imp fun {a b} ⟨h1, h2⟩ => ?_
    unfold stL at h1
    simp only [decide_eq_true_eq] at h1
    rcases h1 with h1 | h1
    · exact h1
    · exact absurd h1.1 h2
  unfold sortsP
  rw [← e1, List.map_map]
  refine (List.map_id S).symm.trans (List.map_congr_left fun p hp => ?_)
  have := h.cnt p (pm.mem_iff.mp hp)
  simp only [Function.comp, id]
  rw [← this]
end F3
set_option maxHeartbeats 400000
/-! WS: sorts. -/
namespace F3
open PySem PySem.Spec PyProof.Rows L2
def b_sorts_1 : C3 :=
  (cDPutT (tV 1) (tV 3) (tO addR (tDG2 (tV 1) (tV 3) (tK (.int 0))) (tV 2)))
def e_sorts_1 : E3 :=
  (tTup3 (tC3 (tV 3) (tC3 (tO dgA (tV 1) (tV 3)) tN3)))
def t_sorts : C3 :=
  (cSeq (cAsg tDNewT3 (gN 1))
    (cSeq (cFor (iSeq (tV 0)) (gTup3 2 (gCons3 (gN 2) (gCons3 (gN 3) gNil3))) b_sorts_1)
    (cRet (tNew (tL3 srtG (lkX 1 (tLc3 (iKeys3 (tV 1)) (gN 3) bYes e_sorts_1 [3])))))))

def sp_sorts : Sp3 := spD (fun (x : Nat × List Pc) => [.ref x.1]) (fun x h => h[x.1]? = some (.lst (x.2.map pcD)) ∧ x.2.length ≤ 1000 ∧ ∀ p ∈ x.2, p.2 ≠ []) (fun x h => .ref h.length) (fun x h => h ++ [.lst ((sortsP x.2).map stD)])
theorem mono_sorts : MonoS sp_sorts := mono_spD
theorem len_sorts : ∀ ds h Q E, sp_sorts ds h Q E → ds.length = 1 := len_spD fun _ => rfl
theorem sorts_q {n : Nat} {w : List Pc} {h : Sto} {Q : DK} (hn : h[n]? = some (.lst (w.map pcD))) (hl : w.length ≤ 1000) (hp : ∀ p ∈ w, p.2 ≠ []) (q : Q (.ref h.length) (h ++ [.lst ((sortsP w).map stD)])) : callS sp_sorts [.ref n] h Q := ⟨(n, w), rfl, ⟨hn, hl, hp⟩, q⟩
theorem cl_st {n : Nat} {ks : Ks} : ClDs n (ks.map stD) := ClDs.all fun x hx => by
  obtain ⟨p, _, rfl⟩ := List.mem_map.mp hx
  simp only [stD, ClD, ClDs, and_true]
  exact cl_ints p.1
theorem getD_int {o : Option Int} : (o.map D.int).getD (.int 0) = .int (o.getD 0) := by cases o <;> rfl
theorem kD_int (k : List Int) : (k.map Sum.inl : List Key).map kD = k.map D.int := by rw [List.map_map]; rfl
theorem set_end {h : Sto} {x y : Cell} : (h ++ [x]).set h.length y = h ++ [y] := set_app0
theorem putI_len (ks : Ks) (k : List Int) (v : Int) : (putI ks k v).length ≤ ks.length + 1 := by
  unfold putI
  split <;> simp
theorem KS.find {w : List Pc} {ks : Ks} (h : KS w ks) {p : List Int × Int} (hp : p ∈ ks) : valI ks p.1 = some p.2 := by
  unfold valI
  cases e : ks.find? fun q => decide (q.1 = p.1) with
  | none =>
    have := List.find?_eq_none.mp e p hp
    simp at this
  | some q =>
    have h1 := List.mem_of_find?_eq_some e
    have h2 := List.find?_some e
    simp only [decide_eq_true_eq] at h2
    rw [Option.map_some, h.cnt q h1, h2, ← h.cnt p hp]
theorem toP_stk {h : Sto} {k : Nat} (p : List Int × Int) : toP h (k + 3) (stD p) = some (stP p) := by
  refine toP_tup (k := k + 2) ?_
  have e : toP h (k + 2) (.tup (p.1.map .int)) = some (.tuple (p.1.map .int)) := toP_wt p.1
  rw [List.mapM_cons, List.mapM_cons, List.mapM_nil, e]
  rfl
theorem toP_st {h : Sto} (p : List Int × Int) : toP h 8 (stD p) = some (stP p) := toP_stk (k := 5) p
theorem st_alike (ks : Ks) : PySem.W.AllAlike (ks.map stP) := PySem.W.AllAlike.of fun p q => by
  have := PySem.W.alike_ints p.1 q.1
  simp [stP, PySem.W.alike, PySem.W.alikeAll, this]
theorem st_sortable (ks : Ks) : PySem.W.Sortable (ks.map stP) := PySem.W.Sortable.tuples fun p => ⟨_, _, rfl⟩
theorem rd_sorts : ∀ ds h Q E, ClS h.length h → ClDs h.length ds → sp_sorts ds h Q E → t_sorts (ends3 (GQ h.length Q)) (start3 4 ds) h := by
  rintro ds h Q E hcl _ ⟨⟨n, w⟩, rfl, ⟨hn, hl, hp⟩, q⟩
  have hn' : h[n]? = some (.lst (w.map pcD)) := hn
  have hl' : w.length ≤ 1000 := hl
  have hp' : ∀ p ∈ w, p.2 ≠ [] := hp
  have q' : Q (.ref h.length) (h ++ [.lst ((sortsP w).map stD)]) := q
  clear q hn hl hp
  try simp only [↓tV_q, ↓cSeq_q, ↓cAsg_q, ↓gN_q, ↓cFor_q, ↓iSeq_q, ↓iSeqD_rq, ↓start3_q, ↓tDNewT3_q, thenE_nx, onO_some, onC_q, List.getElem?_cons_zero, List.set_cons_zero, List.set_cons_succ, List.map_cons, List.map_nil, List.cons_append, List.nil_append, List.length_cons, List.length_nil, List.replicate_succ, List.replicate_zero, Nat.reduceAdd, Nat.reduceSub, t_sorts, get_up hn']
  refine forL (fun l ρ h' => ∃ ks o2 o3, KS l ks ∧ ks.length ≤ l.length ∧ ρ = [some (.ref n), some (.ref h.length), o2, o3] ∧ h' = h ++ [.dT (ks.map kvI)]) ⟨[], _, _, .nil, Nat.le_refl _, rfl, rfl⟩ ?_ ?_ ?_
  · rintro l ρ h' ⟨ks, o2, o3, _, _, _, rfl⟩
    exact get_up hn'
  · rintro ρ h' ⟨ks, o2, o3, hk, kl, rfl, rfl⟩
    try simp only [↓tNew_q, ↓cRet_q, ↓tL3_q, ↓lkX_q, thenE_nx, ends3_rt, onO_some, List.getElem?_cons_zero, List.getElem?_cons_succ]
    rw [lkD_T get_new]
    intro o ws
    rw [set_end]
    try simp only [↓tV_q, ↓tLc3_q, ↓iKeys3_q, onO_some, wipe3_nil, wipe3_cons, List.getElem?_cons_zero, List.getElem?_cons_succ, List.set_cons_zero, List.set_cons_succ]
    rw [ikD_T get_new]
    skip
    refine ⟨by simp; omega, ?_⟩
    rw [List.map_map]
    have ef : ((fun kv : List Key × D => D.tup (kv.1.map kD)) ∘ kvI) = fun p : List Int × Int => wtD p.1 := by
      funext p
      show D.tup ((p.1.map Sum.inl : List Key).map kD) = wtD p.1
      rw [kD_int]; rfl
    rw [ef]
    refine lcMap (r := stD) get_new ⟨get_new, ?_⟩ ?_
    · rw [set_end]
      refine ⟨_, ks, stD, stP, rfl, fun p _ => toP_st p, st_alike ks, st_sortable ks, ?_⟩
      rw [hk.sorted]
      have g1 := gq_one (k := 1) (n := h.length) (g := [.dT (ks.map kvI), .lst ((sortsP w).map stD)]) rfl rfl cl_st hcl q'
      show GQ h.length Q (D.ref (h ++ [Cell.dT (ks.map kvI)]).length) (h ++ [Cell.dT (ks.map kvI)] ++ [Cell.lst ((sortsP w).map stD)])
      rw [List.length_append, List.append_assoc]
      exact g1
    · intro p hm Q2 q2
      have dv : dvC (some (.zT o ws (ks.map kvI))) (wtD p.1) = some (some (.int p.2)) := by
        rw [show wtD p.1 = .tup (p.1.map .int) from rfl, dvC_zT, valD_kvI, hk.find hm]; rfl
      try simp only [↓tV_q, ↓tO_q, ↓tN3_q, ↓tC3_q, ↓tTup3_q, ↓gN_q, ↓dgA_q, onO_some, List.getElem?_cons_zero, List.getElem?_cons_succ, List.set_cons_zero, List.set_cons_succ, e_sorts_1, get_new, dv]
      exact q2
  · rintro l p r ρ h' F e ⟨ks, o2, o3, hk, kl, rfl, rfl⟩ hF
    try simp only [↓tV_q, ↓tK_q, ↓tO_q, ↓gTup_pc, ↓tDG2_q, ↓dg2_q, ↓cDPutT_q, onO_some, List.getElem?_cons_zero, List.getElem?_cons_succ, List.set_cons_zero, List.set_cons_succ, b_sorts_1, get_new]
    refine ⟨rfl, ?_⟩
    have dv : dvC (some (.dT (ks.map kvI))) (wtD p.2) = some ((valI ks p.2).map D.int) := by
      rw [show wtD p.2 = .tup (p.2.map .int) from rfl, dvC_T, valD_kvI]
    have kt : keyT (wtD p.2) = some (p.2.map Sum.inl) := keyT_ints
    try simp only [↓tV_q, ↓addR_ii_q, ↓onG_q, ↓onDT_q, ↓onKT_q, ↓dpT_q, loopE_nx, onO_some, List.getElem?_cons_zero, List.getElem?_cons_succ, dv, getD_int, get_new, kt]
    have e1 := congrArg List.length e
    rw [List.length_append, List.length_cons] at e1
    refine ⟨by simp; omega, hF _ _ ⟨_, _, _, hk.put p, ?_, rfl, by rw [set_end, putD_kvI]⟩⟩
    have := putI_len ks p.2 ((valI ks p.2).getD 0 + p.1)
    rw [List.length_append, List.length_singleton]; omega
end F3
set_option maxHeartbeats 1000000
/-! HT0: sorted(d.items()), keys tuples of ints, values ints. -/
namespace F3
open PySem PySem.Spec PyProof.Rows L2 L2.DX
theorem Step.grow {m : List Addr} {H H' : Hp} (k : ∀ b o, H b = some o → H' b = some o) : Step m H m H' := ⟨⟨[], by simp⟩, fun a o _ e => k a o e, fun a h1 h2 => absurd h1 h2⟩
theorem Rep.grow {K : PySem.W.Frag} {m : List Addr} {h : Sto} {H H' : Hp} (R : Rep K m h H) (k : ∀ b o, H b = some o → H' b = some o) : Rep K m h H' :=
  ⟨R.len, R.nd, fun n a c h1 h2 => (R.at_ n a c h1 h2).step R (Step.grow k) (by
    obtain ⟨o, e, _⟩ := R.got (List.mem_of_getElem? h1)
    rw [e, k a o e])⟩
/-- an entry, as a dict with tuple keys keeps it -/
def entI (p : List Int × Int) : List Key × V := (p.1.map Sum.inl, .int p.2)
section
variable {X : Cx}
def rSortII : List V → Hp → VK → Prop := fun vs H Q => ∃ (p a : Addr) (ks : List (List Int × Int)), vs = [.ref p] ∧ H p = some (itemsO p a) ∧ H a = some (.dT (ks.map entI)) ∧ ks.length ≤ 16777216 ∧
  ∀ (H' : Hp) (l : Addr) (ps : List (Addr × List Int × Int)), (∀ b o, H b = some o → H' b = some o) → ps.map (·.2) = ks.mergeSort (PySem.W.dataLe false stP) → H l = none → H' l = some (.lst (ps.map fun z => V.ref z.1)) →
    (∀ z ∈ ps, ∃ q, H' z.1 = some (.tup [.ref q, .int z.2.2]) ∧ H' q = some (.tup (z.2.1.map V.int))) → Q (.ref l) H'
theorem st_alike' (ks : List (List Int × Int)) : PySem.W.AllAlike (ks.map stP) := PySem.W.AllAlike.of fun p q => by
  have := PySem.W.alike_ints p.1 q.1
  simp [stP, PySem.W.alike, PySem.W.alikeAll, this]
theorem st_sortable' (ks : List (List Int × Int)) : PySem.W.Sortable (ks.map stP) := PySem.W.Sortable.tuples fun p => ⟨_, _, rfl⟩
theorem kV_ints : ∀ ns : List Int, (ns.map (Sum.inl : Int → Key)).map kV = ns.map V.int := fun ns => by rw [List.map_map]; rfl
theorem each_fst : ∀ L : List (Addr × List Int × Int), PySem.W.EachIs (fun v (q : Addr × List Int × Int) => v = Value.ref q.1) (L.map fun q => Value.ref q.1) L
  | [] => .nil
  | q :: L => .cons rfl (each_fst L)
theorem fst_each : ∀ {vs : List Value} {L : List (Addr × List Int × Int)}, PySem.W.EachIs (fun v (q : Addr × List Int × Int) => v = Value.ref q.1) vs L → vs = L.map fun q => Value.ref q.1
  | _, _, .nil => rfl
  | _, _, .cons a b => by rw [a, fst_each b]; rfl
theorem vals_fst : ∀ L : List (Addr × List Int × Int), Vals (L.map fun q => V.ref q.1) (L.map fun q => Value.ref q.1)
  | [] => .nil
  | q :: L => .cons rfl (vals_fst L)
theorem cr_sortedII (hc : X.calm = true) (hu : X.A.units + 64 < cLine) : CallR X (.builtin "sorted") rSortII := by
  intro pins s σ H xs us Q I r h
  obtain ⟨p, a, ks, rfl, hp, ha, h64, q⟩ := h
  obtain rfl := Vals.ref1 r
  have view : s.heap.IsItemsView p a := (show ObjOk X.prog X.w H s.heap p (itemsO p a) from I.hok p _ hp).1
  obtain ⟨z, hd, xs', rel, o, es, ep, ho, hx, hdat, hes, his, hn⟩ := dt_of I.hok ha
  have l1 : (ks.map entI).length = xs'.length := Paired.length rel
  rw [List.length_map] at l1
  have l2 : es.size = xs'.length := size_of_entries hes
  have hh : X.A.handled = none := I.ok.hd hc
  refine DT.sortedI (es := es) (ep := ep) hh view ⟨o, ho, hx, hdat⟩ (by rw [sizeLine_eq]; omega) fun h' tk as hk hlt hl hG => ?_
  have lak : as.length = ks.length := by omega
  have nd : as.Nodup := List.Pairwise.imp (fun h => Nat.ne_of_lt h) hG.rise
  -- the pairs that were made
  have pr : ∀ (j : Nat) (b : Addr), as[j]? = some b → ∃ (e : List Int × Int) (kq : Addr) (t : Tok), ks[j]? = some e ∧ H kq = some (.tup (e.1.map V.int)) ∧ h'.get? b = some { cls := .type "tuple", data := .seq #[Value.ref kq, Value.int e.2 t] } := by
    intro j b hj
    obtain ⟨en, he, hg⟩ := hG.pairs j b hj
    rw [entry_at hes j] at he
    cases hxj : xs'[j]? with
    | none =>
      rw [hxj] at he
      exact nomatch (show (none : Option DictEntry) = some en from he)
    | some x =>
      rw [hxj] at he
      have een : entryOfKey (tupleKind (mixKind X.prog X.w)) x = en := Option.some.inj he
      obtain ⟨e0, he0, r1, r2, r3⟩ := pget rel hxj
      rw [List.getElem?_map] at he0
      cases hkj : ks[j]? with
      | none =>
        rw [hkj] at he0
        exact nomatch (show (none : Option (List L2.Key × V)) = some e0 from he0)
      | some e =>
        rw [hkj] at he0
        have ee : entI e = e0 := Option.some.inj he0
        rw [← ee] at r2 r3
        obtain ⟨t, r3'⟩ : ∃ t, x.2.2 = Value.int e.2 t := r3
        refine ⟨e, x.2.1, t, rfl, ?_, ?_⟩
        · rw [← kV_ints]; exact r2
        · rw [hg, ← een, ← r3']
          all_goals rfl
  -- the heap of the sort
  have hob : (h'.push { cls := .type "list", data := .seq (as.map Value.ref).toArray }).get? h'.objs.size = some (seqObj "list" (as.map Value.ref).toArray 0) := Heap.get?_push_size _ rfl
  have kb : ∀ b o, s.heap.get? b = some o → (h'.push { cls := .type "list", data := .seq (as.map Value.ref).toArray }).get? b = some o := fun b o e => Heap.get?_push_of_some _ (hk b o e)
  have ne0 : ∀ b o, h'.get? b = some o → b ≠ h'.objs.size := fun b o e => Nat.ne_of_lt (Heap.lt_size e)
  generalize hh2 : h'.push { cls := .type "list", data := .seq (as.map Value.ref).toArray } = h2 at hob kb ⊢
  have ka : ∀ b o, h'.get? b = some o → h2.get? b = some o := fun b o e => by rw [← hh2]; exact Heap.get?_push_of_some _ e
  have lz : (as.zip ks).map (fun z => Value.ref z.1) = as.map Value.ref := by
    have e1 : (as.zip ks).map Prod.fst = as := List.map_fst_zip (by rw [lak]; exact Nat.le_refl _)
    have e2 := congrArg (List.map Value.ref) e1
    rw [List.map_map] at e2
    exact e2
  have m2 : (as.zip ks).map (·.2) = ks := List.map_snd_zip (by rw [lak]; exact Nat.le_refl _)
  have idx0 : ∀ z ∈ as.zip ks, ∃ j : Nat, as[j]? = some z.1 ∧ ks[j]? = some z.2 := by
    intro z' hz'
    obtain ⟨j, hj⟩ := List.mem_iff_getElem?.mp hz'
    exact ⟨j, List.getElem?_zip_eq_some.mp hj⟩
  have rd : ∀ z ∈ as.zip ks, ∃ bs, Reads h2 (.ref z.1) (stP z.2) bs ∧ h'.objs.size ∉ bs := by
    intro z' hz'
    obtain ⟨j, j1, j2⟩ := idx0 z' hz'
    obtain ⟨e, kq, t, he, hkq, hg⟩ := pr j z'.1 j1
    have ee : e = z'.2 := Option.some.inj (he.symm.trans j2)
    subst ee
    obtain ⟨_, its, rv, ot, hot, hct, nt, hdt⟩ := (show ObjOk X.prog X.w H s.heap kq (.tup (z'.2.1.map V.int)) from I.hok kq _ hkq)
    have ia : IntsAre its z'.2.1 := Vals.ints rv
    have r1 : Reads h2 (.ref kq) (.tuple (z'.2.1.map .int)) [] := tup_reads ⟨kq, its.toArray, rfl, ⟨ot, kb _ _ hot, hct, nt, hdt⟩, by simpa using ia⟩
    refine ⟨[], ?_, by simp⟩
    have r2 : ReadsAll h2 [Value.ref kq, Value.int z'.2.2 t] [.tuple (z'.2.1.map .int), .int z'.2.2] [] := by
      have := ReadsAll.cons r1 (ReadsAll.cons (Reads.int (h := h2) z'.2.2 t) .nil)
      simpa using this
    exact .tuple (ka _ _ hg) rfl rfl r2
  have ev : PySem.W.EachIs (fun v (q : Addr × List Int × Int) => v = Value.ref q.1) (as.map Value.ref) (as.zip ks) := by rw [← lz]; exact each_fst _
  have er : PySem.W.EachIs (fun v (q : Addr × List Int × Int) => ∃ bs, Reads h2 v (stP q.2) bs ∧ h'.objs.size ∉ bs) (as.map Value.ref) (as.zip ks) := each_and ev fun u z hz e => by subst e; exact rd z hz
  have al : PySem.W.AllAlike ((as.zip ks).map fun q => stP q.2) := by
    have := st_alike' ((as.zip ks).map (·.2))
    rw [List.map_map] at this
    exact this
  have so : PySem.W.Sortable ((as.zip ks).map fun q => stP q.2) := by
    have := st_sortable' ((as.zip ks).map (·.2))
    rw [List.map_map] at this
    exact this
  have lzip : (as.zip ks).length = ks.length := by rw [List.length_zip, lak, Nat.min_self]
  refine PySem.W.list_sort_data (s := { s with heap := h2, toks := tk }) hob ev er al so (by rw [lzip, sizeLine_eq]; exact h64) (fun b _ => ?_) fun out a1 a2 => ?_
  · have d1 : (stP b.2).depth ≤ 2 := by
      simp only [stP, PyData.depth, PyData.depthAll]
      have := PySem.W.depth_ints b.2.1
      omega
    have e : X.A.in1.units = X.A.units + 1 := rfl
    show X.A.in1.units + 1 + _ < cLine
    omega
  -- behind the sort
  generalize hzs : (as.zip ks).mergeSort (PySem.W.dataLe false fun q : Addr × List Int × Int => stP q.2) = zs at *
  have pz : zs.Perm (as.zip ks) := by rw [← hzs]; exact List.mergeSort_perm _ _
  have srt : zs.map (·.2) = ks.mergeSort (PySem.W.dataLe false stP) := by
    rw [← hzs]
    have e1 : ((as.zip ks).map Prod.snd).mergeSort (PySem.W.dataLe false stP) = ((as.zip ks).mergeSort (PySem.W.dataLe false fun q => stP q.2)).map Prod.snd := by
      rw [List.map_mergeSort (s := PySem.W.dataLe false stP)]
      intro a _ b _
      rfl
    rw [← e1, m2]
  have idx : ∀ z ∈ zs, ∃ j : Nat, as[j]? = some z.1 ∧ ks[j]? = some z.2 := fun z hz => idx0 z (pz.mem_iff.mp hz)
  have hout : out = zs.map fun z => Value.ref z.1 := fst_each a2
  have kF : ∀ b o, b ≠ h'.objs.size → h2.get? b = some o → (sortedHeap h2 h'.objs.size (as.map Value.ref) out.toArray).get? b = some o := fun b o hb e => (PyProof.Rows.sortedHeap_old hb (Heap.lt_size e)).trans e
  have kS : ∀ b o, s.heap.get? b = some o → (sortedHeap h2 h'.objs.size (as.map Value.ref) out.toArray).get? b = some o := fun b o e => kF b o (ne0 _ _ (hk b o e)) (kb b o e)
  obtain ⟨eF, heF⟩ := PyProof.Rows.sortedHeap_at (vs := as.map Value.ref) (out := out.toArray) hob
  have I1 : Inv X pins σ H { s with heap := sortedHeap h2 h'.objs.size (as.map Value.ref) out.toArray, toks := tk } := I.kept (t' := tk) kS
  have hn0 : H h'.objs.size = none := I.hok.fresh (Nat.le_of_lt hlt)
  have hlen : (zs.map fun z => V.ref z.1).length ≤ sizeLine := by
    have e := pz.length_eq
    rw [List.length_map, sizeLine_eq]
    omega
  have rv : Vals (zs.map fun z => V.ref z.1) out.toArray.toList := by
    rw [hout]
    exact vals_fst zs
  have I2 : Inv X pins σ (upd H h'.objs.size (.lst (zs.map fun z => V.ref z.1))) { s with heap := sortedHeap h2 h'.objs.size (as.map Value.ref) out.toArray, toks := tk } :=
    I1.take (h' := sortedHeap h2 h'.objs.size (as.map Value.ref) out.toArray) (t' := tk) (fun b ob _ e => e) (I.fpOk (Nat.le_of_lt hlt) hn0) ⟨hlen, out.toArray.toList, eF, rv, heF⟩
  obtain ⟨H2, I3, g, qt⟩ := takeT (P := fun b vs => ∃ (j : Nat) (e : List Int × Int) (kq : Addr), as[j]? = some b ∧ ks[j]? = some e ∧ vs = [.ref kq, .int e.2] ∧ H kq = some (.tup (e.1.map V.int))) I as _ I2 nd fun b hb => by
    obtain ⟨j, hj⟩ := List.mem_iff_getElem?.mp hb
    obtain ⟨e, kq, t, he, hkq, hg⟩ := pr j b hj
    have hbl : s.heap.objs.size ≤ b := Nat.le_of_lt (hG.above b hb)
    refine ⟨hbl, ?_, [.ref kq, .int e.2], ⟨j, e, kq, hj, he, rfl, hkq⟩, fun H3 => ⟨(by rw [sizeLine_eq]; show 2 ≤ 16777216; omega), [Value.ref kq, Value.int e.2 t], .cons rfl (.cons ⟨t, rfl⟩ .nil), ⟨_, kF _ _ (ne0 _ _ hg) (ka _ _ hg), rfl, 0, rfl⟩⟩⟩
    rw [upd_ne (ne0 _ _ hg)]
    exact I.hok.fresh hbl
  have gr : ∀ b o, H b = some o → H2 b = some o := fun b o e => g b o (by rw [upd_ne (ne_of_none e hn0)]; exact e)
  refine ⟨.ref h'.objs.size, H2, I3, rfl, q H2 h'.objs.size zs gr srt hn0 (g _ _ upd_same) fun z' hz' => ?_⟩
  obtain ⟨i, i1, i2⟩ := idx z' hz'
  obtain ⟨vs, ⟨j, e, kq, j1, j2, ev, hkq⟩, hH⟩ := qt z'.1 (List.mem_of_getElem? i1)
  have eij : i = j := (List.getElem?_inj (List.getElem?_eq_some_iff.mp i1).1 nd).mp (i1.trans j1.symm)
  subst eij
  have ee : e = z'.2 := Option.some.inj (j2.symm.trans i2)
  rw [ev, ee] at hH
  rw [ee] at hkq
  exact ⟨kq, hH, gr _ _ hkq⟩
end
/-- sorted(d.items()), by what the dict holds -/
def tSIt (te : E3) : A3 := fun ρ h Q => te ρ h fun x h1 => match x with
  | .ref n => match h1[n]? with
    | some (.dT kvs) => ∃ ks : List (List Int × Int), kvs = ks.map (fun p => (p.1.map Sum.inl, D.int p.2)) ∧ ks.length ≤ 16777216 ∧ Q ((ks.mergeSort (PySem.W.dataLe false stP)).map stD) h1
    | _ => False
  | _ => False
theorem MonoA.sit {te : E3} (mt : MonoE te) : MonoA (tSIt te) := fun ρ h Q Q' w q => mt _ _ _ _ (fun x h1 q1 => by
  split at q1
  · split at q1
    · obtain ⟨ks, h1, h2, q1⟩ := q1; exact ⟨ks, h1, h2, w _ _ q1⟩
    · exact q1.elim
  · exact q1.elim) q
theorem pairs_eq {α β γ : Type} {f : γ → α} {g : γ → β} : ∀ {vs : List (α × β)} {ks : List γ}, vs.map (·.1) = ks.map f → vs.map (·.2) = ks.map g → vs = ks.map fun p => (f p, g p)
  | [], [], _, _ => rfl
  | [], _ :: _, h, _ => by cases h
  | _ :: _, [], h, _ => by cases h
  | v :: vs, k :: ks, h1, h2 => by
    rw [List.map_cons, List.map_cons, List.cons.injEq] at h1 h2
    rw [List.map_cons, ← pairs_eq h1.2 h2.2, ← h1.1, ← h2.1]
theorem rel_is {K : PySem.W.Frag} {m : List Addr} {H : Hp} : ∀ ns : List Int, RelDs K m H (ns.map D.int) (ns.map V.int)
  | [] => .nil
  | n :: ns => .cons (.int n) (rel_is ns)
theorem rel_st {K : PySem.W.Frag} {m : List Addr} {H : Hp} : ∀ ps : List (Addr × List Int × Int), (∀ z ∈ ps, ∃ q, H z.1 = some (.tup [.ref q, .int z.2.2]) ∧ H q = some (.tup (z.2.1.map V.int))) → RelDs K m H ((ps.map (·.2)).map stD) (ps.map fun z => V.ref z.1)
  | [], _ => .nil
  | z :: ps, h => by
    obtain ⟨q, h1, h2⟩ := h z List.mem_cons_self
    exact .cons (.tup h1 (.cons (.tup h2 (rel_is _)) (.cons (.int _) .nil))) (rel_st ps fun y hy => h y (List.mem_cons_of_mem _ hy))
section
variable {X : Cx}
theorem x3_sitems {e : Expr} {te : E3} {p pos apos cpos : PySem.Pos} (hc : X.calm = true) (hu : X.A.units + 64 < cLine) (hm : X.mg "sorted" = none) (he : PE3 X e te) (hg : Gl X "sorted" := by rfl)
    (hbase : attributeBase e "items" X.env (eval e X.env) = eval e X.env := by rfl) (hline : (apos.endLine == cpos.line) = true := by rfl)
    (hst : starEach [.Call (.Attribute e "items" apos) [] [] cpos] X.env = (false, eval (.Call (.Attribute e "items" apos) [] [] cpos) X.env) :: starEach [] X.env := by rfl) (hpl : (backTo pos (starEach [] X.env)).any (·.1) = false := by rfl) :
    PX3 X (.Call (.Name "sorted" p) [.Call (.Attribute e "items" apos) [] [] cpos] [] pos) (tSIt te) := by
  refine ⟨PE.weak (pe_callB (cr_sortedII hc hu) hg hm (by decide +kernel) (pa_cons (pe_bm0 PySem.F.plainAttrs_dict PySem.F.slot_dict_items PySem.F.type_dict_items mt_itemsT he.pe hbase hline) pa_nil hst) (by decide) (by decide) hst hpl) fun σ H Q ⟨m, h, ρ, R, S, q⟩ => ?_, .sit he.mono⟩
  refine LE.bind he.mono R S q fun m1 H1 v x h1 s1 R1 rx S1 q1 => ?_
  cases rx with
  | @ref n a ea =>
    simp only at q1
    split at q1
    next kvs e2 =>
      obtain ⟨ks, rfl, hl, q1⟩ := q1
      obtain ⟨vs, hv, hk, rr⟩ := R1.at_ n a _ ea e2
      rw [List.map_map] at hk rr
      have e3 : vs.map (·.2) = ks.map fun p => V.int p.2 := by
        have r2 : RelDs X.K m1 H1 ((ks.map (·.2)).map D.int) (vs.map (·.2)) := by rw [List.map_map]; exact rr
        rw [RelDs.ints r2, List.map_map]; rfl
      have ev : vs = ks.map entI := pairs_eq hk e3
      subst ev
      refine ⟨?_, a, ks.map entI, rfl, rfl, hv, fun pv hpv => ⟨pv, a, ks, rfl, upd_same, by rw [upd_ne (ne_of_none hv hpv)]; exact hv, hl, fun H' l ps kp hps hn hl' hz => ?_⟩⟩
      · exact .inr (.inr (.inl ⟨rfl, .inr ⟨_, hv⟩⟩))
      · have kp0 : ∀ b o, H1 b = some o → H' b = some o := fun b o e => kp b o (by rw [upd_ne (ne_of_none e hpv)]; exact e)
        have R2 := R1.grow kp0
        have nl : H1 l = none := by
          by_cases el : l = pv
          · rw [el, upd_same] at hn; cases hn
          · rw [upd_ne el] at hn; exact hn
        refine q1 m1 H' l _ (s1.trans (Step.grow kp0)) R2 hl' ?_ (R1.nonone nl) ?_
        · cases z : H l with
          | none => rfl
          | some o =>
            by_cases hm : l ∈ m
            · obtain ⟨r, hr⟩ := s1.pre
              exact absurd (show l ∈ m1 by rw [hr]; exact List.mem_append_left _ hm) (R1.nonone nl)
            · rw [s1.keep l o hm z] at nl; cases nl
        · rw [← hps]
          exact rel_st ps hz
    next => exact q1.elim
  | _ => exact q1.elim
end
end F3
set_option maxHeartbeats 400000
/-! PD: pairings and halls as plain data (not to be joined with RC or GF, which have their own). -/
namespace F3
open PySem PySem.Spec PyProof.Rows L2
abbrev P4 := Int × Int × Int × Bool
def p4D (q : P4) : D := pr q.1 q.2.1 q.2.2.1 q.2.2.2
def PrIn (n : Int) (q : P4) : Prop := 0 ≤ q.1 ∧ q.1 ≤ q.2.1 ∧ 1 ≤ q.2.2.1 ∧ q.2.1 + q.2.2.1 ≤ n
def hallD (n : Nat) (i j : Nat) : D := .tup [.int (n : Int), .ref i, .ref j]
theorem eqv_map {α : Type} (f : α → PyData) (h : ∀ a, PyData.eqv (f a) (f a) = true) : ∀ xs : List α, PyData.eqvAll (xs.map f) (xs.map f) = true
  | [] => rfl
  | x :: xs => by rw [List.map_cons, PyData.eqvAll, h x, eqv_map f h xs]; rfl
def p4P (q : P4) : PyData := .tuple [.int q.1, .int q.2.1, .int q.2.2.1, .bool q.2.2.2]
def hallP (n : Nat) (prs : List P4) (w : List Pc) : PyData := .tuple [.int (n : Int), .list (prs.map p4P), .list (w.map pcP)]
theorem toP_hallk {h : Sto} {k n i j : Nat} {prs : List P4} {w : List Pc} (hi : h[i]? = some (.lst (prs.map p4D))) (hj : h[j]? = some (.lst (w.map pcD))) : toP h (k + 5) (hallD n i j) = some (hallP n prs w) := by
  have h1 : toP h (k + 4) (.ref i) = some (.list (prs.map p4P)) := toP_lst (k := k + 3) hi (mapM_of fun q _ => toP_tup (k := k + 2) rfl)
  have h2 : toP h (k + 4) (.ref j) = some (.list (w.map pcP)) := toP_lst (k := k + 3) hj (toP_pcsX (k := k))
  have h3 : toP h (k + 4) (.int (n : Int)) = some (.int (n : Int)) := rfl
  refine toP_tup (k := k + 4) ?_
  rw [List.mapM_cons, List.mapM_cons, List.mapM_cons, List.mapM_nil, h1, h2, h3]; rfl
theorem toP_hall {h : Sto} {n i j : Nat} {prs : List P4} {w : List Pc} (hi : h[i]? = some (.lst (prs.map p4D))) (hj : h[j]? = some (.lst (w.map pcD))) : toP h 9 (hallD n i j) = some (hallP n prs w) := toP_hallk (k := 4) hi hj
theorem eqv_hall {n : Nat} {prs : List P4} {w : List Pc} : PyData.eqv (hallP n prs w) (hallP n prs w) = true := by
  have h1 : PyData.eqv (.list (prs.map p4P)) (.list (prs.map p4P)) = true := by
    rw [PyData.eqv]
    refine eqv_map _ (fun q => ?_) prs
    simp [p4P, PyData.eqv, PyData.eqvAll]
  have h2 : PyData.eqv (.list (w.map pcP)) (.list (w.map pcP)) = true := by rw [eqv_pcs]; simp
  unfold hallP
  rw [PyData.eqv, PyData.eqvAll, PyData.eqvAll, PyData.eqvAll, PyData.eqvAll, h1, h2]
  simp [PyData.eqv]
theorem eqT_p {h : Sto} {x y : D} {p : PyData} {k : Bool → Prop} (e1 : toP h 9 x = some p) (e2 : toP h 9 y = some p) (ev : PyData.eqv p p = true) (q : k true) : eqT (toP h 9 x) (toP h 9 y) k := by
  rw [e1, e2]
  show k (PyData.eqv p p)
  rw [ev]; exact q
theorem neR_hall {n i j m a b : Nat} {h : Sto} {Q : DK} : neR (hallD n i j) (hallD m a b) h Q = eqT (toP h 9 (hallD n i j)) (toP h 9 (hallD m a b)) fun b => Q (.bl (!b)) h := neR_tq
theorem eqR_hall {n i j m a b : Nat} {h : Sto} {Q : DK} : eqR (hallD n i j) (hallD m a b) h Q = eqT (toP h 9 (hallD n i j)) (toP h 9 (hallD m a b)) fun b => Q (.bl b) h := eqR_tq
end F3
set_option maxHeartbeats 400000
/-! DA: what the laws of deeds draw: numbers by cells, weighings. -/
namespace F3
open PySem PySem.Spec PyProof.Rows L2
def t_dcell : C3 :=
  (cSeq (cIf (tT (tO ltR (tV 1) (tB3 lenR (tC3 (tV 0) tN3)))) (cRet (tO ixR (tV 0) (tV 1))) cNext)
    (cRet (tK (.int 0))))

def cellP (ns : List Int) (k : Int) : Int := if k < (ns.length : Int) then ns.getD k.toNat 0 else 0
def sp_dcell : Sp3 := spR (fun (a : List Int × Int) => [.fl (a.1.map .int), .int a.2]) (fun a _ => 0 ≤ a.2) (fun a h d h' => d = .int (cellP a.1 a.2) ∧ h' = h)
theorem mono_dcell : MonoS sp_dcell := mono_spR
theorem len_dcell : ∀ ds h Q E, sp_dcell ds h Q E → ds.length = 2 := len_spR fun _ => rfl
theorem rd_dcell : ∀ ds h Q E, ClS h.length h → ClDs h.length ds → sp_dcell ds h Q E → t_dcell (ends3 (GQ h.length Q)) (start3 2 ds) h := by
  rintro ds h Q E _ _ ⟨⟨ns, k⟩, rfl, hk, q⟩
  have hk' : 0 ≤ k := hk
  have q' : Q (.int (cellP ns k)) h := q _ _ ⟨rfl, rfl⟩
  try simp only [↓tV_q, ↓tO_q, ↓tT_q, ↓tN3_q, ↓tC3_q, ↓cSeq_q, ↓cIf_q, ↓tB3_q, ↓start3_q, ↓ltR_ii_q, ↓lenR_f_q, onO_some, onB_bl, List.getElem?_cons_zero, List.getElem?_cons_succ, List.map_cons, List.map_nil, List.cons_append, List.nil_append, List.length_cons, List.length_nil, List.replicate_zero, Nat.reduceAdd, Nat.reduceSub, t_dcell]
  refine ifC_of (fun hc => ?_) (fun hc => ?_)
  · have hl : k < (ns.length : Int) := by simpa using hc
    obtain ⟨x, e, e2⟩ := atI_some (xs := ns) (k := k) hk' hl
    have ex : cellP ns k = x := by
      unfold cellP
      rw [if_pos hl, List.getD_eq_getElem?_getD, e2]; rfl
    try simp only [↓tV_q, ↓tO_q, ↓cRet_q, ↓start3_q, ↓ixR_fi_q, onO_some, List.getElem?_cons_zero, List.getElem?_cons_succ, List.map_cons, List.map_nil, List.cons_append, List.nil_append, List.length_cons, List.length_nil, List.replicate_zero, Nat.reduceAdd, Nat.reduceSub]
    rw [atT_of (by rw [atI_map, e]; rfl), ← ex]
    exact .inl q'
  · have hl : ¬ k < (ns.length : Int) := by simpa using hc
    have ex : cellP ns k = 0 := by
      unfold cellP
      rw [if_neg hl]
    try simp only [↓tK_q, ↓cNext_q, ↓cRet_q, ↓start3_q, thenE_nx, ends3_rt, List.map_cons, List.map_nil, List.cons_append, List.nil_append, List.length_cons, List.length_nil, List.replicate_zero, Nat.reduceAdd, Nat.reduceSub]
    rw [ex] at q'
    exact .inl q'
theorem cell_q {ns : List Int} {k : Int} {h : Sto} {Q : DK} (hk : 0 ≤ k) (q : Q (.int (cellP ns k)) h) : callS sp_dcell [.fl (ns.map .int), .int k] h Q := ⟨(ns, k), rfl, hk, by rintro _ _ ⟨rfl, rfl⟩; exact q⟩
def b_big_1 : C3 :=
  (cSeq (cAsg (tO modR (tO addR (tO addR (tO addR (tO mulR (tV 2) (tK (.int 48271))) (tO divR (tV 2) (tK (.int 40692)))) (tO mulR (tO mulR (tK (.int 19)) (tV 4)) (tV 4))) (tV 1)) (tK (.int 2147483647))) (gN 2))
    (cAsg (tO addR (tO mulR (tV 3) (tK (.int 2147483647))) (tO modR (tO mulR (tV 2) (tK (.int 69621))) (tK (.int 2147483629)))) (gN 3)))
def r_big_1 : C3 :=
  (cSeq (cAsg (tO addR (tO addR (tO addR (tO modR (tCall3 sp_dcell (tC3 (tV 0) (tC3 (tK (.int 0)) tN3))) (tK (.int 1000003))) (tO mulR (tK (.int 7919)) (tV 1))) (tO mulR (tK (.int 31)) (tCall3 sp_dcell (tC3 (tV 0) (tC3 (tV 1) tN3))))) (tK (.int 17))) (gN 2))
    (cSeq (cAsg (tO addR (tO modR (tV 2) (tK (.int 2147483629))) (tK (.int 11))) (gN 2))
    (cSeq (cAsg (tK (.int 0)) (gN 3))
    (cSeq (cFor (iRng (tC3 (tK (.int 10)) tN3)) (gN 4) b_big_1)
    (cRet (tV 3))))))
def t_big : C3 :=
  (cSeq (cIf (tT (tO geR (tB3 absR (tC3 (tCall3 sp_dcell (tC3 (tV 0) (tC3 (tV 1) tN3))) tN3)) (tO powR (tK (.int 10)) (tK (.int 18))))) (cRet (tO subR (tB3 absR (tC3 (tCall3 sp_dcell (tC3 (tV 0) (tC3 (tV 1) tN3))) tN3)) (tO powR (tK (.int 10)) (tK (.int 18))))) cNext)
    r_big_1)

def t_btake : C3 :=
  (cSeq (cAsg (tO modR (tO ixR (tV 0) (tK (.int 0))) (tV 1)) (gN 2))
    (cSeq (cAsg (tO divR (tO ixR (tV 0) (tK (.int 0))) (tV 1)) (gSub3 (tV 0) (tK (.int 0))))
    (cRet (tV 2))))

def sp_big : Sp3 := spR (fun (a : List Int × Int) => [.fl (a.1.map .int), .int a.2]) (fun a _ => 0 ≤ a.2) (fun a h d h' => ∃ b : Int, 0 ≤ b ∧ d = .int b ∧ h' = h)
theorem mono_big : MonoS sp_big := mono_spR
theorem len_big : ∀ ds h Q E, sp_big ds h Q E → ds.length = 2 := len_spR fun _ => rfl
theorem rd_big : ∀ ds h Q E, ClS h.length h → ClDs h.length ds → sp_big ds h Q E → t_big (ends3 (GQ h.length Q)) (start3 5 ds) h := by
  rintro ds h Q E _ _ ⟨⟨ns, k⟩, rfl, hk, q⟩
  have hk' : 0 ≤ k := hk
  have q' : ∀ b : Int, 0 ≤ b → Q (.int b) h := fun b hb => q _ _ ⟨b, hb, rfl, rfl⟩
  try simp only [↓tV_q, ↓tO_q, ↓tT_q, ↓tN3_q, ↓tC3_q, ↓cSeq_q, ↓cIf_q, ↓tCall3_q, ↓tB3_q, ↓start3_q, onO_some, List.getElem?_cons_zero, List.getElem?_cons_succ, List.map_cons, List.map_nil, List.cons_append, List.nil_append, List.length_cons, List.length_nil, List.replicate_succ, List.replicate_zero, Nat.reduceAdd, Nat.reduceSub, t_big]
  refine cell_q hk' ?_
  try simp only [↓tK_q, ↓tO_q, ↓tN3_q, ↓powR_ii_q, ↓geR_ii_q, ↓absR_i_q, onB_bl, true_and, Int.reduceLE]
  refine ⟨by decide, ?_⟩
  refine ifC_of (fun h18 => ?_) (fun h18 => ?_)
  · try simp only [↓tV_q, ↓tO_q, ↓tN3_q, ↓tC3_q, ↓cRet_q, ↓tCall3_q, ↓tB3_q, ↓start3_q, onO_some, List.getElem?_cons_zero, List.getElem?_cons_succ, List.map_cons, List.map_nil, List.cons_append, List.nil_append, List.length_cons, List.length_nil, List.replicate_succ, List.replicate_zero, Nat.reduceAdd, Nat.reduceSub]
    refine cell_q hk' ?_
    try simp only [↓tK_q, ↓tO_q, ↓tN3_q, ↓subR_ii_q, ↓powR_ii_q, ↓absR_i_q, thenE_rt, ends3_rt, true_and, Int.reduceLE]
    exact ⟨by decide, .inl (q' _ (by omega))⟩
  · try simp only [↓tV_q, ↓tK_q, ↓tO_q, ↓tN3_q, ↓tC3_q, ↓cNext_q, ↓cSeq_q, ↓cAsg_q, ↓tCall3_q, ↓start3_q, thenE_nx, onO_some, List.getElem?_cons_zero, List.map_cons, List.map_nil, List.cons_append, List.nil_append, List.length_cons, List.length_nil, List.replicate_succ, List.replicate_zero, Nat.reduceAdd, Nat.reduceSub, r_big_1]
    refine cell_q (by decide) ?_
    try simp only [↓tV_q, ↓tK_q, ↓tO_q, ↓tN3_q, ↓tC3_q, ↓tCall3_q, ↓addR_ii_q, ↓mulR_ii_q, ↓modR_ii_q, onO_some, List.getElem?_cons_zero, List.getElem?_cons_succ, true_and, Int.reduceLT]
    refine ⟨mulOk_l (by decide), cell_q hk' ?_⟩
    try simp only [↓tV_q, ↓tK_q, ↓tO_q, ↓tN3_q, ↓tC3_q, ↓cSeq_q, ↓cAsg_q, ↓gN_q, ↓cFor_q, ↓iRng_q, ↓rngD_1q, ↓addR_ii_q, ↓mulR_ii_q, ↓modR_ii_q, thenE_nx, onO_some, List.getElem?_cons_zero, List.getElem?_cons_succ, List.set_cons_zero, List.set_cons_succ, true_and, Int.reduceLT]
    refine ⟨mulOk_l (by decide), ?_⟩
    have x0 : 0 ≤ (cellP ns 0 % 1000003 + 7919 * k + 31 * cellP ns k + 17) % 2147483629 + 11 := by omega
    generalize (cellP ns 0 % 1000003 + 7919 * k + 31 * cellP ns k + 17) % 2147483629 + 11 = x at *
    skip
    refine ⟨by decide, ?_⟩
    refine forL (f := fun (j : Nat) => D.int (j : Int)) (fun l ρ h' => ∃ (x t : Int) (o4 : Option D), 0 ≤ x ∧ 0 ≤ t ∧ ρ = [some (.fl (ns.map .int)), some (.int k), some (.int x), some (.int t), o4] ∧ h' = h) ⟨x, 0, _, x0, by decide, rfl, rfl⟩ (fun _ _ _ _ => trivial) ?_ ?_
    · rintro ρ h' ⟨x, t, o4, x0, t0, rfl, rfl⟩
      try simp only [↓tV_q, ↓cRet_q, thenE_nx, ends3_rt, onO_some, List.getElem?_cons_zero, List.getElem?_cons_succ]
      exact .inl (q' t t0)
    · rintro l j r ρ h' F e ⟨x, t, o4, x0, t0, rfl, rfl⟩ hF
      have hj : j < 10 := List.mem_range.mp (by have : j ∈ List.range (Int.toNat 10) := by rw [e]; simp
                                                exact this)
      try simp only [↓tV_q, ↓tK_q, ↓tO_q, ↓cSeq_q, ↓cAsg_q, ↓gN_q, ↓addR_ii_q, ↓mulR_ii_q, ↓divR_ii_q, ↓modR_ii_q, thenE_nx, loopE_nx, onO_some, List.getElem?_cons_zero, List.getElem?_cons_succ, List.set_cons_zero, List.set_cons_succ, true_and, Int.reduceLT, b_big_1]
      refine ⟨mulOk_r (by decide), divOk_of (by decide) (by decide), mulOk_l (by decide), mulOk_r (by omega), mulOk_r (by decide), mulOk_r (by decide), hF _ _ ⟨_, _, _, ?_, ?_, rfl, rfl⟩⟩
      · exact Int.emod_nonneg _ (by decide)
      · have := Int.emod_nonneg ((x * 48271 + x / 40692 + 19 * (j : Int) * (j : Int) + k) % 2147483647 * 69621) (b := 2147483629) (by decide)
        omega
def sp_btake : Sp3 := spR (fun (a : Nat × Int × Int) => [.ref a.1, .int a.2.2]) (fun a h => h[a.1]? = some (.lst [.int a.2.1]) ∧ 0 < a.2.2 ∧ a.2.2 < 2 ^ 2000) (fun a h d h' => d = .int (a.2.1 % a.2.2) ∧ h' = h.set a.1 (.lst [.int (a.2.1 / a.2.2)]))
theorem mono_btake : MonoS sp_btake := mono_spR
theorem len_btake : ∀ ds h Q E, sp_btake ds h Q E → ds.length = 2 := len_spR fun _ => rfl
theorem rd_btake : ∀ ds h Q E, ClS h.length h → ClDs h.length ds → sp_btake ds h Q E → t_btake (ends3 (GQ h.length Q)) (start3 3 ds) h := by
  rintro ds h Q E _ _ ⟨⟨a, x, n⟩, rfl, ⟨ha, h0, h1⟩, q⟩
  have ha' : h[a]? = some (.lst [.int x]) := ha
  have h0' : 0 < n := h0
  have h1' : n < 2 ^ 2000 := h1
  try simp only [↓tV_q, ↓tK_q, ↓tO_q, ↓cSeq_q, ↓cRet_q, ↓cAsg_q, ↓gN_q, ↓gSub3_q, ↓setR_q, ↓start3_q, ↓divR_ii_q, ↓modR_ii_q, ↓ixR_rq, thenE_nx, ends3_rt, onO_some, onC_q, onN_q, atT_0, ixN1_0, List.getElem?_cons_zero, List.getElem?_cons_succ, List.set_cons_zero, List.set_cons_succ, List.map_cons, List.map_nil, List.cons_append, List.nil_append, List.length_cons, List.length_nil, List.replicate_succ, List.replicate_zero, Nat.reduceAdd, Nat.reduceSub, t_btake, ha']
  exact ⟨h0', divOk_of h0' (Int.lt_of_lt_of_le h1' (by decide)), .inl (q _ _ ⟨rfl, rfl⟩)⟩
theorem btake_q {a : Nat} {x n : Int} {h : Sto} {Q : DK} (e : h[a]? = some (.lst [.int x])) (h0 : 0 < n) (h1 : n < 2 ^ 2000) (q : ∀ x' r : Int, 0 ≤ r → r < n → Q (.int r) (h.set a (.lst [.int x']))) : callS sp_btake [.ref a, .int n] h Q :=
  ⟨(a, x, n), rfl, ⟨e, h0, h1⟩, by rintro _ _ ⟨rfl, rfl⟩; exact q _ _ (Int.emod_nonneg _ (Int.ne_of_gt h0)) (Int.emod_lt_of_pos _ h0)⟩
theorem big_q {ns : List Int} {k : Int} {h : Sto} {Q : DK} (hk : 0 ≤ k) (q : ∀ b : Int, 0 ≤ b → Q (.int b) h) : callS sp_big [.fl (ns.map .int), .int k] h Q := ⟨(ns, k), rfl, hk, by rintro _ _ ⟨b, b0, rfl, rfl⟩; exact q b b0⟩
/-! ### a pairing -/
def r_bpairing_2 : C3 :=
  (cRet (tTup3 (tC3 (tB3 minR (tC3 (tV 7) (tC3 (tV 8) tN3))) (tC3 (tB3 maxR (tC3 (tV 7) (tC3 (tV 8) tN3))) (tC3 (tV 6) (tC3 (tO eqR (tCall3 sp_btake (tC3 (tV 4) (tC3 (tK (.int 2)) tN3))) (tK (.int 1))) tN3))))))
def r_bpairing_1 : C3 :=
  (cSeq (cIf (tOr3 (tT (tO eqR (tV 5) (tK (.int 2)))) (tT (tO eqR (tV 5) (tK (.int 3))))) (cAsg (tO subR (tV 0) (tV 6)) (gN 8)) cNext)
    r_bpairing_2)
def t_bpairing : C3 :=
  (cSeq (cAsg (tNew (tC3 (tV 1) tN3)) (gN 4))
    (cSeq (cAsg (tCall3 sp_btake (tC3 (tV 4) (tC3 (tK (.int 8)) tN3))) (gN 5))
    (cSeq (cAsg (tO addR (tK (.int 1)) (tO modR (tCall3 sp_big (tC3 (tV 2) (tC3 (tV 3) tN3))) (tIxX (tC3 (tV 0) (tC3 (tV 0) (tC3 (tV 0) (tC3 (tB3 maxR (tC3 (tK (.int 1)) (tC3 (tO divR (tV 0) (tK (.int 2))) tN3))) (tC3 (tB3 maxR (tC3 (tK (.int 1)) (tC3 (tO divR (tV 0) (tK (.int 3))) tN3))) (tC3 (tB3 minR (tC3 (tV 0) (tC3 (tK (.int 4)) tN3))) (tC3 (tV 0) (tC3 (tB3 minR (tC3 (tV 0) (tC3 (tK (.int 2)) tN3))) tN3)))))))) (tV 5)))) (gN 6))
    (cSeq (cAsg (tO modR (tCall3 sp_big (tC3 (tV 2) (tC3 (tO addR (tV 3) (tK (.int 1))) tN3))) (tO addR (tO subR (tV 0) (tV 6)) (tK (.int 1)))) (gN 7))
    (cSeq (cAsg (tO modR (tCall3 sp_big (tC3 (tV 2) (tC3 (tO addR (tV 3) (tK (.int 2))) tN3))) (tO addR (tO subR (tV 0) (tV 6)) (tK (.int 1)))) (gN 8))
    (cSeq (cIf (tOr3 (tT (tO eqR (tV 5) (tK (.int 1)))) (tT (tO eqR (tV 5) (tK (.int 4))))) (cAsg (tB3 minR (tC3 (tO subR (tV 0) (tV 6)) (tC3 (tO addR (tO addR (tV 7) (tK (.int 1))) (tO modR (tV 8) (tV 6))) tN3))) (gN 8)) cNext)
    r_bpairing_1))))))

def sp_bpairing : Sp3 := spR (fun (a : Int × Int × List Int × Int) => [.int a.1, .int a.2.1, .fl (a.2.2.1.map .int), .int a.2.2.2]) (fun a _ => 0 < a.1 ∧ a.1 < 2 ^ 1000 ∧ 0 ≤ a.2.2.2) (fun a h d h' => ∃ q : P4, PrIn a.1 q ∧ d = p4D q ∧ h' = h)
theorem mono_bpairing : MonoS sp_bpairing := mono_spR
theorem len_bpairing : ∀ ds h Q E, sp_bpairing ds h Q E → ds.length = 4 := len_spR fun _ => rfl
theorem cl_p4 {n : Nat} {q : P4} : ClD n (p4D q) := by simp [p4D, pr, ClD, ClDs]
theorem rd_bpairing : ∀ ds h Q E, ClS h.length h → ClDs h.length ds → sp_bpairing ds h Q E → t_bpairing (ends3 (GQ h.length Q)) (start3 9 ds) h := by
  rintro ds h Q E hcl _ ⟨⟨n, hd, ns, k⟩, rfl, ⟨n0, n1, k0⟩, q⟩
  have n0' : 0 < n := n0
  have n1' : n < 2 ^ 1000 := n1
  have k0' : 0 ≤ k := k0
  have q' : ∀ q : P4, PrIn n q → Q (p4D q) h := fun p hp => q _ _ ⟨p, hp, rfl, rfl⟩
  clear q n0 n1 k0
  try simp only [↓tV_q, ↓tK_q, ↓tN3_q, ↓tC3_q, ↓tNew_q, ↓cSeq_q, ↓cAsg_q, ↓gN_q, ↓tCall3_q, ↓start3_q, thenE_nx, onO_some, List.getElem?_cons_zero, List.getElem?_cons_succ, List.set_cons_zero, List.set_cons_succ, List.map_cons, List.map_nil, List.cons_append, List.nil_append, List.length_cons, List.length_nil, List.replicate_succ, List.replicate_zero, Nat.reduceAdd, Nat.reduceSub, t_bpairing]
  refine btake_q get_new (by decide) (by decide) fun x way w0 w1 => ?_
  rw [set_app0]
  try simp only [↓tV_q, ↓tK_q, ↓tO_q, ↓tN3_q, ↓tC3_q, ↓cSeq_q, ↓cAsg_q, ↓gN_q, ↓tCall3_q, thenE_nx, onO_some, List.getElem?_cons_zero, List.getElem?_cons_succ, List.set_cons_zero, List.set_cons_succ]
  refine big_q k0' fun b b0 => ?_
  try simp only [↓tV_q, ↓tK_q, ↓tO_q, ↓tN3_q, ↓tC3_q, ↓tB3_q, ↓tIxX_q, ↓divR_ii_q, ↓minR_ii_q, ↓maxR_ii_q, onO_some, onI_int, List.getElem?_cons_zero, List.getElem?_cons_succ]
  refine ⟨divOk_of (by decide) (by decide), divOk_of (by decide) (by decide), ?_⟩
  refine atT_all w0 (by simpa using w1) fun y hy => ?_
  have hy : ∃ m : Int, y = .int m ∧ 0 < m ∧ m ≤ n := by
    simp only [List.mem_cons, List.not_mem_nil, or_false] at hy
    rcases hy with rfl | rfl | rfl | rfl | rfl | rfl | rfl | rfl
    all_goals refine ⟨_, rfl, ?_, ?_⟩
    all_goals first
      | omega
      | (split <;> omega)
  obtain ⟨m, rfl, m0, m1⟩ := hy
  have l0 := Int.emod_nonneg b (b := m) (by omega)
  have l1 := Int.emod_lt_of_pos b m0
  try simp only [↓tV_q, ↓tK_q, ↓tO_q, ↓tN3_q, ↓tC3_q, ↓cSeq_q, ↓cAsg_q, ↓gN_q, ↓tCall3_q, ↓addR_ii_q, ↓modR_ii_q, thenE_nx, onO_some, List.getElem?_cons_zero, List.getElem?_cons_succ, List.set_cons_zero, List.set_cons_succ]
  generalize b % m = l at *
  refine ⟨m0, big_q (by omega) fun b1 _ => ?_⟩
  have mp : 0 < n - (1 + l) + 1 := by omega
  have u0 := Int.emod_nonneg b1 (b := n - (1 + l) + 1) (by omega)
  have u1 := Int.emod_lt_of_pos b1 mp
  try simp only [↓tV_q, ↓tK_q, ↓tO_q, ↓tN3_q, ↓tC3_q, ↓cSeq_q, ↓cAsg_q, ↓gN_q, ↓tCall3_q, ↓addR_ii_q, ↓subR_ii_q, ↓modR_ii_q, thenE_nx, onO_some, List.getElem?_cons_zero, List.getElem?_cons_succ, List.set_cons_zero, List.set_cons_succ]
  generalize b1 % (n - (1 + l) + 1) = u at *
  refine ⟨mp, big_q (by omega) fun b2 _ => ?_⟩
  have v0 := Int.emod_nonneg b2 (b := n - (1 + l) + 1) (by omega)
  have v1 := Int.emod_lt_of_pos b2 mp
  try simp only [↓tV_q, ↓tK_q, ↓tO_q, ↓tT_q, ↓tOr3_q, ↓cSeq_q, ↓cIf_q, ↓gN_q, ↓addR_ii_q, ↓subR_ii_q, ↓modR_ii_q, ↓eqR_ii_q, thenE_nx, onO_some, onB_bl, List.getElem?_cons_zero, List.getElem?_cons_succ, List.set_cons_zero, List.set_cons_succ]
  generalize b2 % (n - (1 + l) + 1) = v at *
  refine ⟨mp, ?_⟩
  have fin : ∀ v : Int, 0 ≤ v → v < n - (1 + l) + 1 → r_bpairing_2 (ends3 (GQ h.length Q)) [some (.int n), some (.int hd), some (.fl (ns.map .int)), some (.int k), some (.ref h.length), some (.int way), some (.int (1 + l)), some (.int u), some (.int v)] (h ++ [.lst [.int x]]) := by
    intro v v0 v1
    try simp only [↓tV_q, ↓tK_q, ↓tO_q, ↓tN3_q, ↓tC3_q, ↓tTup3_q, ↓cRet_q, ↓tCall3_q, ↓tB3_q, ↓minR_ii_q, ↓maxR_ii_q, onO_some, List.getElem?_cons_zero, List.getElem?_cons_succ, r_bpairing_2]
    refine btake_q get_new (by decide) (by decide) fun x t t0 t1 => ?_
    rw [set_app0]
    try simp only [↓tK_q, ↓tN3_q, ↓eqR_ii_q, ends3_rt]
    refine gq_tail rfl (cl_p4 (q := (if v < u then v else u, if v > u then v else u, 1 + l, decide (t = 1)))) hcl (q' (if v < u then v else u, if v > u then v else u, 1 + l, decide (t = 1)) ?_)
    refine ⟨?_, ?_, ?_, ?_⟩
    · show 0 ≤ if v < u then v else u
      split <;> omega
    · show (if v < u then v else u) ≤ if v > u then v else u
      split <;> split <;> omega
    · show 1 ≤ 1 + l; omega
    · show (if v > u then v else u) + (1 + l) ≤ n
      split <;> omega
  have fin1 : ∀ v : Int, 0 ≤ v → v < n - (1 + l) + 1 → r_bpairing_1 (ends3 (GQ h.length Q)) [some (.int n), some (.int hd), some (.fl (ns.map .int)), some (.int k), some (.ref h.length), some (.int way), some (.int (1 + l)), some (.int u), some (.int v)] (h ++ [.lst [.int x]]) := by
    intro v v0 v1
    have g1 := fin (n - (1 + l)) (by omega) (by omega)
    have g2 := fin v v0 v1
    try simp only [↓tV_q, ↓tK_q, ↓tO_q, ↓tT_q, ↓tOr3_q, ↓cSeq_q, ↓cIf_q, ↓eqR_ii_q, onO_some, onB_bl, List.getElem?_cons_zero, List.getElem?_cons_succ, r_bpairing_1]
    refine ifC_of (fun _ => ?_) (fun _ => ?_)
    · try simp only [↓tV_q, ↓tO_q, ↓cAsg_q, ↓gN_q, ↓subR_ii_q, thenE_nx, onO_some, ifC_true, List.getElem?_cons_zero, List.getElem?_cons_succ, List.set_cons_zero, List.set_cons_succ]
      exact g1
    · try simp only [↓tV_q, ↓tK_q, ↓tO_q, ↓tT_q, ↓eqR_ii_q, onO_some, onB_bl, List.getElem?_cons_zero, List.getElem?_cons_succ]
      refine ifC_of (fun _ => ?_) (fun _ => ?_)
      · try simp only [↓tV_q, ↓tO_q, ↓cAsg_q, ↓gN_q, ↓subR_ii_q, thenE_nx, onO_some, List.getElem?_cons_zero, List.getElem?_cons_succ, List.set_cons_zero, List.set_cons_succ]
        exact g1
      · exact g2
  have l2 := Int.emod_nonneg v (b := 1 + l) (by omega)
  have g1 := fin1 (if u + 1 + v % (1 + l) < n - (1 + l) then u + 1 + v % (1 + l) else n - (1 + l)) (by split <;> omega) (by split <;> omega)
  have g2 := fin1 v v0 v1
  have lp : 0 < 1 + l := by omega
  refine ifC_of (fun _ => ?_) (fun _ => ?_)
  · try simp only [↓tV_q, ↓tK_q, ↓tO_q, ↓tN3_q, ↓tC3_q, ↓cAsg_q, ↓gN_q, ↓tB3_q, ↓addR_ii_q, ↓subR_ii_q, ↓modR_ii_q, ↓minR_ii_q, thenE_nx, onO_some, ifC_true, List.getElem?_cons_zero, List.getElem?_cons_succ, List.set_cons_zero, List.set_cons_succ]
    exact ⟨lp, g1⟩
  · try simp only [↓tV_q, ↓tK_q, ↓tO_q, ↓tT_q, ↓eqR_ii_q, onO_some, onB_bl, List.getElem?_cons_zero, List.getElem?_cons_succ]
    refine ifC_of (fun _ => ?_) (fun _ => ?_)
    · try simp only [↓tV_q, ↓tK_q, ↓tO_q, ↓tN3_q, ↓tC3_q, ↓cAsg_q, ↓gN_q, ↓tB3_q, ↓addR_ii_q, ↓subR_ii_q, ↓modR_ii_q, ↓minR_ii_q, thenE_nx, onO_some, List.getElem?_cons_zero, List.getElem?_cons_succ, List.set_cons_zero, List.set_cons_succ]
      exact ⟨lp, g1⟩
    · exact g2
theorem bpairing_q {n hd k : Int} {ns : List Int} {h : Sto} {Q : DK} (n0 : 0 < n) (n1 : n < 2 ^ 1000) (k0 : 0 ≤ k) (q : ∀ q : P4, PrIn n q → Q (p4D q) h) : callS sp_bpairing [.int n, .int hd, .fl (ns.map .int), .int k] h Q := ⟨(n, hd, ns, k), rfl, ⟨n0, n1, k0⟩, by rintro _ _ ⟨p, hp, rfl, rfl⟩; exact q p hp⟩
/-! ### a weighing -/
structure BtOk (wd : Nat) (n : Int) (w : List Pc) : Prop where
  cn : Cn w
  wt : ∀ p ∈ w, p.2.length = wd
  len : w.length ≤ 10
  long : lenP w = n
def e_bweighing_1 : E3 :=
  (tK (.int 1))
def e_bweighing_2 : E3 :=
  (tO subR (tCall3 sp_btake (tC3 (tV 9) (tC3 (tV 6) tN3))) (tO divR (tV 6) (tK (.int 3))))
def b_bweighing_1 : C3 :=
  (cSeq (cAsg (tNew (tC3 (tCall3 sp_big (tC3 (tV 2) (tC3 (tO addR (tV 3) (tV 8)) tN3))) tN3)) (gN 9))
    (cSeq (cAsg (tB3 tupX (tLc3 (iRng (tC3 (tV 5) tN3)) (gN 13) bYes e_bweighing_2 [13])) (gN 10))
    (cSeq (cAsg (tCall3 sp_btake (tC3 (tV 9) (tC3 (tO addR (tO ixR (tO ixR (tV 7) (tU negR (tK (.int 1)))) (tK (.int 0))) (tK (.int 1))) tN3))) (gN 11))
    (cAsg (tO addR (tSl3 (tV 7) oNo (oSo (tU negR (tK (.int 1))))) (tNew (tC3 (tTup3 (tC3 (tV 11) (tC3 (tV 10) tN3))) (tC3 (tTup3 (tC3 (tO subR (tO ixR (tO ixR (tV 7) (tU negR (tK (.int 1)))) (tK (.int 0))) (tV 11)) (tC3 (tO ixR (tO ixR (tV 7) (tU negR (tK (.int 1)))) (tK (.int 1))) tN3))) tN3)))) (gN 7)))))
def b_bweighing_2 : C3 :=
  (cIf (tAnd3 (tT (tO gtR (tV 11) (tK (.int 0)))) (tAnd3 (tT (tOX (eqX true) (tV 12) tN3)) (tT (tO eqR (tO ixR (tO ixR (tV 12) (tU negR (tK (.int 1)))) (tK (.int 1))) (tV 10))))) (cAsg (tTup3 (tC3 (tO addR (tO ixR (tO ixR (tV 12) (tU negR (tK (.int 1)))) (tK (.int 0))) (tV 11)) (tC3 (tV 10) tN3))) (gSub3 (tV 12) (tU negR (tK (.int 1))))) (cIf (tT (tO gtR (tV 11) (tK (.int 0)))) (cDrop (tLM appT (tV 12) (tC3 (tTup3 (tC3 (tV 11) (tC3 (tV 10) tN3))) tN3))) cNext))
def t_bweighing : C3 :=
  (cSeq (cAsg (tNew (tC3 (tV 1) tN3)) (gN 4))
    (cSeq (cAsg (tIxX (tC3 (tK (.int 1)) (tC3 (tK (.int 2)) (tC3 (tK (.int 3)) (tC3 (tK (.int 1)) (tC3 (tK (.int 2)) (tC3 (tK (.int 3)) (tC3 (tK (.int 5)) (tC3 (tK (.int 24)) tN3)))))))) (tCall3 sp_btake (tC3 (tV 4) (tC3 (tK (.int 8)) tN3)))) (gN 5))
    (cSeq (cAsg (tIxX (tC3 (tK (.int 7)) (tC3 (tK (.int 7)) (tC3 (tK (.int 4)) (tC3 (tO powR (tK (.int 10)) (tK (.int 30))) tN3)))) (tCall3 sp_btake (tC3 (tV 4) (tC3 (tK (.int 4)) tN3)))) (gN 6))
    (cSeq (cAsg (tNew (tC3 (tTup3 (tC3 (tV 0) (tC3 (tB3 tupX (tLc3 (iRng (tC3 (tV 5) tN3)) (gN 13) bYes e_bweighing_1 [13])) tN3))) tN3)) (gN 7))
    (cSeq (cFor (iRng (tC3 (tCall3 sp_btake (tC3 (tV 4) (tC3 (tK (.int 7)) tN3))) tN3)) (gN 8) b_bweighing_1)
    (cSeq (cAsg (tNew tN3) (gN 12))
    (cSeq (cFor (iSeq (tV 7)) (gTup3 2 (gCons3 (gN 11) (gCons3 (gN 10) gNil3))) b_bweighing_2)
    (cRet (tV 12)))))))))

def sp_bweighing : Sp3 := spR (fun (a : Int × Int × List Int × Int) => [.int a.1, .int a.2.1, .fl (a.2.2.1.map .int), .int a.2.2.2]) (fun a _ => 0 ≤ a.1 ∧ a.1 < 2 ^ 1000 ∧ 0 ≤ a.2.2.2) (fun a h d h' => ∃ (wd : Nat) (w : List Pc), 1 ≤ wd ∧ wd ≤ 24 ∧ BtOk wd a.1 w ∧ d = .ref h.length ∧ h' = h ++ [.lst (w.map pcD)])
theorem mono_bweighing : MonoS sp_bweighing := mono_spR
theorem len_bweighing : ∀ ds h Q E, sp_bweighing ds h Q E → ds.length = 4 := len_spR fun _ => rfl
theorem cutL {x : D} {xs : List D} : cutD (xs ++ [x]) none (some (-1)) = xs := by
  have e1 : HT.sIx (xs ++ [x]).length 0 none = 0 := rfl
  have e2 : HT.sIx (xs ++ [x]).length (xs ++ [x]).length (some (-1)) = xs.length := by
    simp [HT.sIx]
    omega
  unfold cutD
  rw [e1, e2]
  simp
theorem eqX_ps {h : Sto} {n : Nat} {w : List Pc} {Q : DK} (e : h[n]? = some (.lst (w.map pcD))) : eqX true (.ref n) [] h Q = Q (.bl (!decide (w = []))) h := by
  have t1 : toP h 9 (.ref n) = some (.list (w.map pcP)) := toP_lst (k := 8) e (toP_pcsX (k := 5))
  unfold eqX
  rw [t1, List.mapM_nil]
  cases w with
  | nil => rfl
  | cons a r => rfl
theorem ixN_lastB {n : Nat} : ixN (n + 1) (-1) = some n := by
  unfold ixN
  rw [if_neg (by omega)]
  simp
  omega
theorem set_lastB {α : Type} {xs : List α} {x y : α} : (xs ++ [x]).set xs.length y = xs ++ [y] := by rw [List.set_append_right _ _ (Nat.le_refl _), Nat.sub_self]; rfl
theorem shp_wts {m : Nat} {ps : List Pc} (h : ∀ p ∈ ps, p.2.length = m) : ∀ p ∈ shp ps, p.2.length = m := fun p hp => by
  obtain ⟨q, hq, e⟩ := mem_shp hp
  rw [← e]; exact h q hq
theorem shp_snoc (l : List Pc) (p : Pc) : shp (l ++ [p]) = shStep (shp l) p := by simp [shp]
theorem rd_bweighing : ∀ ds h Q E, ClS h.length h → ClDs h.length ds → sp_bweighing ds h Q E → t_bweighing (ends3 (GQ h.length Q)) (start3 14 ds) h := by
  rintro ds h Q E hcl _ ⟨⟨n, hd, ns, k⟩, rfl, ⟨n0, n1, k0⟩, q⟩
  have n0' : 0 ≤ n := n0
  have n1' : n < 2 ^ 1000 := n1
  have k0' : 0 ≤ k := k0
  have q' : ∀ (wd : Nat) (w : List Pc), 1 ≤ wd → wd ≤ 24 → BtOk wd n w → Q (.ref h.length) (h ++ [.lst (w.map pcD)]) := fun wd w h1 h2 h3 => q _ _ ⟨wd, w, h1, h2, h3, rfl, rfl⟩
  clear q n0 n1 k0
  try simp only [↓tV_q, ↓tK_q, ↓tN3_q, ↓tC3_q, ↓tNew_q, ↓cSeq_q, ↓cAsg_q, ↓gN_q, ↓tCall3_q, ↓tIxX_q, ↓start3_q, thenE_nx, onO_some, List.getElem?_cons_zero, List.getElem?_cons_succ, List.set_cons_zero, List.set_cons_succ, List.map_cons, List.map_nil, List.cons_append, List.nil_append, List.length_cons, List.length_nil, List.replicate_succ, List.replicate_zero, Nat.reduceAdd, Nat.reduceSub, t_bweighing]
  refine btake_q get_new (by decide) (by decide) fun x way w0 w1 => ?_
  rw [set_app0]
  refine atT_all w0 (by simpa using w1) fun y hy => ?_
  have hy : ∃ wd : Nat, y = .int (wd : Int) ∧ 1 ≤ wd ∧ wd ≤ 24 := by
    simp only [List.mem_cons, List.not_mem_nil, or_false] at hy
    rcases hy with rfl | rfl | rfl | rfl | rfl | rfl | rfl | rfl
    · exact ⟨1, rfl, by decide, by decide⟩
    · exact ⟨2, rfl, by decide, by decide⟩
    · exact ⟨3, rfl, by decide, by decide⟩
    · exact ⟨1, rfl, by decide, by decide⟩
    · exact ⟨2, rfl, by decide, by decide⟩
    · exact ⟨3, rfl, by decide, by decide⟩
    · exact ⟨5, rfl, by decide, by decide⟩
    · exact ⟨24, rfl, by decide, by decide⟩
  obtain ⟨wd, rfl, wd0, wd1⟩ := hy
  try simp only [↓tV_q, ↓tK_q, ↓tO_q, ↓tN3_q, ↓tC3_q, ↓cSeq_q, ↓cAsg_q, ↓gN_q, ↓tCall3_q, ↓tIxX_q, ↓powR_ii_q, thenE_nx, onO_some, List.getElem?_cons_zero, List.getElem?_cons_succ, List.set_cons_zero, List.set_cons_succ, true_and, Int.reduceLE]
  refine ⟨by decide, ?_⟩
  refine btake_q get_new (by decide) (by decide) fun x2 hw hw0 hw1 => ?_
  rw [set_app0]
  refine atT_all hw0 (by simpa using hw1) fun y hy => ?_
  have hy : ∃ hg : Int, y = .int hg ∧ 0 < hg ∧ hg < 2 ^ 200 := by
    simp only [List.mem_cons, List.not_mem_nil, or_false] at hy
    rcases hy with rfl | rfl | rfl | rfl
    all_goals exact ⟨_, rfl, by decide, by decide⟩
  obtain ⟨hg, rfl, hg0, hg1⟩ := hy
  try simp only [↓tV_q, ↓tN3_q, ↓tC3_q, ↓tTup3_q, ↓tNew_q, ↓cSeq_q, ↓cAsg_q, ↓gN_q, ↓iRng_q, ↓rngD_1q, ↓tLc3_q, ↓tB3_q, thenE_nx, onO_some, wipe3_nil, wipe3_cons, List.getElem?_cons_zero, List.getElem?_cons_succ, List.set_cons_zero, List.set_cons_succ]
  rw [Int.toNat_natCast]
  refine ⟨by omega, by simp; omega, lcMap (f := fun (k : Nat) => D.int (k : Int)) (r := fun _ => D.int 1) trivial ?_ fun j _ Q q => ?_⟩
  rotate_left
  · try simp only [↓tK_q, ↓gN_q, e_bweighing_1]
    exact q
  try simp only [↓tV_q, ↓tK_q, ↓tN3_q, ↓tC3_q, ↓cSeq_q, ↓gN_q, ↓cFor_q, ↓iRng_q, ↓tCall3_q, ↓tupX_q, thenE_nx, onO_some, List.getElem?_cons_zero, List.getElem?_cons_succ, List.set_cons_zero, List.set_cons_succ]
  refine btake_q get_new2 (by decide) (by decide) fun x3 m m0 m1 => ?_
  rw [set_new, List.append_assoc, show List.length (h ++ [Cell.lst [D.int x2]]) = h.length + 1 by simp]
  try simp only [↓tN3_q, ↓rngD_1q, List.cons_append, List.nil_append]
  have e1 : D.tup [D.int n, D.tup (List.map (fun x => D.int 1) (List.range wd))] = pcD (n, (List.range wd).map fun _ => 1) := by
    simp [pcD, wtD]
  rw [e1]
  refine ⟨by omega, ?_⟩
  refine forL (f := fun (j : Nat) => D.int (j : Int)) (fun l ρ h' => ∃ (G : Sto) (p : Nat) (ps : List Pc) (o8 o9 o10 o11 o12 o13 : Option D), ps ≠ [] ∧ NN ps ∧ lenP ps = n ∧ (∀ q ∈ ps, q.2.length = wd) ∧ ps.length ≤ 1 + l.length ∧ G[p]? = some (.lst (ps.map pcD)) ∧ ρ = [some (.int n), some (.int hd), some (.fl (ns.map .int)), some (.int k), some (.ref h.length), some (.int (wd : Int)), some (.int hg), some (.ref (h.length + p)), o8, o9, o10, o11, o12, o13] ∧ h' = h ++ G)
    ⟨_, 1, [(n, (List.range wd).map fun _ => 1)], _, _, _, _, _, _, by simp, (fun q hq => by rw [List.mem_singleton.mp hq]; exact n0'), by simp [lenP], (fun q hq => by rw [List.mem_singleton.mp hq]; simp), by simp, rfl, rfl, rfl⟩ (fun _ _ _ _ => trivial) ?_ ?_
  · rintro ρ h' ⟨G, p, ps, o8, o9, o10, o11, o12, o13, pn, nn, ln, wl, pl, gp, rfl, rfl⟩
    rw [List.length_range] at pl
    try simp only [↓tV_q, ↓tN3_q, ↓tNew_q, ↓cSeq_q, ↓cAsg_q, ↓gN_q, ↓cFor_q, ↓iSeq_q, ↓iSeqD_rq, thenE_nx, onO_some, List.getElem?_cons_zero, List.getElem?_cons_succ, List.set_cons_zero, List.set_cons_succ]
    have gp2 : (h ++ G)[h.length + p]? = some (.lst (ps.map pcD)) := by rw [get_app]; exact gp
    have fin : ∀ (w : List Pc), BtOk wd n w → GQ h.length Q (.ref (h ++ G).length) ((h ++ G) ++ [.lst (w.map pcD)]) := fun w hw => by
      have g1 := gq_one (k := G.length) (n := h.length) (g := G ++ [.lst (w.map pcD)]) rfl (by simp) cl_pcs hcl (q' wd w wd0 wd1 hw)
      rw [List.length_append, List.append_assoc]
      exact g1
    generalize h ++ G = S at *
    try simp only [onC_q, get_up gp2]
    refine forL (fun l ρ h' => ∃ (o10 o11 : Option D), ρ = [some (.int n), some (.int hd), some (.fl (ns.map .int)), some (.int k), some (.ref h.length), some (.int (wd : Int)), some (.int hg), some (.ref (h.length + p)), o8, o9, o10, o11, some (.ref S.length), o13] ∧ h' = S ++ [.lst ((shp l).map pcD)]) ⟨_, _, rfl, rfl⟩ ?_ ?_ ?_
    · rintro l ρ h' ⟨o10, o11, _, rfl⟩
      exact get_up gp2
    · rintro ρ h' ⟨o10, o11, rfl, rfl⟩
      try simp only [↓tV_q, ↓cRet_q, thenE_nx, ends3_rt, onO_some, List.getElem?_cons_zero, List.getElem?_cons_succ]
      exact fin _ ⟨cn_shp ps, shp_wts wl, Nat.le_trans (shp_len ps) (by omega), (len_shp nn).trans ln⟩
    · rintro l x r ρ h' F e ⟨o10, o11, rfl, rfl⟩ hF
      have el := congrArg List.length e
      rw [List.length_append, List.length_cons] at el
      have sl := shp_len l
      rw [shp_snoc] at hF
      have hF2 : ∀ o10 o11, F [some (.int n), some (.int hd), some (.fl (ns.map .int)), some (.int k), some (.ref h.length), some (.int (wd : Int)), some (.int hg), some (.ref (h.length + p)), o8, o9, o10, o11, some (.ref S.length), o13] (S ++ [.lst ((shStep (shp l) x).map pcD)]) := fun o10 o11 => hF _ _ ⟨o10, o11, rfl, rfl⟩
      clear hF
      generalize shp l = acc at *
      try simp only [↓tV_q, ↓tK_q, ↓tO_q, ↓tT_q, ↓tAnd3_q, ↓cIf_q, ↓gtR_ii_q, ↓gTup_pc, onO_some, onB_bl, List.getElem?_cons_zero, List.getElem?_cons_succ, List.set_cons_zero, List.set_cons_succ, b_bweighing_2]
      by_cases hx : 0 < x.1
      · have dx : decide (0 < x.1) = true := by simp [hx]
        rcases List.eq_nil_or_concat acc with rfl | ⟨acc0, y, rfl⟩
        · have es : shStep [] x = [x] := by simp [shStep, hx]
          rw [es] at hF2
          try simp only [↓tV_q, ↓tT_q, ↓tAnd3_q, ↓tN3_q, ↓tOX_q, onO_some, ifC_true, List.getElem?_cons_zero, List.getElem?_cons_succ, List.map_nil, dx]
          rw [eqX_ps (h := S ++ [Cell.lst []]) (w := []) get_new]
          try simp only [↓tV_q, ↓tK_q, ↓tO_q, ↓tT_q, ↓tN3_q, ↓tC3_q, ↓tTup3_q, ↓cDrop_q, ↓cIf_q, ↓tLM_q, ↓lmD_q, ↓appT_q, ↓gtR_ii_q, loopE_nx, onO_some, onB_bl, ifC_true, ifC_false, onC_q, List.getElem?_cons_zero, List.getElem?_cons_succ, List.nil_append, List.length_nil, Nat.reduceLT, true_and, Bool.not_true, decide_true, dx, get_new, set_app0]
          exact hF2 _ _
        · rw [List.concat_eq_append] at *
          have g3 : (S ++ [Cell.lst ((acc0 ++ [y]).map pcD)])[S.length]? = some (.lst (acc0.map pcD ++ [pcD y])) := by rw [get_new, List.map_append]; rfl
          have en : (!decide (acc0 ++ [y] = [])) = true := by simp
          try simp only [↓tV_q, ↓tT_q, ↓tAnd3_q, ↓tN3_q, ↓tOX_q, onO_some, ifC_true, List.getElem?_cons_zero, List.getElem?_cons_succ, dx]
          rw [eqX_ps (w := acc0 ++ [y]) get_new]
          try simp only [↓tV_q, ↓tK_q, ↓tO_q, ↓tU_q, ↓tT_q, ↓negR_i_q, ↓ixR_rq, ↓ix_pc1, ↓eqR_wt, onO_some, onB_bl, ifC_true, onC_q, atT_last, List.getElem?_cons_zero, List.getElem?_cons_succ, Int.reduceNeg, en, g3]
          have il : (acc0.map pcD ++ [pcD y]).length = (acc0.map pcD).length + 1 := by simp
          refine ifC_of (fun hc => ?_) (fun hc => ?_)
          · have hc' : y.2 = x.2 := by simpa using hc
            have es : shStep (acc0 ++ [y]) x = acc0 ++ [(y.1 + x.1, x.2)] := by simp [shStep, hx, hc']
            rw [es] at hF2
            try simp only [↓tV_q, ↓tK_q, ↓tO_q, ↓tU_q, ↓tN3_q, ↓tC3_q, ↓tTup3_q, ↓cAsg_q, ↓gSub3_q, ↓setR_q, ↓addR_ii_q, ↓negR_i_q, ↓ixR_rq, ↓ix_pc0, loopE_nx, onO_some, onC_q, onN_q, atT_last, List.getElem?_cons_zero, List.getElem?_cons_succ, Int.reduceNeg, g3, il, ixN_lastB]
            rw [set_lastB, set_lastB]
            have := hF2 (some (wtD x.2)) (some (.int x.1))
            rw [List.map_append] at this
            exact this
          · have hc' : ¬ y.2 = x.2 := by simpa using hc
            have es : shStep (acc0 ++ [y]) x = acc0 ++ [y] ++ [x] := by simp [shStep, hx, hc']
            rw [es] at hF2
            try simp only [↓tV_q, ↓tK_q, ↓tO_q, ↓tT_q, ↓tN3_q, ↓tC3_q, ↓tTup3_q, ↓cDrop_q, ↓cIf_q, ↓tLM_q, ↓lmD_q, ↓appT_q, ↓gtR_ii_q, loopE_nx, onO_some, onB_bl, ifC_true, onC_q, List.getElem?_cons_zero, List.getElem?_cons_succ, dx, g3]
            rw [set_app0]
            have := hF2 (some (wtD x.2)) (some (.int x.1))
            rw [List.map_append, List.map_append] at this
            refine ⟨by simp at sl ⊢; omega, this⟩
      · have dx : decide (0 < x.1) = false := by simp [hx]
        have es : shStep acc x = acc := by simp [shStep, hx]
        rw [es] at hF2
        try simp only [↓tV_q, ↓tK_q, ↓tO_q, ↓tT_q, ↓cNext_q, ↓cIf_q, ↓gtR_ii_q, loopE_nx, onO_some, onB_bl, ifC_false, List.getElem?_cons_zero, List.getElem?_cons_succ, dx]
        exact hF2 _ _
  · rintro l j r ρ h' F e ⟨G, p, ps, o8, o9, o10, o11, o12, o13, pn, nn, ln, wl, pl, gp, rfl, rfl⟩ hF
    obtain ⟨ps0, a, rfl⟩ : ∃ ps0 a, ps = ps0 ++ [a] := (List.eq_nil_or_concat ps).elim (fun z => absurd z pn) fun ⟨a, b, e⟩ => ⟨a, b, by rw [e, List.concat_eq_append]⟩
    rw [List.map_append] at gp
    have gp2 : (h ++ G)[h.length + p]? = some (.lst (ps0.map pcD ++ [pcD a])) := by rw [get_app]; exact gp
    try simp only [↓tV_q, ↓tO_q, ↓tN3_q, ↓tC3_q, ↓tNew_q, ↓cSeq_q, ↓cAsg_q, ↓gN_q, ↓tCall3_q, ↓addR_ii_q, onO_some, List.getElem?_cons_zero, List.getElem?_cons_succ, List.set_cons_zero, List.set_cons_succ, b_bweighing_1]
    refine big_q (by omega) fun b b0 => ?_
    try simp only [↓tV_q, ↓tN3_q, ↓tC3_q, ↓cSeq_q, ↓cAsg_q, ↓gN_q, ↓iRng_q, ↓rngD_1q, ↓tLc3_q, ↓tB3_q, thenE_nx, onO_some, wipe3_nil, wipe3_cons, List.getElem?_cons_zero, List.getElem?_cons_succ, List.set_cons_zero, List.set_cons_succ]
    generalize hS : h ++ G = S at *
    refine ⟨by omega, by simp; omega, ?_⟩
    rw [Int.toNat_natCast]
    refine lcL (f := fun (k : Nat) => D.int (k : Int)) (fun l acc h' => ∃ (vs : List Int) (b : Int), vs.length = l.length ∧ acc = vs.map .int ∧ h' = S ++ [.lst [.int b]]) ⟨[], b, rfl, rfl, rfl⟩ (fun _ _ _ _ => trivial) ?_ ?_
    · rintro acc h' ⟨vs, b, vl, rfl, rfl⟩
      rw [List.length_range] at vl
      try simp only [↓tV_q, ↓tK_q, ↓tO_q, ↓tU_q, ↓tN3_q, ↓tC3_q, ↓cSeq_q, ↓cAsg_q, ↓gN_q, ↓tCall3_q, ↓tupX_q, ↓addR_ii_q, ↓negR_i_q, ↓ixR_rq, ↓ix_pc0, thenE_nx, onO_some, onC_q, atT_last, List.getElem?_cons_zero, List.getElem?_cons_succ, List.set_cons_zero, List.set_cons_succ, Int.reduceNeg, get_up gp2]
      have a0 := nn a (by simp)
      have ll : lenP ps0 + a.1 = n := by rw [lenP_app, lenP_cons, lenP_nil] at ln; omega
      have lp := lenP_nn (w := ps0) fun q hq => nn q (List.mem_append_left _ hq)
      refine btake_q get_new (by omega) (Int.lt_of_le_of_lt (show a.1 + 1 ≤ 2 ^ 1000 by omega) (by decide)) fun x' r r0 r1 => ?_
      rw [set_app0]
      try simp only [↓tV_q, ↓tK_q, ↓tO_q, ↓tU_q, ↓tN3_q, ↓tC3_q, ↓tTup3_q, ↓tNew_q, ↓cAsg_q, ↓gN_q, ↓tSl3_q, ↓oNo_q, ↓oSo_q, ↓addR_rq, ↓subR_ii_q, ↓negR_i_q, ↓ixR_rq, ↓slR_rq, ↓ix_pc0, ↓ix_pc1, thenE_nx, onO_some, onI_int, onC_q, atT_last, List.getElem?_cons_zero, List.getElem?_cons_succ, List.set_cons_zero, List.set_cons_succ, Int.reduceNeg, get_up gp2, cutL, get_up (get_up gp2), get_up (get_up (get_up gp2))]
      rw [cutL]
      try simp only [↓gN_q, loopE_nx, onC_q, List.set_cons_zero, List.set_cons_succ, List.length_cons, List.length_nil, Nat.reduceAdd, Nat.reduceLeDiff, get_new2, get_new]
      subst hS
      have el := congrArg List.length e
      rw [List.length_range, List.length_append, List.length_cons] at el
      refine ⟨by simp at pl ⊢; omega, ?_⟩
      rw [show List.length (h ++ G ++ [Cell.lst [D.int x']] ++ [Cell.lst (List.map pcD ps0)] ++ [Cell.lst [D.tup [D.int r, D.tup (List.map D.int vs)], D.tup [D.int (a.fst - r), wtD a.snd]]]) = h.length + (G.length + 3) by simp,
        show h ++ G ++ [Cell.lst [D.int x']] ++ [Cell.lst (List.map pcD ps0)] ++ [Cell.lst [D.tup [D.int r, D.tup (List.map D.int vs)], D.tup [D.int (a.fst - r), wtD a.snd]]] ++ [Cell.lst (List.map pcD ps0 ++ [D.tup [D.int r, D.tup (List.map D.int vs)], D.tup [D.int (a.fst - r), wtD a.snd]])] = h ++ (G ++ [Cell.lst [D.int x'], Cell.lst (List.map pcD ps0), Cell.lst [D.tup [D.int r, D.tup (List.map D.int vs)], D.tup [D.int (a.fst - r), wtD a.snd]], Cell.lst (List.map pcD ps0 ++ [D.tup [D.int r, D.tup (List.map D.int vs)], D.tup [D.int (a.fst - r), wtD a.snd]])]) by simp]
      refine hF _ _ ⟨_, G.length + 3, ps0 ++ [(r, vs), (a.1 - r, a.2)], _, _, _, _, _, _, by simp, fun q hq => ?_, ?_, fun q hq => ?_, ?_, ?_, rfl, rfl⟩
      · rcases List.mem_append.mp hq with hq | hq
        · exact nn q (List.mem_append_left _ hq)
        · simp only [List.mem_cons, List.not_mem_nil, or_false] at hq
          rcases hq with rfl | rfl
          · exact r0
          · show 0 ≤ a.1 - r; omega
      · rw [lenP_app, lenP_cons, lenP_cons, lenP_nil]
        show lenP ps0 + (r + (a.1 - r + 0)) = n
        omega
      · rcases List.mem_append.mp hq with hq | hq
        · exact wl q (List.mem_append_left _ hq)
        · simp only [List.mem_cons, List.not_mem_nil, or_false] at hq
          rcases hq with rfl | rfl
          · exact vl
          · exact wl a (by simp)
      · simp at pl ⊢; omega
      · rw [List.getElem?_append_right (by omega), Nat.add_sub_cancel_left, List.map_append]; rfl
    · rintro l2 x2 r2 acc h' F2 e2 ⟨vs, b, vl, rfl, rfl⟩ hF2
      try simp only [↓tV_q, ↓tO_q, ↓tN3_q, ↓tC3_q, ↓gN_q, ↓bYes_q, ↓tCall3_q, onO_some, ifC_true, List.getElem?_cons_zero, List.getElem?_cons_succ, List.set_cons_zero, List.set_cons_succ, e_bweighing_2]
      refine btake_q get_new hg0 (by omega) fun x' r r0 r1 => ?_
      rw [set_app0]
      try simp only [↓tV_q, ↓tK_q, ↓tO_q, ↓subR_ii_q, ↓divR_ii_q, onO_some, List.getElem?_cons_zero, List.getElem?_cons_succ]
      refine ⟨divOk_of (by decide) (by decide), hF2 _ _ ⟨vs ++ [r - hg / 3], x', by simp [vl], by simp, rfl⟩⟩
theorem bweighing_q {n hd k : Int} {ns : List Int} {h : Sto} {Q : DK} (n0 : 0 ≤ n) (n1 : n < 2 ^ 1000) (k0 : 0 ≤ k) (q : ∀ (wd : Nat) (w : List Pc), 1 ≤ wd → wd ≤ 24 → BtOk wd n w → Q (.ref h.length) (h ++ [.lst (w.map pcD)])) : callS sp_bweighing [.int n, .int hd, .fl (ns.map .int), .int k] h Q := ⟨(n, hd, ns, k), rfl, ⟨n0, n1, k0⟩, by rintro _ _ ⟨wd, w, h1, h2, h3, rfl, rfl⟩; exact q wd w h1 h2 h3⟩
end F3
set_option maxHeartbeats 400000
/-! DB: halls of the laws of deeds. -/
namespace F3
open PySem PySem.Spec PyProof.Rows L2
def b_bhall_1 : C3 :=
  (cDrop (tLM appT (tV 7) (tC3 (tCall3 sp_bpairing (tC3 (tV 4) (tC3 (tCall3 sp_btake (tC3 (tV 2) (tC3 (tK (.int 16)) tN3))) (tC3 (tV 0) (tC3 (tO addR (tO addR (tV 1) (tK (.int 8))) (tO modR (tO mulR (tV 8) (tK (.int 3))) (tK (.int 29)))) tN3))))) tN3)))
def r_bhall_2 : C3 :=
  (cSeq (cAsg (tCall3 sp_bweighing (tC3 (tV 4) (tC3 (tCall3 sp_btake (tC3 (tV 2) (tC3 (tK (.int 1000)) tN3))) (tC3 (tV 0) (tC3 (tO addR (tV 1) (tK (.int 2))) tN3))))) (gN 6))
    (cSeq (cAsg (tNew tN3) (gN 7))
    (cSeq (cFor (iRng (tC3 (tO mulR (tV 5) (tB3 intR (tC3 (tO gtR (tV 4) (tK (.int 0))) tN3))) tN3)) (gN 8) b_bhall_1)
    (cRet (tTup3 (tC3 (tV 4) (tC3 (tV 7) (tC3 (tV 6) tN3))))))))
def r_bhall_1 : C3 :=
  (cSeq (cIf (tT (tO gtR (tV 3) (tK (.int 5)))) (cAsg (tO modR (tV 5) (tK (.int 6))) (gN 5)) cNext)
    r_bhall_2)
def t_bhall : C3 :=
  (cSeq (cAsg (tNew (tC3 (tCall3 sp_big (tC3 (tV 0) (tC3 (tV 1) tN3))) tN3)) (gN 2))
    (cSeq (cAsg (tCall3 sp_btake (tC3 (tV 2) (tC3 (tK (.int 8)) tN3))) (gN 3))
    (cSeq (cAsg (tO modR (tCall3 sp_big (tC3 (tV 0) (tC3 (tO addR (tV 1) (tK (.int 1))) tN3))) (tIxX (tC3 (tK (.int 13)) (tC3 (tK (.int 25)) (tC3 (tK (.int 25)) (tC3 (tK (.int 25)) (tC3 (tK (.int 151)) (tC3 (tK (.int 151)) (tC3 (tO powR (tK (.int 10)) (tK (.int 20))) (tC3 (tO powR (tK (.int 10)) (tK (.int 60))) tN3)))))))) (tV 3))) (gN 4))
    (cSeq (cAsg (tIxX (tC3 (tCall3 sp_btake (tC3 (tV 2) (tC3 (tK (.int 5)) tN3))) (tC3 (tCall3 sp_btake (tC3 (tV 2) (tC3 (tK (.int 9)) tN3))) (tC3 (tK (.int 3)) (tC3 (tCall3 sp_btake (tC3 (tV 2) (tC3 (tK (.int 17)) tN3))) tN3)))) (tCall3 sp_btake (tC3 (tV 2) (tC3 (tK (.int 4)) tN3)))) (gN 5))
    (cSeq (cIf (tT (tO eqR (tCall3 sp_btake (tC3 (tV 2) (tC3 (tK (.int 8)) tN3))) (tK (.int 5)))) (cAsg (tO addR (tK (.int 20)) (tCall3 sp_btake (tC3 (tV 2) (tC3 (tK (.int 43)) tN3)))) (gN 5)) cNext)
    r_bhall_1)))))

def HallOk (n : Nat) (prs : List P4) (w : List Pc) : Prop := n < 10 ^ 60 ∧ prs.length ≤ 64 ∧ (∀ q ∈ prs, PrIn (n : Int) q) ∧ ∃ wd, 1 ≤ wd ∧ wd ≤ 24 ∧ BtOk wd n w
def sp_bhall : Sp3 := spR (fun (a : List Int × Int) => [.fl (a.1.map .int), .int a.2]) (fun a _ => 0 ≤ a.2) (fun a h d h' => ∃ (n : Nat) (prs : List P4) (w : List Pc) (i j : Nat) (g : Sto), HallOk n prs w ∧ g[i]? = some (.lst (prs.map p4D)) ∧ g[j]? = some (.lst (w.map pcD)) ∧ d = hallD n (h.length + i) (h.length + j) ∧ h' = h ++ g)
theorem mono_bhall : MonoS sp_bhall := mono_spR
theorem len_bhall : ∀ ds h Q E, sp_bhall ds h Q E → ds.length = 2 := len_spR fun _ => rfl
theorem bhall_q {k : Int} {ns : List Int} {h : Sto} {Q : DK} (k0 : 0 ≤ k) (q : ∀ (n : Nat) (prs : List P4) (w : List Pc) (i j : Nat) (g : Sto), HallOk n prs w → g[i]? = some (.lst (prs.map p4D)) → g[j]? = some (.lst (w.map pcD)) → Q (hallD n (h.length + i) (h.length + j)) (h ++ g)) : callS sp_bhall [.fl (ns.map .int), .int k] h Q := ⟨(ns, k), rfl, k0, by rintro _ _ ⟨n, prs, w, i, j, g, h1, h2, h3, rfl, rfl⟩; exact q n prs w i j g h1 h2 h3⟩
theorem rd_bhall : ∀ ds h Q E, ClS h.length h → ClDs h.length ds → sp_bhall ds h Q E → t_bhall (ends3 (GQ h.length Q)) (start3 9 ds) h := by
  rintro ds h Q E hcl _ ⟨⟨ns, k⟩, rfl, k0, q⟩
  have k0' : 0 ≤ k := k0
  have q' : ∀ (n : Nat) (prs : List P4) (w : List Pc) (i j : Nat) (g : Sto), HallOk n prs w → g[i]? = some (.lst (prs.map p4D)) → g[j]? = some (.lst (w.map pcD)) → Q (hallD n (h.length + i) (h.length + j)) (h ++ g) := fun n prs w i j g h1 h2 h3 => q _ _ ⟨n, prs, w, i, j, g, h1, h2, h3, rfl, rfl⟩
  clear q k0
  try simp only [↓tV_q, ↓tN3_q, ↓tC3_q, ↓tNew_q, ↓cSeq_q, ↓cAsg_q, ↓tCall3_q, ↓start3_q, onO_some, List.getElem?_cons_zero, List.getElem?_cons_succ, List.map_cons, List.map_nil, List.cons_append, List.nil_append, List.length_cons, List.length_nil, List.replicate_succ, List.replicate_zero, Nat.reduceAdd, Nat.reduceSub, t_bhall]
  refine big_q k0' fun b b0 => ?_
  try simp only [↓tV_q, ↓tK_q, ↓tN3_q, ↓tC3_q, ↓cSeq_q, ↓cAsg_q, ↓gN_q, ↓tCall3_q, ↓start3_q, thenE_nx, onO_some, List.getElem?_cons_zero, List.getElem?_cons_succ, List.set_cons_zero, List.set_cons_succ, List.map_cons, List.map_nil, List.cons_append, List.nil_append, List.length_cons, List.length_nil, List.replicate_succ, List.replicate_zero, Nat.reduceAdd, Nat.reduceSub]
  refine btake_q get_new (by decide) (by decide) fun x way w0 w1 => ?_
  rw [set_app0]
  try simp only [↓tV_q, ↓tK_q, ↓tO_q, ↓tN3_q, ↓tC3_q, ↓cSeq_q, ↓cAsg_q, ↓gN_q, ↓tCall3_q, ↓addR_ii_q, thenE_nx, onO_some, List.getElem?_cons_zero, List.getElem?_cons_succ, List.set_cons_zero, List.set_cons_succ]
  refine big_q (by omega) fun b2 b20 => ?_
  try simp only [↓tV_q, ↓tK_q, ↓tO_q, ↓tN3_q, ↓tC3_q, ↓tIxX_q, ↓powR_ii_q, onO_some, onI_int, List.getElem?_cons_zero, List.getElem?_cons_succ, true_and, Int.reduceLE]
  refine ⟨by decide, by decide, ?_⟩
  refine atT_all w0 (by simpa using w1) fun y hy => ?_
  have hy : ∃ m : Int, y = .int m ∧ 0 < m ∧ m ≤ 10 ^ 60 := by
    simp only [List.mem_cons, List.not_mem_nil, or_false] at hy
    rcases hy with rfl | rfl | rfl | rfl | rfl | rfl | rfl | rfl
    all_goals exact ⟨_, rfl, by decide, by decide⟩
  obtain ⟨m, rfl, m0, m1⟩ := hy
  have n0 := Int.emod_nonneg b2 (b := m) (by omega)
  have n1 := Int.emod_lt_of_pos b2 m0
  try simp only [↓tV_q, ↓tK_q, ↓tN3_q, ↓tC3_q, ↓cSeq_q, ↓cAsg_q, ↓gN_q, ↓tCall3_q, ↓tIxX_q, ↓modR_ii_q, thenE_nx, onO_some, List.getElem?_cons_zero, List.getElem?_cons_succ, List.set_cons_zero, List.set_cons_succ]
  obtain ⟨n, en⟩ : ∃ n : Nat, b2 % m = (n : Int) := ⟨(b2 % m).toNat, by omega⟩
  rw [en]
  have nb : n < 10 ^ 60 := by omega
  refine ⟨m0, ?_⟩
  refine btake_q get_new (by decide) (by decide) fun x u u0 u1 => ?_
  rw [set_app0]
  try simp only [↓tV_q, ↓tK_q, ↓tN3_q, ↓tC3_q, ↓tCall3_q, onO_some, List.getElem?_cons_zero, List.getElem?_cons_succ]
  refine btake_q get_new (by decide) (by decide) fun x v v0 v1 => ?_
  rw [set_app0]
  try simp only [↓tV_q, ↓tK_q, ↓tN3_q, ↓tC3_q, ↓tCall3_q, onO_some, List.getElem?_cons_zero, List.getElem?_cons_succ]
  refine btake_q get_new (by decide) (by decide) fun x z z0 z1 => ?_
  rw [set_app0]
  try simp only [↓tV_q, ↓tK_q, ↓tN3_q, ↓tC3_q, ↓tCall3_q, onO_some, List.getElem?_cons_zero, List.getElem?_cons_succ]
  refine btake_q get_new (by decide) (by decide) fun x t t0 t1 => ?_
  rw [set_app0]
  refine atT_all t0 (by simpa using t1) fun y hy => ?_
  have hy : ∃ m : Int, y = .int m ∧ 0 ≤ m ∧ m ≤ 62 := by
    simp only [List.mem_cons, List.not_mem_nil, or_false] at hy
    rcases hy with rfl | rfl | rfl | rfl
    all_goals exact ⟨_, rfl, by omega, by omega⟩
  obtain ⟨mny, rfl, y0, y1⟩ := hy
  try simp only [↓tV_q, ↓tK_q, ↓tO_q, ↓tT_q, ↓tN3_q, ↓tC3_q, ↓cSeq_q, ↓cIf_q, ↓gN_q, ↓tCall3_q, thenE_nx, onO_some, List.getElem?_cons_zero, List.getElem?_cons_succ, List.set_cons_zero, List.set_cons_succ]
  refine btake_q get_new (by decide) (by decide) fun x f f0 f1 => ?_
  rw [set_app0]
  try simp only [↓tK_q, ↓eqR_ii_q, onB_bl]
  have fin2 : ∀ x mny : Int, 0 ≤ mny → mny ≤ 62 → r_bhall_2 (ends3 (GQ h.length Q)) [some (.fl (ns.map .int)), some (.int k), some (.ref h.length), some (.int way), some (.int (n : Int)), some (.int mny), none, none, none] (h ++ [.lst [.int x]]) := by
    intro x mny y0 y1
    try simp only [↓tV_q, ↓tK_q, ↓tN3_q, ↓tC3_q, ↓cSeq_q, ↓cAsg_q, ↓tCall3_q, onO_some, List.getElem?_cons_zero, List.getElem?_cons_succ, r_bhall_2]
    refine btake_q get_new (by decide) (by decide) fun x hd hd0 hd1 => ?_
    rw [set_app0]
    try simp only [↓tV_q, ↓tK_q, ↓tO_q, ↓tN3_q, ↓tC3_q, ↓addR_ii_q, onO_some, List.getElem?_cons_zero, List.getElem?_cons_succ]
    refine bweighing_q (by omega) (Int.lt_of_lt_of_le (show (n : Int) < 10 ^ 60 by omega) (by decide)) (by omega) fun wd w wd0 wd1 hw => ?_
    try simp only [↓tV_q, ↓tK_q, ↓tO_q, ↓tN3_q, ↓tC3_q, ↓tNew_q, ↓cSeq_q, ↓cAsg_q, ↓gN_q, ↓cFor_q, ↓iRng_q, ↓rngD_1q, ↓tB3_q, ↓mulR_ii_q, ↓gtR_ii_q, ↓intR_b_q, thenE_nx, onO_some, List.getElem?_cons_zero, List.getElem?_cons_succ, List.set_cons_zero, List.set_cons_succ]
    have hM : ∃ M : Int, (mny * if decide (0 < (n : Int)) = true then 1 else 0) = M ∧ 0 ≤ M ∧ M ≤ 62 ∧ (0 < M → 0 < n) := by
      by_cases h0 : 0 < n
      · exact ⟨mny, by simp [h0], y0, y1, fun _ => h0⟩
      · exact ⟨0, by simp [h0], by decide, by decide, fun z => absurd z (by decide)⟩
    obtain ⟨M, eM, M0, M1, Mn⟩ := hM
    rw [eM]
    refine ⟨mulOk_w (a := 8) (b := 8) (by omega) (by split <;> decide) (by decide), ⟨by omega, by omega⟩, ?_⟩
    rw [List.append_assoc, List.append_assoc, show List.length (h ++ [Cell.lst [D.int x]]) = h.length + 1 by simp, show List.length (h ++ ([Cell.lst [D.int x]] ++ [Cell.lst (List.map pcD w)])) = h.length + 2 by simp]
    refine forL (f := fun (j : Nat) => D.int (j : Int)) (fun l ρ h' => ∃ (x : Int) (prs : List P4) (o8 : Option D), prs.length = l.length ∧ (∀ q ∈ prs, PrIn (n : Int) q) ∧ ρ = [some (.fl (ns.map .int)), some (.int k), some (.ref h.length), some (.int way), some (.int (n : Int)), some (.int mny), some (.ref (h.length + 1)), some (.ref (h.length + 2)), o8] ∧ h' = h ++ [.lst [.int x], .lst (w.map pcD), .lst (prs.map p4D)])
      ⟨x, [], _, rfl, (fun q hq => by cases hq), rfl, rfl⟩ (fun _ _ _ _ => trivial) ?_ ?_
    · rintro ρ h' ⟨x, prs, o8, pl, hp, rfl, rfl⟩
      rw [List.length_range] at pl
      try simp only [↓tV_q, ↓tN3_q, ↓tC3_q, ↓tTup3_q, ↓cRet_q, thenE_nx, ends3_rt, onO_some, List.getElem?_cons_zero, List.getElem?_cons_succ]
      exact .inl (q' n prs w 2 1 _ ⟨nb, by omega, hp, wd, wd0, wd1, hw⟩ rfl rfl)
    · rintro l j r ρ h' F e ⟨x, prs, o8, pl, hp, rfl, rfl⟩ hF
      have el := congrArg List.length e
      rw [List.length_range, List.length_append, List.length_cons] at el
      have np : 0 < n := Mn (by omega)
      have g1 : ∀ x : Int, (h ++ [Cell.lst [D.int x], Cell.lst (w.map pcD), Cell.lst (prs.map p4D)])[h.length + 2]? = some (.lst (prs.map p4D)) := fun x => get_app
      try simp only [↓tV_q, ↓tK_q, ↓tN3_q, ↓tC3_q, ↓cDrop_q, ↓gN_q, ↓tCall3_q, ↓tLM_q, ↓lmD_q, onO_some, onC_q, List.getElem?_cons_zero, List.getElem?_cons_succ, List.set_cons_zero, List.set_cons_succ, b_bhall_1, g1]
      refine btake_q get_app0 (by decide) (by decide) fun x hd hd0 hd1 => ?_
      rw [set_app0]
      try simp only [↓tV_q, ↓tK_q, ↓tO_q, ↓tN3_q, ↓tC3_q, ↓addR_ii_q, ↓mulR_ii_q, ↓modR_ii_q, onO_some, List.getElem?_cons_zero, List.getElem?_cons_succ, true_and, Int.reduceLT]
      refine ⟨mulOk_r (by decide), bpairing_q (by omega) (Int.lt_of_lt_of_le (show (n : Int) < 10 ^ 60 by omega) (by decide)) (by omega) fun p4 hp4 => ?_⟩
      have g2 : (h ++ [Cell.lst [D.int x], Cell.lst (w.map pcD), Cell.lst (prs.map p4D)])[h.length + 2]? = some (.lst (prs.map p4D)) := get_app
      try simp only [↓tN3_q, ↓appT_q, loopE_nx, onC_q, g2]
      refine ⟨by rw [List.length_map]; omega, hF _ _ ⟨x, prs ++ [p4], _, by simp [pl], fun q hq => ?_, rfl, ?_⟩⟩
      · rcases List.mem_append.mp hq with hq | hq
        · exact hp q hq
        · rw [List.mem_singleton.mp hq]; exact hp4
      · rw [List.set_append_right _ _ (by omega), Nat.add_sub_cancel_left, List.map_append]; rfl
  have fin1 : ∀ x mny : Int, 0 ≤ mny → mny ≤ 62 → r_bhall_1 (ends3 (GQ h.length Q)) [some (.fl (ns.map .int)), some (.int k), some (.ref h.length), some (.int way), some (.int (n : Int)), some (.int mny), none, none, none] (h ++ [.lst [.int x]]) := by
    intro x mny y0 y1
    have g1 := fin2 x (mny % 6) (by omega) (by omega)
    have g2 := fin2 x mny y0 y1
    try simp only [↓tV_q, ↓tK_q, ↓tO_q, ↓tT_q, ↓cSeq_q, ↓cIf_q, ↓gtR_ii_q, onO_some, onB_bl, List.getElem?_cons_zero, List.getElem?_cons_succ, r_bhall_1]
    refine ifC_of (fun _ => ?_) (fun _ => ?_)
    · try simp only [↓tV_q, ↓tK_q, ↓tO_q, ↓cAsg_q, ↓gN_q, ↓modR_ii_q, thenE_nx, onO_some, List.getElem?_cons_zero, List.getElem?_cons_succ, List.set_cons_zero, List.set_cons_succ, true_and, Int.reduceLT]
      exact g1
    · exact g2
  refine ifC_of (fun _ => ?_) (fun _ => ?_)
  · try simp only [↓tV_q, ↓tK_q, ↓tO_q, ↓tN3_q, ↓tC3_q, ↓cAsg_q, ↓tCall3_q, onO_some, List.getElem?_cons_zero, List.getElem?_cons_succ]
    refine btake_q get_new (by decide) (by decide) fun x e e0 e1 => ?_
    rw [set_app0]
    try simp only [↓gN_q, ↓addR_ii_q, thenE_nx, List.set_cons_zero, List.set_cons_succ]
    exact fin1 x _ (by omega) (by omega)
  · exact fin1 x mny y0 y1
end F3
set_option maxHeartbeats 400000
/-! DC: deeds: what is looked at. -/
namespace F3
open PySem PySem.Spec PyProof.Rows L2
def t_look (E4 : X4) : C3 :=
  (cIf (tNot3 (tT (tV 0))) (cRz E4 "NoDeed") cNext)

def sp_look : Sp3 := fun ds h Q E => ∃ b : Bool, ds = [.bl b] ∧ (b = true → Q .non h) ∧ (b = false → E (.type "NoDeed") h)
theorem mono_look : MonoS sp_look := fun ds h Q Q' E E' w1 w2 ⟨b, e, h1, h2⟩ => ⟨b, e, fun z => w1 _ _ (h1 z), fun z => w2 _ _ (h2 z)⟩
theorem len_look : ∀ ds h Q E, sp_look ds h Q E → ds.length = 1 := by rintro _ h Q E ⟨b, rfl, _⟩; rfl
theorem rd_look : ∀ ds h Q E, ClS h.length h → ClDs h.length ds → sp_look ds h Q E → t_look (GE h.length E) (ends3 (GQ h.length Q)) (start3 1 ds) h := by
  rintro ds h Q E _ _ ⟨b, rfl, h1, h2⟩
  cases b with
  | true =>
    try simp only [↓tV_q, ↓tT_q, ↓tNot3_q, ↓cNext_q, ↓cIf_q, ↓start3_q, ends3_nx, onO_some, onB_bl, ifC_false, List.getElem?_cons_zero, List.map_cons, List.map_nil, List.cons_append, List.nil_append, List.length_cons, List.length_nil, List.replicate_zero, Nat.reduceAdd, Nat.reduceSub, Bool.not_true, t_look]
    exact .inl (h1 rfl)
  | false =>
    try simp only [↓tV_q, ↓tT_q, ↓tNot3_q, ↓cIf_q, ↓start3_q, ↓cRz_q, onO_some, onB_bl, ifC_true, List.getElem?_cons_zero, List.map_cons, List.map_nil, List.cons_append, List.nil_append, List.length_cons, List.length_nil, List.replicate_zero, Nat.reduceAdd, Nat.reduceSub, Bool.not_false, t_look]
    exact .inl (h2 rfl)
theorem look_q {b : Bool} {h : Sto} {Q : DK} {E : String → Sto → Prop} (h1 : b = true → Q .non h) (h2 : b = false → E "NoDeed" h) : callX sp_look [.bl b] h Q E := ⟨b, rfl, h1, fun z => ⟨_, rfl, h2 z⟩⟩
/-! ### numbers and ends -/
def numP (L : Nat) : D → Option Nat
  | .int i => if 0 ≤ i ∧ i < (L : Int) then some i.toNat else none
  | _ => none
theorem num_no {L : Nat} {d : D} (h : isW d = false) : numP L d = none := by
  cases d <;> first | rfl | cases h
theorem num_eq {L : Nat} {i : Int} : numP L (.int i) = if 0 ≤ i ∧ i < (L : Int) then some i.toNat else none := rfl
theorem num_some {L k : Nat} {d : D} (h : numP L d = some k) : d = .int (k : Int) ∧ k < L := by
  cases hw : isW d with
  | false => rw [num_no hw] at h; cases h
  | true =>
    obtain ⟨i, rfl⟩ := isW_int hw
    rw [num_eq] at h
    split at h
    · rename_i hc
      simp only [Option.some.injEq] at h
      subst h
      exact ⟨by rw [Int.toNat_of_nonneg hc.1], by omega⟩
    · cases h
theorem num_int {L k : Nat} (h : k < L) : numP L (.int (k : Int)) = some k := by
  rw [num_eq, if_pos ⟨by omega, by omega⟩]; rfl
def t_is_number : C3 :=
  (cRet (tAndE (tB3 isiR (tC3 (tV 1) (tC3 (tK (.ty "int")) tN3))) (tAndE (tNotE (tB3 isiR (tC3 (tV 1) (tC3 (tK (.ty "bool")) tN3)))) (tCh leR ltR (tK (.int 0)) (tV 1) (tB3 lenR (tC3 (tO ixR (tV 0) (tK (.int 1))) tN3))))))

def t_is_still : C3 :=
  (cSeq (cAsg (tV 0) (gTup3 4 (gCons3 (gN 1) (gCons3 (gN 2) (gCons3 (gN 3) (gCons3 (gN 4) gNil3))))))
    (cRet (tAndE (tO eqR (tV 1) (tV 2)) (tOrE (tNotE (tV 4)) (tO eqR (tV 3) (tK (.int 1)))))))

def t_without : C3 :=
  (cRet (tO addR (tSl3 (tV 0) oNo (oSo (tV 1))) (tSl3 (tV 0) (oSo (tO addR (tV 1) (tK (.int 1)))) oNo)))

def sp_is_number : Sp3 := spD (fun (a__ : Nat × Nat × Nat × List P4 × D) => match a__ with | (n, i, j, prs, d) => [hallD n i j, d]) (fun (a__ : Nat × Nat × Nat × List P4 × D) (h : Sto) => match a__ with | (n, i, j, prs, d) => h[i]? = some (.lst (prs.map p4D)) ∧ Kn h d) (fun (a__ : Nat × Nat × Nat × List P4 × D) (h : Sto) => match a__ with | (n, i, j, prs, d) => .bl (numP prs.length d).isSome) (fun (a__ : Nat × Nat × Nat × List P4 × D) (h : Sto) => match a__ with | (n, i, j, prs, d) => h)
theorem mono_is_number : MonoS sp_is_number := mono_spD
theorem len_is_number : ∀ ds h Q E, sp_is_number ds h Q E → ds.length = 2 := len_spD fun _ => rfl
theorem is_number_q {n : Nat} {i : Nat} {j : Nat} {prs : List P4} {d : D} {h : Sto} {Q : DK} (hp : h[i]? = some (.lst (prs.map p4D)) ∧ Kn h d) (q : Q (.bl (numP prs.length d).isSome) (h)) : callS sp_is_number [hallD n i j, d] h Q := ⟨(n, i, j, prs, d), rfl, hp, q⟩
theorem rd_is_number : ∀ ds h Q E, ClS h.length h → ClDs h.length ds → sp_is_number ds h Q E → t_is_number (ends3 (GQ h.length Q)) (start3 2 ds) h := by
  rintro ds h Q E hcl _ ⟨⟨n, i, j, prs, d⟩, rfl, hp0, q0⟩
  have hp : h[i]? = some (.lst (prs.map p4D)) ∧ Kn h d := hp0
  have q : Q (.bl (numP prs.length d).isSome) (h) := q0
  clear hp0 q0
  obtain ⟨hi, a, e⟩ := hp
  cases hw : isW d with
  | true =>
    obtain ⟨k, rfl⟩ := isW_int hw
    try simp only [↓tV_q, ↓tK_q, ↓tNotE_q, ↓tAndE_q, ↓tCh_q, ↓tN3_q, ↓tC3_q, ↓cRet_q, ↓tB3_q, ↓start3_q, ↓leR_ii_q, ↓isi_1, ↓isi_2, onO_some, onB_bl, ifC_true, isU_q, ifT_q, tyN_int_q, isT_3, isT_4, List.getElem?_cons_zero, List.getElem?_cons_succ, List.map_cons, List.map_nil, List.cons_append, List.nil_append, List.length_cons, List.length_nil, List.replicate_zero, Nat.reduceAdd, Nat.reduceSub, Bool.not_false, t_is_number, hallD]
    refine ifC_of (fun hc => ?_) (fun hc => ?_)
    · have hc' : 0 ≤ k := by simpa using hc
      try simp only [↓tV_q, ↓tK_q, ↓tO_q, ↓tN3_q, ↓tC3_q, ↓tB3_q, ↓start3_q, ↓ltR_ii_q, ↓ixR_ti_q, ↓lenR_rq, ends3_rt, onO_some, onC_q, atT_0, atT_1, List.getElem?_cons_zero, List.map_cons, List.map_nil, List.cons_append, List.nil_append, List.length_cons, List.length_nil, List.replicate_zero, Nat.reduceAdd, Nat.reduceSub, hi]
      rw [show (numP prs.length (.int k)).isSome = decide (k < (prs.length : Int)) by rw [num_eq]; by_cases hz : k < (prs.length : Int) <;> simp [hc', hz]] at q
      rw [List.length_map]
      exact .inl q
    · have hc' : ¬ 0 ≤ k := by simpa using hc
      rw [show (numP prs.length (.int k)).isSome = false by rw [num_eq, if_neg (by omega)]; rfl] at q
      exact .inl q
  | false =>
    have e2 := (tyN_w e).1
    rw [num_no hw] at q
    try simp only [↓tV_q, ↓tK_q, ↓tAndE_q, ↓tN3_q, ↓tC3_q, ↓cRet_q, ↓tB3_q, ↓start3_q, ↓isi_1, onO_some, isU_q, ifT_q, List.getElem?_cons_zero, List.getElem?_cons_succ, List.map_cons, List.map_nil, List.cons_append, List.nil_append, List.length_cons, List.length_nil, List.replicate_zero, Nat.reduceAdd, Nat.reduceSub, t_is_number, hallD, e]
    rw [hw] at e2
    cases h1 : isT a "int" <;> cases h2 : isT a "bool" <;> rw [h1, h2] at e2 <;> first | (cases e2; done) | skip
    all_goals try simp only [↓tV_q, ↓tK_q, ↓tNotE_q, ↓tAndE_q, ↓tN3_q, ↓tC3_q, ↓tB3_q, ↓start3_q, ↓isi_2, ends3_rt, onO_some, onB_bl, ifC_true, ifC_false, isU_q, ifT_q, List.getElem?_cons_zero, List.getElem?_cons_succ, List.map_cons, List.map_nil, List.cons_append, List.nil_append, List.length_cons, List.length_nil, List.replicate_zero, Nat.reduceAdd, Nat.reduceSub, Bool.not_true, e, h2]
    all_goals exact .inl q
def stillP (q : P4) : Bool := decide (q.1 = q.2.1) && (!q.2.2.2 || decide (q.2.2.1 = 1))
def sp_is_still : Sp3 := spD (fun (x : P4) => [p4D x]) (fun (x : P4) (h : Sto) => True) (fun (x : P4) (h : Sto) => .bl (stillP x)) (fun (x : P4) (h : Sto) => h)
theorem mono_is_still : MonoS sp_is_still := mono_spD
theorem len_is_still : ∀ ds h Q E, sp_is_still ds h Q E → ds.length = 1 := len_spD fun _ => rfl
theorem is_still_q {x : P4} {h : Sto} {Q : DK} (q : Q (.bl (stillP x)) (h)) : callS sp_is_still [p4D x] h Q := ⟨x, rfl, trivial, q⟩
theorem rd_is_still : ∀ ds h Q E, ClS h.length h → ClDs h.length ds → sp_is_still ds h Q E → t_is_still (ends3 (GQ h.length Q)) (start3 5 ds) h := by
  rintro ds h Q E hcl _ ⟨x, rfl, hp0, q0⟩
  have q : Q (.bl (stillP x)) (h) := q0
  clear hp0 q0
  try simp only [↓tV_q, ↓tO_q, ↓tAndE_q, ↓cSeq_q, ↓cRet_q, ↓cAsg_q, ↓gN_q, ↓gNil3_q, ↓gCons3_q, ↓gTup3_q, ↓start3_q, ↓eqR_ii_q, thenE_nx, onO_some, ifT_q, List.getElem?_cons_zero, List.getElem?_cons_succ, List.set_cons_zero, List.set_cons_succ, List.map_cons, List.map_nil, List.cons_append, List.nil_append, List.length_cons, List.length_nil, List.replicate_succ, List.replicate_zero, Nat.reduceAdd, Nat.reduceSub, true_and, t_is_still, p4D, pr]
  refine ifC_of (fun hc => ?_) (fun hc => ?_)
  · have hc' : x.1 = x.2.1 := by simpa using hc
    cases ht : x.2.2.2 with
    | true =>
      rw [show stillP x = decide (x.2.2.1 = 1) by simp [stillP, hc', ht]] at q
      try simp only [↓tV_q, ↓tK_q, ↓tO_q, ↓tNotE_q, ↓tOrE_q, ↓eqR_ii_q, ends3_rt, onO_some, onB_bl, ifC_false, ifT_q, List.getElem?_cons_zero, List.getElem?_cons_succ, Bool.not_true]
      exact .inl q
    | false =>
      rw [show stillP x = true by simp [stillP, hc', ht]] at q
      try simp only [↓tV_q, ↓tNotE_q, ↓tOrE_q, ends3_rt, onO_some, onB_bl, ifC_true, ifT_q, List.getElem?_cons_zero, List.getElem?_cons_succ, Bool.not_false]
      exact .inl q
  · have hc' : ¬ x.1 = x.2.1 := by simpa using hc
    rw [show stillP x = false by simp [stillP, hc']] at q
    exact .inl q
theorem cutTo {xs : List D} {k : Nat} (hk : k ≤ xs.length) : cutD xs none (some (k : Int)) = xs.take k := by
  unfold cutD
  rw [HT.sIx_none, HT.sIx_nat, Nat.min_eq_left hk]; simp
theorem cutFrom {xs : List D} {k : Nat} (hk : k ≤ xs.length) : cutD xs (some (k : Int)) none = xs.drop k := by
  unfold cutD
  rw [HT.sIx_none, HT.sIx_nat, Nat.min_eq_left hk]
  exact List.take_of_length_le (by simp)
theorem cut_pre {prs : List P4} {k : Nat} (hk : k < prs.length) : cutD (prs.map p4D) none (some (k : Int)) = (prs.take k).map p4D := by rw [cutTo (by simp; omega), List.map_take]
theorem cut_suf {prs : List P4} {k : Nat} (hk : k < prs.length) : cutD (prs.map p4D) (some ((k : Int) + 1)) none = (prs.drop (k + 1)).map p4D := by
  rw [show (k : Int) + 1 = ((k + 1 : Nat) : Int) by simp, cutFrom (by simp; omega), List.map_drop]
theorem cl_p4s {n : Nat} {prs : List P4} : ClDs n (prs.map p4D) := ClDs.all fun x hx => by obtain ⟨p, _, rfl⟩ := List.mem_map.mp hx; exact cl_p4
def sp_without : Sp3 := spD (fun (a__ : Nat × List P4 × Nat) => match a__ with | (i, prs, k) => [.ref i, .int (k : Int)]) (fun (a__ : Nat × List P4 × Nat) (h : Sto) => match a__ with | (i, prs, k) => h[i]? = some (.lst (prs.map p4D)) ∧ k < prs.length ∧ prs.length ≤ 1000) (fun (a__ : Nat × List P4 × Nat) (h : Sto) => match a__ with | (i, prs, k) => .ref h.length) (fun (a__ : Nat × List P4 × Nat) (h : Sto) => match a__ with | (i, prs, k) => h ++ [.lst ((prs.eraseIdx k).map p4D)])
theorem mono_without : MonoS sp_without := mono_spD
theorem len_without : ∀ ds h Q E, sp_without ds h Q E → ds.length = 2 := len_spD fun _ => rfl
theorem without_q {i : Nat} {prs : List P4} {k : Nat} {h : Sto} {Q : DK} (hp : h[i]? = some (.lst (prs.map p4D)) ∧ k < prs.length ∧ prs.length ≤ 1000) (q : Q (.ref h.length) (h ++ [.lst ((prs.eraseIdx k).map p4D)])) : callS sp_without [.ref i, .int (k : Int)] h Q := ⟨(i, prs, k), rfl, hp, q⟩
theorem rd_without : ∀ ds h Q E, ClS h.length h → ClDs h.length ds → sp_without ds h Q E → t_without (ends3 (GQ h.length Q)) (start3 2 ds) h := by
  rintro ds h Q E hcl _ ⟨⟨i, prs, k⟩, rfl, hp0, q0⟩
  have hp : h[i]? = some (.lst (prs.map p4D)) ∧ k < prs.length ∧ prs.length ≤ 1000 := hp0
  have q : Q (.ref h.length) (h ++ [.lst ((prs.eraseIdx k).map p4D)]) := q0
  clear hp0 q0
  obtain ⟨hi, hk, hl⟩ := hp
  try simp only [↓tV_q, ↓tK_q, ↓tO_q, ↓cRet_q, ↓tSl3_q, ↓oNo_q, ↓oSo_q, ↓start3_q, ↓addR_ii_q, ↓addR_rq, ↓slR_rq, onO_some, onI_int, onC_q, List.getElem?_cons_zero, List.getElem?_cons_succ, List.map_cons, List.map_nil, List.cons_append, List.nil_append, List.length_cons, List.length_nil, List.replicate_zero, Nat.reduceAdd, Nat.reduceSub, t_without, hi, get_up hi]
  rw [cut_pre hk, cut_suf hk]
  try simp only [ends3_rt, onC_q, get_new2, get_new]
  have e : (prs.take k).map p4D ++ (prs.drop (k + 1)).map p4D = (prs.eraseIdx k).map p4D := by rw [List.eraseIdx_eq_take_drop_succ, List.map_append]
  rw [e]
  refine ⟨by simp; omega, ?_⟩
  have g1 := gq_one (k := 2) (n := h.length) (g := [.lst ((prs.take k).map p4D), .lst ((prs.drop (k + 1)).map p4D), .lst ((prs.eraseIdx k).map p4D)]) rfl rfl cl_p4s hcl q
  rw [List.append_assoc, List.append_assoc, List.length_append]
  exact g1
/-! ### a hall, and deeds that lead to one -/
abbrev Hal := Nat × List P4 × List Pc
def HAt (h : Sto) (i j : Nat) (H : Hal) : Prop := h[i]? = some (.lst (H.2.1.map p4D)) ∧ h[j]? = some (.lst (H.2.2.map pcD)) ∧ H.2.1.length ≤ 1000 ∧ H.2.2.length ≤ 1000
def nthP (H : Hal) (k : Nat) : P4 := H.2.1.getD k (0, 0, 0, false)
/-- what is wanted of a deed's end: the hall, in new cells -/
def Led (h : Sto) (Q : DK) (H : Hal) : Prop := ∀ (g : Sto) (i j : Nat), i ≠ j → g[i]? = some (.lst (H.2.1.map p4D)) → g[j]? = some (.lst (H.2.2.map pcD)) → Q (hallD H.1 (h.length + i) (h.length + j)) (h ++ g)
def spA (Ok : Hal → Prop) (P : Hal → List D → Option Hal) : Sp3 := fun ds h Q E => ∃ (H : Hal) (i j : Nat) (x : D) (as : List D), ds = [hallD H.1 i j, .tup (x :: as)] ∧ HAt h i j H ∧ Ok H ∧ (∀ a ∈ as, Kn h a) ∧ (∀ H', P H as = some H' → Led h Q H') ∧ (P H as = none → E (.type "NoDeed") h)
section
variable {Ok : Hal → Prop} {P : Hal → List D → Option Hal}
theorem mono_spA : MonoS (spA Ok P) := fun ds h Q Q' E E' w1 w2 ⟨H, i, j, x, as, e, hh, hk, ho, h1, h2⟩ => ⟨H, i, j, x, as, e, hh, hk, ho, fun H' z g i' j' a b c => w1 _ _ (h1 H' z g i' j' a b c), fun z => w2 _ _ (h2 z)⟩
theorem len_spA : ∀ ds h Q E, spA Ok P ds h Q E → ds.length = 2 := by rintro _ h Q E ⟨H, i, j, x, as, rfl, _⟩; rfl
theorem callX_A {H : Hal} {i j : Nat} {x : D} {as : List D} {h : Sto} {Q : DK} {E : String → Sto → Prop} (hh : HAt h i j H) (ho : Ok H) (hk : ∀ a ∈ as, Kn h a) (h1 : ∀ H', P H as = some H' → Led h Q H') (h2 : P H as = none → E "NoDeed" h) : callX (spA Ok P) [hallD H.1 i j, .tup (x :: as)] h Q E := ⟨H, i, j, x, as, rfl, hh, ho, hk, h1, fun z => ⟨_, rfl, h2 z⟩⟩
end
theorem at_nth {prs : List P4} {k n : Nat} {w : List Pc} {f : D → Prop} (hk : k < prs.length) : atT (prs.map p4D) (k : Int) f = f (p4D (nthP (n, prs, w) k)) := by
  refine atT_of ?_
  rw [atI_map, atI_get (by omega) (by omega)]
  unfold nthP
  rw [List.getD_eq_getElem?_getD, Int.toNat_natCast, List.getElem?_eq_getElem hk]; rfl
def goneA (H : Hal) : List D → Option Hal
  | [d] => match numP H.2.1.length d with
    | some k => if stillP (nthP H k) = true then some (H.1, H.2.1.eraseIdx k, H.2.2) else none
    | none => none
  | _ => none
def sp_gone_in : Sp3 := spA (fun _ => True) goneA
theorem mono_gone_in : MonoS sp_gone_in := mono_spA
theorem len_gone_in : ∀ ds h Q E, sp_gone_in ds h Q E → ds.length = 2 := len_spA
def t_gone_in (E4 : X4) : C3 :=
  (cSeq (cAsg (tV 0) (gTup3 3 (gCons3 (gN 2) (gCons3 (gN 3) (gCons3 (gN 4) gNil3)))))
    (cSeq (cDrop (tCallX sp_look E4 (tC3 (tAndE (tO eqR (tB3 lenR (tC3 (tV 1) tN3)) (tK (.int 2))) (tAndE (tCall3 sp_is_number (tC3 (tV 0) (tC3 (tO ixR (tV 1) (tK (.int 1))) tN3))) (tCall3 sp_is_still (tC3 (tO ixR (tV 3) (tO ixR (tV 1) (tK (.int 1)))) tN3)))) tN3)))
    (cRet (tTup3 (tC3 (tV 2) (tC3 (tCall3 sp_without (tC3 (tV 3) (tC3 (tO ixR (tV 1) (tK (.int 1))) tN3))) (tC3 (tNew (tL3 lstM (tC3 (tV 4) tN3))) tN3)))))))

theorem rd_gone_in : ∀ ds h Q E, ClS h.length h → ClDs h.length ds → sp_gone_in ds h Q E → t_gone_in (GE h.length E) (ends3 (GQ h.length Q)) (start3 5 ds) h := by
  rintro ds h Q E hcl _ ⟨⟨n, prs, w⟩, i, j, x, as, rfl, ⟨hi, hj, pl, wl⟩, _, hk, h1, h2⟩
  dsimp only at hi hj pl wl
  rcases as with _ | ⟨d, _ | ⟨d2, r⟩⟩
  · try simp only [↓tV_q, ↓tK_q, ↓tO_q, ↓tAndE_q, ↓tN3_q, ↓tC3_q, ↓cSeq_q, ↓cDrop_q, ↓cAsg_q, ↓gN_q, ↓gNil3_q, ↓gCons3_q, ↓gTup3_q, ↓tB3_q, ↓start3_q, ↓eqR_ii_q, ↓lenR_t_q, ↓tCallX_q, thenE_nx, onO_some, ifT_q, List.getElem?_cons_zero, List.getElem?_cons_succ, List.set_cons_zero, List.set_cons_succ, List.map_cons, List.map_nil, List.cons_append, List.nil_append, List.length_cons, List.length_nil, List.replicate_succ, List.replicate_zero, Nat.reduceAdd, Nat.reduceSub, true_and, t_gone_in, hallD]
    refine ifC_of (fun z => by simp at z) fun _ => ?_
    try simp only [↓tN3_q]
    exact look_q (fun z => nomatch z) fun _ => .inl (h2 rfl)
  · have kd := hk d List.mem_cons_self
    try simp only [↓tV_q, ↓tK_q, ↓tO_q, ↓tAndE_q, ↓tN3_q, ↓tC3_q, ↓cSeq_q, ↓cDrop_q, ↓cAsg_q, ↓gN_q, ↓gNil3_q, ↓gCons3_q, ↓gTup3_q, ↓tB3_q, ↓start3_q, ↓eqR_ii_q, ↓lenR_t_q, ↓tCallX_q, thenE_nx, onO_some, ifT_q, List.getElem?_cons_zero, List.getElem?_cons_succ, List.set_cons_zero, List.set_cons_succ, List.map_cons, List.map_nil, List.cons_append, List.nil_append, List.length_cons, List.length_nil, List.replicate_succ, List.replicate_zero, Nat.reduceAdd, Nat.reduceSub, true_and, t_gone_in, hallD]
    refine ifC_of (fun _ => ?_) (fun z => absurd rfl z)
    try simp only [↓tV_q, ↓tK_q, ↓tO_q, ↓tAndE_q, ↓tN3_q, ↓tC3_q, ↓tCall3_q, ↓ixR_ti_q, onO_some, atT_0, atT_1, List.getElem?_cons_zero, List.getElem?_cons_succ]
    refine is_number_q (n := n) (i := i) (j := j) ⟨hi, kd⟩ ?_
    cases hn : numP prs.length d with
    | none =>
      try simp only [↓tN3_q, ifC_false, ifT_q, Option.isSome_none]
      exact look_q (fun z => nomatch z) fun _ => .inl (h2 (by simp only [goneA, hn]))
    | some k =>
      obtain ⟨rfl, hk'⟩ := num_some hn
      try simp only [↓tV_q, ↓tK_q, ↓tO_q, ↓tC3_q, ↓tCall3_q, ↓ixR_ti_q, ↓ixR_rq, onO_some, ifC_true, onC_q, ifT_q, atT_0, atT_1, List.getElem?_cons_zero, List.getElem?_cons_succ, hi, Option.isSome_some]
      rw [at_nth (n := n) (w := w) hk']
      refine is_still_q ?_
      try simp only [↓tN3_q]
      refine look_q (fun hs => ?_) (fun hs => ?_)
      · try simp only [↓tV_q, ↓tK_q, ↓tO_q, ↓tN3_q, ↓tC3_q, ↓tTup3_q, ↓cRet_q, ↓tCall3_q, ↓ixR_ti_q, thenE_nx, onO_some, atT_0, atT_1, List.getElem?_cons_zero, List.getElem?_cons_succ]
        refine without_q ⟨hi, hk', pl⟩ ?_
        try simp only [↓tV_q, ↓tN3_q, ↓tC3_q, ↓tNew_q, ↓tL3_q, ↓lstM_rq, ends3_rt, onO_some, onC_q, List.getElem?_cons_zero, List.getElem?_cons_succ, get_up hj]
        rw [List.append_assoc, show List.length (h ++ [Cell.lst (List.map p4D (prs.eraseIdx k))]) = h.length + 1 by simp]
        exact .inl (h1 (n, prs.eraseIdx k, w) (by simp only [goneA, hn, hs, if_true]) _ 0 1 (by decide) rfl rfl)
      · exact .inl (h2 (by simp only [goneA, hn, hs]; rfl))
  · try simp only [↓tV_q, ↓tK_q, ↓tO_q, ↓tAndE_q, ↓tN3_q, ↓tC3_q, ↓cSeq_q, ↓cDrop_q, ↓cAsg_q, ↓gN_q, ↓gNil3_q, ↓gCons3_q, ↓gTup3_q, ↓tB3_q, ↓start3_q, ↓eqR_ii_q, ↓lenR_t_q, ↓tCallX_q, thenE_nx, onO_some, ifT_q, List.getElem?_cons_zero, List.getElem?_cons_succ, List.set_cons_zero, List.set_cons_succ, List.map_cons, List.map_nil, List.cons_append, List.nil_append, List.length_cons, List.length_nil, List.replicate_succ, List.replicate_zero, Nat.reduceAdd, Nat.reduceSub, true_and, t_gone_in, hallD]
    refine ifC_of (fun z => by simp at z; omega) fun _ => ?_
    try simp only [↓tN3_q]
    exact look_q (fun z => nomatch z) fun _ => .inl (h2 rfl)
end F3
set_option maxHeartbeats 400000
/-! DE: the deeds folded, joined, carried. -/
namespace F3
open PySem PySem.Spec PyProof.Rows L2
def bentP (q : P4) : Bool := q.2.2.2 && (decide (q.2.1 < q.1 + q.2.2.1) && !stillP q)
def leadP (q : P4) : Bool := decide (q.1 < q.2.1) && (!q.2.2.2 || decide (q.2.1 ≥ q.1 + q.2.2.1))
def sumP (q : P4) : Int := q.1 + q.2.1 + q.2.2.1 - 1
def foldP (q : P4) : P4 := (q.1, sumP q + 1 - q.1 - ((sumP q + 1) / 2 - q.1), (sumP q + 1) / 2 - q.1, true)
def shiftP (q : P4) : Int := q.2.1 - q.1
def reachP (q : P4) : Int := q.2.1 + q.2.2.1
def turnP (q : P4) : Bool := !q.2.2.2 && (decide (q.1 < q.2.1) && decide (q.2.1 ≤ q.1 + q.2.2.1))
def gcdP (a b : Int) : Int := (Int.gcd a b : Int)
def canJoinP (a b : P4) : Bool := turnP a && (turnP b && decide (mn (reachP a) (reachP b) - mx a.1 b.1 ≥ shiftP a + shiftP b))
def joinP (a b : P4) : P4 := (mn a.1 b.1, mn a.1 b.1 + gcdP (shiftP a) (shiftP b), mx (reachP a) (reachP b) - mn a.1 b.1 - gcdP (shiftP a) (shiftP b), false)
def withinP (l : P4) (b n : Int) : Bool := decide (l.2.1 ≤ b) && decide (b + n ≤ reachP l)
def ledP (l : P4) (b n : Int) : Int := if l.2.2.2 = true then sumP l - b - n + 1 else b - (b - l.1) / shiftP l * shiftP l
def carryP (l q : P4) (low : Bool) : P4 := if low = true then (mn (ledP l q.1 q.2.2.1) q.2.1, mx (ledP l q.1 q.2.2.1) q.2.1, q.2.2.1, !decide (q.2.2.2 = l.2.2.2)) else (mn q.1 (ledP l q.2.1 q.2.2.1), mx q.1 (ledP l q.2.1 q.2.2.1), q.2.2.1, !decide (q.2.2.2 = l.2.2.2))
def sp_is_bent : Sp3 := spD (fun (x : P4) => [p4D x]) (fun (x : P4) (h : Sto) => True) (fun (x : P4) (h : Sto) => .bl (bentP x)) (fun (x : P4) (h : Sto) => h)
theorem mono_is_bent : MonoS sp_is_bent := mono_spD
theorem len_is_bent : ∀ ds h Q E, sp_is_bent ds h Q E → ds.length = 1 := len_spD fun _ => rfl
theorem is_bent_q {x : P4} {h : Sto} {Q : DK} (q : Q (.bl (bentP x)) (h)) : callS sp_is_bent [p4D x] h Q := ⟨x, rfl, trivial, q⟩
theorem eqv_str {a b : Str} : PyData.eqv (.str a) (.str b) = decide (a = b) := by
  simp only [PyData.eqv]
  by_cases h : a = b <;> simp [h]
theorem eqT_s {h : Sto} {a b : Str} {q : Bool → Prop} (ha : PyData.strOk a = true) (hb : PyData.strOk b = true) : eqT (toP h 9 (.str a)) (toP h 9 (.str b)) q = q (decide (a = b)) := by
  have e1 : toP h 9 (.str a) = some (.str a) := by show (if PyData.strOk a = true then _ else _) = _; rw [if_pos ha]
  have e2 : toP h 9 (.str b) = some (.str b) := by show (if PyData.strOk b = true then _ else _) = _; rw [if_pos hb]
  rw [e1, e2, eqT_q, eqv_str]
theorem so_low : PyData.strOk "low" = true := by decide +kernel
theorem pair_q {a b c : Int} {t : Bool} {h : Sto} {Q : DK} (q : Q (p4D (mn a b, mx a b, c, t)) h) : callS sp_paired [.int a, .int b, .int c, .bl t] h Q := ⟨(a, b, c, t), rfl, trivial, q⟩
theorem so_high : PyData.strOk "high" = true := by decide +kernel
def t_is_bent : C3 :=
  (cSeq (cAsg (tV 0) (gTup3 4 (gCons3 (gN 1) (gCons3 (gN 2) (gCons3 (gN 3) (gCons3 (gN 4) gNil3))))))
    (cRet (tAndE (tV 4) (tAndE (tO ltR (tV 2) (tO addR (tV 1) (tV 3))) (tNotE (tCall3 sp_is_still (tC3 (tV 0) tN3)))))))

theorem rd_is_bent : ∀ ds h Q E, ClS h.length h → ClDs h.length ds → sp_is_bent ds h Q E → t_is_bent (ends3 (GQ h.length Q)) (start3 5 ds) h := by
  rintro ds h Q E hcl _ ⟨x, rfl, hp0, q0⟩
  have q : Q (.bl (bentP x)) (h) := q0
  clear hp0 q0
  try simp only [↓tV_q, ↓tAndE_q, ↓cSeq_q, ↓cRet_q, ↓cAsg_q, ↓gN_q, ↓gNil3_q, ↓gCons3_q, ↓gTup3_q, ↓start3_q, thenE_nx, onO_some, ifT_q, List.getElem?_cons_zero, List.getElem?_cons_succ, List.set_cons_zero, List.set_cons_succ, List.map_cons, List.map_nil, List.cons_append, List.nil_append, List.length_cons, List.length_nil, List.replicate_succ, List.replicate_zero, Nat.reduceAdd, Nat.reduceSub, true_and, t_is_bent, p4D, pr]
  cases ht : x.2.2.2 with
  | true =>
    try simp only [↓tV_q, ↓tO_q, ↓tAndE_q, ↓addR_ii_q, ↓ltR_ii_q, onO_some, ifC_true, ifT_q, List.getElem?_cons_zero, List.getElem?_cons_succ]
    refine ifC_of (fun hc => ?_) (fun hc => ?_)
    · try simp only [↓tV_q, ↓tNotE_q, ↓tN3_q, ↓tC3_q, ↓tCall3_q, onO_some, List.getElem?_cons_zero]
      rw [← ht]
      refine is_still_q (x := x) ?_
      try simp only [ends3_rt, onB_bl]
      rw [show bentP x = !stillP x by simp [bentP, ht, hc]] at q
      exact .inl q
    · rw [show bentP x = false by simp [bentP, ht, hc]] at q
      exact .inl q
  | false =>
    try simp only [ends3_rt, ifC_false]
    rw [show bentP x = false by simp [bentP, ht]] at q
    exact .inl q
def sp_sum_of_ends : Sp3 := spD (fun (x : P4) => [p4D x]) (fun (x : P4) (h : Sto) => True) (fun (x : P4) (h : Sto) => .int (sumP x)) (fun (x : P4) (h : Sto) => h)
theorem mono_sum_of_ends : MonoS sp_sum_of_ends := mono_spD
theorem len_sum_of_ends : ∀ ds h Q E, sp_sum_of_ends ds h Q E → ds.length = 1 := len_spD fun _ => rfl
theorem sum_of_ends_q {x : P4} {h : Sto} {Q : DK} (q : Q (.int (sumP x)) (h)) : callS sp_sum_of_ends [p4D x] h Q := ⟨x, rfl, trivial, q⟩
def t_sum_of_ends : C3 :=
  (cRet (tO subR (tO addR (tO addR (tO ixR (tV 0) (tK (.int 0))) (tO ixR (tV 0) (tK (.int 1)))) (tO ixR (tV 0) (tK (.int 2)))) (tK (.int 1))))

theorem rd_sum_of_ends : ∀ ds h Q E, ClS h.length h → ClDs h.length ds → sp_sum_of_ends ds h Q E → t_sum_of_ends (ends3 (GQ h.length Q)) (start3 1 ds) h := by
  rintro ds h Q E hcl _ ⟨x, rfl, hp0, q0⟩
  have q : Q (.int (sumP x)) (h) := q0
  clear hp0 q0
  try simp only [↓tV_q, ↓tK_q, ↓tO_q, ↓cRet_q, ↓start3_q, ↓addR_ii_q, ↓subR_ii_q, ↓ixR_ti_q, ends3_rt, onO_some, atT_0, atT_1, atT_2, List.getElem?_cons_zero, List.map_cons, List.map_nil, List.cons_append, List.nil_append, List.length_cons, List.length_nil, List.replicate_zero, Nat.reduceAdd, Nat.reduceSub, t_sum_of_ends, p4D, pr]
  exact .inl q
def sp_folded : Sp3 := spD (fun (x : P4) => [p4D x]) (fun (x : P4) (h : Sto) => True) (fun (x : P4) (h : Sto) => p4D (foldP x)) (fun (x : P4) (h : Sto) => h)
theorem mono_folded : MonoS sp_folded := mono_spD
theorem len_folded : ∀ ds h Q E, sp_folded ds h Q E → ds.length = 1 := len_spD fun _ => rfl
theorem folded_q {x : P4} {h : Sto} {Q : DK} (q : Q (p4D (foldP x)) (h)) : callS sp_folded [p4D x] h Q := ⟨x, rfl, trivial, q⟩
def t_folded : C3 :=
  (cSeq (cAsg (tO ixR (tV 0) (tK (.int 0))) (gN 1))
    (cSeq (cAsg (tCall3 sp_sum_of_ends (tC3 (tV 0) tN3)) (gN 2))
    (cSeq (cAsg (tO subR (tO divR (tO addR (tV 2) (tK (.int 1))) (tK (.int 2))) (tV 1)) (gN 3))
    (cRet (tTup3 (tC3 (tV 1) (tC3 (tO subR (tO subR (tO addR (tV 2) (tK (.int 1))) (tV 1)) (tV 3)) (tC3 (tV 3) (tC3 (tK (.bl true)) tN3)))))))))

theorem rd_folded : ∀ ds h Q E, ClS h.length h → ClDs h.length ds → sp_folded ds h Q E → t_folded (ends3 (GQ h.length Q)) (start3 4 ds) h := by
  rintro ds h Q E hcl _ ⟨x, rfl, hp0, q0⟩
  have q : Q (p4D (foldP x)) (h) := q0
  clear hp0 q0
  try simp only [↓tV_q, ↓tK_q, ↓tO_q, ↓tN3_q, ↓tC3_q, ↓cSeq_q, ↓cAsg_q, ↓gN_q, ↓tCall3_q, ↓start3_q, ↓ixR_ti_q, thenE_nx, onO_some, atT_0, List.getElem?_cons_zero, List.set_cons_zero, List.set_cons_succ, List.map_cons, List.map_nil, List.cons_append, List.nil_append, List.length_cons, List.length_nil, List.replicate_succ, List.replicate_zero, Nat.reduceAdd, Nat.reduceSub, t_folded, p4D, pr]
  refine sum_of_ends_q (x := x) ?_
  try simp only [↓tV_q, ↓tK_q, ↓tO_q, ↓tN3_q, ↓tC3_q, ↓tTup3_q, ↓cSeq_q, ↓cRet_q, ↓cAsg_q, ↓gN_q, ↓addR_ii_q, ↓subR_ii_q, ↓divR_ii_q, thenE_nx, ends3_rt, onO_some, List.getElem?_cons_zero, List.getElem?_cons_succ, List.set_cons_zero, List.set_cons_succ]
  exact ⟨divOk_of (by decide) (by decide), .inl q⟩
def sp_shift_of : Sp3 := spD (fun (x : P4) => [p4D x]) (fun (x : P4) (h : Sto) => True) (fun (x : P4) (h : Sto) => .int (shiftP x)) (fun (x : P4) (h : Sto) => h)
theorem mono_shift_of : MonoS sp_shift_of := mono_spD
theorem len_shift_of : ∀ ds h Q E, sp_shift_of ds h Q E → ds.length = 1 := len_spD fun _ => rfl
theorem shift_of_q {x : P4} {h : Sto} {Q : DK} (q : Q (.int (shiftP x)) (h)) : callS sp_shift_of [p4D x] h Q := ⟨x, rfl, trivial, q⟩
def t_shift_of : C3 :=
  (cRet (tO subR (tO ixR (tV 0) (tK (.int 1))) (tO ixR (tV 0) (tK (.int 0)))))

theorem rd_shift_of : ∀ ds h Q E, ClS h.length h → ClDs h.length ds → sp_shift_of ds h Q E → t_shift_of (ends3 (GQ h.length Q)) (start3 1 ds) h := by
  rintro ds h Q E hcl _ ⟨x, rfl, hp0, q0⟩
  have q : Q (.int (shiftP x)) (h) := q0
  clear hp0 q0
  try simp only [↓tV_q, ↓tK_q, ↓tO_q, ↓cRet_q, ↓start3_q, ↓subR_ii_q, ↓ixR_ti_q, ends3_rt, onO_some, atT_0, atT_1, List.getElem?_cons_zero, List.map_cons, List.map_nil, List.cons_append, List.nil_append, List.length_cons, List.length_nil, List.replicate_zero, Nat.reduceAdd, Nat.reduceSub, t_shift_of, p4D, pr]
  exact .inl q
def sp_reach_end : Sp3 := spD (fun (x : P4) => [p4D x]) (fun (x : P4) (h : Sto) => True) (fun (x : P4) (h : Sto) => .int (reachP x)) (fun (x : P4) (h : Sto) => h)
theorem mono_reach_end : MonoS sp_reach_end := mono_spD
theorem len_reach_end : ∀ ds h Q E, sp_reach_end ds h Q E → ds.length = 1 := len_spD fun _ => rfl
theorem reach_end_q {x : P4} {h : Sto} {Q : DK} (q : Q (.int (reachP x)) (h)) : callS sp_reach_end [p4D x] h Q := ⟨x, rfl, trivial, q⟩
def t_reach_end : C3 :=
  (cRet (tO addR (tO ixR (tV 0) (tK (.int 1))) (tO ixR (tV 0) (tK (.int 2)))))

theorem rd_reach_end : ∀ ds h Q E, ClS h.length h → ClDs h.length ds → sp_reach_end ds h Q E → t_reach_end (ends3 (GQ h.length Q)) (start3 1 ds) h := by
  rintro ds h Q E hcl _ ⟨x, rfl, hp0, q0⟩
  have q : Q (.int (reachP x)) (h) := q0
  clear hp0 q0
  try simp only [↓tV_q, ↓tK_q, ↓tO_q, ↓cRet_q, ↓start3_q, ↓addR_ii_q, ↓ixR_ti_q, ends3_rt, onO_some, atT_0, atT_1, atT_2, List.getElem?_cons_zero, List.map_cons, List.map_nil, List.cons_append, List.nil_append, List.length_cons, List.length_nil, List.replicate_zero, Nat.reduceAdd, Nat.reduceSub, t_reach_end, p4D, pr]
  exact .inl q
def sp_common_part : Sp3 := spD (fun (a__ : Int × Int) => match a__ with | (a, b) => [.int a, .int b]) (fun (a__ : Int × Int) (h : Sto) => match a__ with | (a, b) => 0 ≤ a ∧ 0 ≤ b) (fun (a__ : Int × Int) (h : Sto) => match a__ with | (a, b) => .int (gcdP a b)) (fun (a__ : Int × Int) (h : Sto) => match a__ with | (a, b) => h)
theorem mono_common_part : MonoS sp_common_part := mono_spD
theorem len_common_part : ∀ ds h Q E, sp_common_part ds h Q E → ds.length = 2 := len_spD fun _ => rfl
theorem common_part_q {a : Int} {b : Int} {h : Sto} {Q : DK} (hp : 0 ≤ a ∧ 0 ≤ b) (q : Q (.int (gcdP a b)) (h)) : callS sp_common_part [.int a, .int b] h Q := ⟨(a, b), rfl, hp, q⟩
def b_common_part_1 : C3 :=
  (cPar 0 1 (tC3 (tV 1) (tC3 (tO modR (tV 0) (tV 1)) tN3)))
def t_common_part : C3 :=
  (cSeq (cWhile (tT (tO neR (tV 1) (tK (.int 0)))) b_common_part_1)
    (cRet (tV 0)))

theorem rd_common_part : ∀ ds h Q E, ClS h.length h → ClDs h.length ds → sp_common_part ds h Q E → t_common_part (ends3 (GQ h.length Q)) (start3 2 ds) h := by
  rintro ds h Q E hcl _ ⟨⟨a, b⟩, rfl, hp0, q0⟩
  have hp : 0 ≤ a ∧ 0 ≤ b := hp0
  have q : Q (.int (gcdP a b)) (h) := q0
  clear hp0 q0
  try simp only [↓cSeq_q, ↓start3_q, List.map_cons, List.map_nil, List.cons_append, List.nil_append, List.length_cons, List.length_nil, List.replicate_zero, Nat.reduceAdd, Nat.reduceSub, t_common_part]
  refine whL (fun m ρ h' => ∃ a' b' : Int, 0 ≤ a' ∧ 0 ≤ b' ∧ gcdP a' b' = gcdP a b ∧ b'.toNat = m ∧ ρ = [some (.int a'), some (.int b')] ∧ h' = h) ⟨a, b, hp.1, hp.2, rfl, rfl, rfl, rfl⟩ ?_
  rintro m ρ h' F ⟨a', b', a0, b0, eg, rfl, rfl, rfl⟩ hF
  try simp only [↓tV_q, ↓tK_q, ↓tO_q, ↓tT_q, ↓neR_ii_q, onO_some, onB_bl, List.getElem?_cons_zero, List.getElem?_cons_succ]
  refine ifC_ofn (fun hc => ?_) (fun hc => ?_)
  · have bp : 0 < b' := by omega
    have r0 := Int.emod_nonneg a' (b := b') (by omega)
    have r1 := Int.emod_lt_of_pos a' bp
    try simp only [↓tV_q, ↓tO_q, ↓tN3_q, ↓tC3_q, ↓cPar_q, ↓parD_q, ↓modR_ii_q, loopE_nx, onO_some, List.getElem?_cons_zero, List.getElem?_cons_succ, List.set_cons_zero, List.set_cons_succ, b_common_part_1]
    refine ⟨bp, hF _ _ _ (by omega) ⟨b', a' % b', b0, r0, ?_, rfl, rfl, rfl⟩⟩
    rw [← eg]
    unfold gcdP
    rw [gcd_turn]
  · subst hc
    try simp only [↓tV_q, ↓cRet_q, thenE_nx, ends3_rt, onO_some, List.getElem?_cons_zero]
    rw [← eg, show gcdP a' 0 = a' by unfold gcdP; rw [Int.gcd_zero_right]; omega] at q
    exact .inl q
def sp_is_turn : Sp3 := spD (fun (x : P4) => [p4D x]) (fun (x : P4) (h : Sto) => True) (fun (x : P4) (h : Sto) => .bl (turnP x)) (fun (x : P4) (h : Sto) => h)
theorem mono_is_turn : MonoS sp_is_turn := mono_spD
theorem len_is_turn : ∀ ds h Q E, sp_is_turn ds h Q E → ds.length = 1 := len_spD fun _ => rfl
theorem is_turn_q {x : P4} {h : Sto} {Q : DK} (q : Q (.bl (turnP x)) (h)) : callS sp_is_turn [p4D x] h Q := ⟨x, rfl, trivial, q⟩
def t_is_turn : C3 :=
  (cSeq (cAsg (tV 0) (gTup3 4 (gCons3 (gN 1) (gCons3 (gN 2) (gCons3 (gN 3) (gCons3 (gN 4) gNil3))))))
    (cRet (tAndE (tNotE (tV 4)) (tCh ltR leR (tV 1) (tV 2) (tO addR (tV 1) (tV 3))))))

theorem rd_is_turn : ∀ ds h Q E, ClS h.length h → ClDs h.length ds → sp_is_turn ds h Q E → t_is_turn (ends3 (GQ h.length Q)) (start3 5 ds) h := by
  rintro ds h Q E hcl _ ⟨x, rfl, hp0, q0⟩
  have q : Q (.bl (turnP x)) (h) := q0
  clear hp0 q0
  try simp only [↓tV_q, ↓tNotE_q, ↓tAndE_q, ↓cSeq_q, ↓cRet_q, ↓cAsg_q, ↓gN_q, ↓gNil3_q, ↓gCons3_q, ↓gTup3_q, ↓start3_q, thenE_nx, onO_some, onB_bl, ifT_q, List.getElem?_cons_zero, List.getElem?_cons_succ, List.set_cons_zero, List.set_cons_succ, List.map_cons, List.map_nil, List.cons_append, List.nil_append, List.length_cons, List.length_nil, List.replicate_succ, List.replicate_zero, Nat.reduceAdd, Nat.reduceSub, true_and, t_is_turn, p4D, pr]
  cases ht : x.2.2.2 with
  | true =>
    try simp only [ends3_rt, ifC_false, Bool.not_true]
    rw [show turnP x = false by simp [turnP, ht]] at q
    exact .inl q
  | false =>
    try simp only [↓tV_q, ↓tCh_q, ↓ltR_ii_q, onO_some, ifC_true, ifT_q, List.getElem?_cons_zero, List.getElem?_cons_succ, Bool.not_false]
    refine ifC_of (fun hc => ?_) (fun hc => ?_)
    · try simp only [↓tV_q, ↓tO_q, ↓addR_ii_q, ↓leR_ii_q, ends3_rt, onO_some, List.getElem?_cons_zero, List.getElem?_cons_succ]
      rw [show turnP x = decide (x.2.1 ≤ x.1 + x.2.2.1) by simp [turnP, ht, hc]] at q
      exact .inl q
    · rw [show turnP x = false by simp [turnP, ht, hc]] at q
      exact .inl q
def sp_can_join : Sp3 := spD (fun (a__ : P4 × P4) => match a__ with | (a, b) => [p4D a, p4D b]) (fun (a__ : P4 × P4) (h : Sto) => match a__ with | (a, b) => True) (fun (a__ : P4 × P4) (h : Sto) => match a__ with | (a, b) => .bl (canJoinP a b)) (fun (a__ : P4 × P4) (h : Sto) => match a__ with | (a, b) => h)
theorem mono_can_join : MonoS sp_can_join := mono_spD
theorem len_can_join : ∀ ds h Q E, sp_can_join ds h Q E → ds.length = 2 := len_spD fun _ => rfl
theorem can_join_q {a : P4} {b : P4} {h : Sto} {Q : DK} (q : Q (.bl (canJoinP a b)) (h)) : callS sp_can_join [p4D a, p4D b] h Q := ⟨(a, b), rfl, trivial, q⟩
def r_can_join_1 : C3 :=
  (cSeq (cAsg (tO subR (tB3 minR (tC3 (tCall3 sp_reach_end (tC3 (tV 0) tN3)) (tC3 (tCall3 sp_reach_end (tC3 (tV 1) tN3)) tN3))) (tB3 maxR (tC3 (tO ixR (tV 0) (tK (.int 0))) (tC3 (tO ixR (tV 1) (tK (.int 0))) tN3)))) (gN 2))
    (cRet (tO geR (tV 2) (tO addR (tCall3 sp_shift_of (tC3 (tV 0) tN3)) (tCall3 sp_shift_of (tC3 (tV 1) tN3))))))
def t_can_join : C3 :=
  (cSeq (cIf (tOr3 (tNot3 (tT (tCall3 sp_is_turn (tC3 (tV 0) tN3)))) (tNot3 (tT (tCall3 sp_is_turn (tC3 (tV 1) tN3))))) (cRet (tK (.bl false))) cNext)
    r_can_join_1)

theorem rd_can_join : ∀ ds h Q E, ClS h.length h → ClDs h.length ds → sp_can_join ds h Q E → t_can_join (ends3 (GQ h.length Q)) (start3 3 ds) h := by
  rintro ds h Q E hcl _ ⟨⟨a, b⟩, rfl, hp0, q0⟩
  have q : Q (.bl (canJoinP a b)) (h) := q0
  clear hp0 q0
  try simp only [↓tV_q, ↓tT_q, ↓tOr3_q, ↓tNot3_q, ↓tN3_q, ↓tC3_q, ↓cSeq_q, ↓cIf_q, ↓tCall3_q, ↓start3_q, onO_some, List.getElem?_cons_zero, List.map_cons, List.map_nil, List.cons_append, List.nil_append, List.length_cons, List.length_nil, List.replicate_succ, List.replicate_zero, Nat.reduceAdd, Nat.reduceSub, t_can_join]
  refine is_turn_q (x := a) ?_
  cases ta : turnP a with
  | false =>
    try simp only [↓tK_q, ↓cRet_q, thenE_rt, ends3_rt, onB_bl, ifC_true, Bool.not_false]
    rw [show canJoinP a b = false by simp [canJoinP, ta]] at q
    exact .inl q
  | true =>
    try simp only [↓tV_q, ↓tT_q, ↓tNot3_q, ↓tN3_q, ↓tC3_q, ↓tCall3_q, ↓start3_q, onO_some, onB_bl, ifC_false, List.getElem?_cons_zero, List.getElem?_cons_succ, List.map_cons, List.map_nil, List.cons_append, List.nil_append, List.length_cons, List.length_nil, List.replicate_succ, List.replicate_zero, Nat.reduceAdd, Nat.reduceSub, Bool.not_true]
    refine is_turn_q (x := b) ?_
    cases tb : turnP b with
    | false =>
      try simp only [↓tK_q, ↓cRet_q, thenE_rt, ends3_rt, onB_bl, ifC_true, Bool.not_false]
      rw [show canJoinP a b = false by simp [canJoinP, tb]] at q
      exact .inl q
    | true =>
      try simp only [↓tV_q, ↓tO_q, ↓tN3_q, ↓tC3_q, ↓cNext_q, ↓cSeq_q, ↓cAsg_q, ↓tCall3_q, ↓tB3_q, ↓start3_q, thenE_nx, onO_some, onB_bl, ifC_false, List.getElem?_cons_zero, List.map_cons, List.map_nil, List.cons_append, List.nil_append, List.length_cons, List.length_nil, List.replicate_succ, List.replicate_zero, Nat.reduceAdd, Nat.reduceSub, Bool.not_true, r_can_join_1]
      refine reach_end_q (x := a) ?_
      try simp only [↓tV_q, ↓tN3_q, ↓tC3_q, ↓tCall3_q, onO_some, List.getElem?_cons_zero, List.getElem?_cons_succ]
      refine reach_end_q (x := b) ?_
      try simp only [↓tV_q, ↓tK_q, ↓tO_q, ↓tN3_q, ↓tC3_q, ↓cRet_q, ↓gN_q, ↓tCall3_q, ↓tB3_q, ↓subR_ii_q, ↓ixR_ti_q, ↓minR_ii_q, ↓maxR_ii_q, thenE_nx, onO_some, atT_0, List.getElem?_cons_zero, List.getElem?_cons_succ, List.set_cons_zero, List.set_cons_succ, p4D, pr]
      refine shift_of_q (x := a) ?_
      try simp only [↓tV_q, ↓tN3_q, ↓tC3_q, ↓tCall3_q, onO_some, List.getElem?_cons_zero, List.getElem?_cons_succ]
      refine shift_of_q (x := b) ?_
      try simp only [↓addR_ii_q, ↓geR_ii_q, ends3_rt]
      rw [show canJoinP a b = decide (mn (reachP a) (reachP b) - mx a.1 b.1 ≥ shiftP a + shiftP b) by simp [canJoinP, ta, tb]] at q
      exact .inl q
def sp_joined : Sp3 := spD (fun (a__ : P4 × P4) => match a__ with | (a, b) => [p4D a, p4D b]) (fun (a__ : P4 × P4) (h : Sto) => match a__ with | (a, b) => 0 ≤ shiftP a ∧ 0 ≤ shiftP b) (fun (a__ : P4 × P4) (h : Sto) => match a__ with | (a, b) => p4D (joinP a b)) (fun (a__ : P4 × P4) (h : Sto) => match a__ with | (a, b) => h)
theorem mono_joined : MonoS sp_joined := mono_spD
theorem len_joined : ∀ ds h Q E, sp_joined ds h Q E → ds.length = 2 := len_spD fun _ => rfl
theorem joined_q {a : P4} {b : P4} {h : Sto} {Q : DK} (hp : 0 ≤ shiftP a ∧ 0 ≤ shiftP b) (q : Q (p4D (joinP a b)) (h)) : callS sp_joined [p4D a, p4D b] h Q := ⟨(a, b), rfl, hp, q⟩
def t_joined : C3 :=
  (cSeq (cAsg (tB3 minR (tC3 (tO ixR (tV 0) (tK (.int 0))) (tC3 (tO ixR (tV 1) (tK (.int 0))) tN3))) (gN 2))
    (cSeq (cAsg (tCall3 sp_common_part (tC3 (tCall3 sp_shift_of (tC3 (tV 0) tN3)) (tC3 (tCall3 sp_shift_of (tC3 (tV 1) tN3)) tN3))) (gN 3))
    (cRet (tTup3 (tC3 (tV 2) (tC3 (tO addR (tV 2) (tV 3)) (tC3 (tO subR (tO subR (tB3 maxR (tC3 (tCall3 sp_reach_end (tC3 (tV 0) tN3)) (tC3 (tCall3 sp_reach_end (tC3 (tV 1) tN3)) tN3))) (tV 2)) (tV 3)) (tC3 (tK (.bl false)) tN3))))))))

theorem rd_joined : ∀ ds h Q E, ClS h.length h → ClDs h.length ds → sp_joined ds h Q E → t_joined (ends3 (GQ h.length Q)) (start3 4 ds) h := by
  rintro ds h Q E hcl _ ⟨⟨a, b⟩, rfl, hp0, q0⟩
  have hp : 0 ≤ shiftP a ∧ 0 ≤ shiftP b := hp0
  have q : Q (p4D (joinP a b)) (h) := q0
  clear hp0 q0
  try simp only [↓tV_q, ↓tK_q, ↓tO_q, ↓tN3_q, ↓tC3_q, ↓cSeq_q, ↓cAsg_q, ↓gN_q, ↓tCall3_q, ↓tB3_q, ↓start3_q, ↓ixR_ti_q, ↓minR_ii_q, thenE_nx, onO_some, atT_0, List.getElem?_cons_zero, List.getElem?_cons_succ, List.set_cons_zero, List.set_cons_succ, List.map_cons, List.map_nil, List.cons_append, List.nil_append, List.length_cons, List.length_nil, List.replicate_succ, List.replicate_zero, Nat.reduceAdd, Nat.reduceSub, t_joined, p4D, pr]
  refine shift_of_q (x := a) ?_
  try simp only [↓tV_q, ↓tN3_q, ↓tC3_q, ↓tCall3_q, onO_some, List.getElem?_cons_zero, List.getElem?_cons_succ]
  refine shift_of_q (x := b) ?_
  try simp only [↓tN3_q]
  refine common_part_q hp ?_
  try simp only [↓tV_q, ↓tO_q, ↓tN3_q, ↓tC3_q, ↓tTup3_q, ↓cRet_q, ↓gN_q, ↓tCall3_q, ↓tB3_q, ↓addR_ii_q, thenE_nx, onO_some, List.getElem?_cons_zero, List.getElem?_cons_succ, List.set_cons_zero, List.set_cons_succ]
  refine reach_end_q (x := a) ?_
  try simp only [↓tV_q, ↓tN3_q, ↓tC3_q, ↓tCall3_q, onO_some, List.getElem?_cons_zero, List.getElem?_cons_succ]
  refine reach_end_q (x := b) ?_
  try simp only [↓tV_q, ↓tK_q, ↓tN3_q, ↓tC3_q, ↓subR_ii_q, ↓maxR_ii_q, ends3_rt, onO_some, List.getElem?_cons_zero, List.getElem?_cons_succ]
  exact .inl q
def sp_is_lead : Sp3 := spD (fun (x : P4) => [p4D x]) (fun (x : P4) (h : Sto) => True) (fun (x : P4) (h : Sto) => .bl (leadP x)) (fun (x : P4) (h : Sto) => h)
theorem mono_is_lead : MonoS sp_is_lead := mono_spD
theorem len_is_lead : ∀ ds h Q E, sp_is_lead ds h Q E → ds.length = 1 := len_spD fun _ => rfl
theorem is_lead_q {x : P4} {h : Sto} {Q : DK} (q : Q (.bl (leadP x)) (h)) : callS sp_is_lead [p4D x] h Q := ⟨x, rfl, trivial, q⟩
def t_is_lead : C3 :=
  (cSeq (cAsg (tV 0) (gTup3 4 (gCons3 (gN 1) (gCons3 (gN 2) (gCons3 (gN 3) (gCons3 (gN 4) gNil3))))))
    (cRet (tAndE (tO ltR (tV 1) (tV 2)) (tOrE (tNotE (tV 4)) (tO geR (tV 2) (tO addR (tV 1) (tV 3)))))))

theorem rd_is_lead : ∀ ds h Q E, ClS h.length h → ClDs h.length ds → sp_is_lead ds h Q E → t_is_lead (ends3 (GQ h.length Q)) (start3 5 ds) h := by
  rintro ds h Q E hcl _ ⟨x, rfl, hp0, q0⟩
  have q : Q (.bl (leadP x)) (h) := q0
  clear hp0 q0
  try simp only [↓tV_q, ↓tO_q, ↓tAndE_q, ↓cSeq_q, ↓cRet_q, ↓cAsg_q, ↓gN_q, ↓gNil3_q, ↓gCons3_q, ↓gTup3_q, ↓start3_q, ↓ltR_ii_q, thenE_nx, onO_some, ifT_q, List.getElem?_cons_zero, List.getElem?_cons_succ, List.set_cons_zero, List.set_cons_succ, List.map_cons, List.map_nil, List.cons_append, List.nil_append, List.length_cons, List.length_nil, List.replicate_succ, List.replicate_zero, Nat.reduceAdd, Nat.reduceSub, true_and, t_is_lead, p4D, pr]
  refine ifC_of (fun hc => ?_) (fun hc => ?_)
  · cases ht : x.2.2.2 with
    | true =>
      rw [show leadP x = decide (x.2.1 ≥ x.1 + x.2.2.1) by simp [leadP, ht, hc]] at q
      try simp only [↓tV_q, ↓tO_q, ↓tNotE_q, ↓tOrE_q, ↓addR_ii_q, ↓geR_ii_q, ends3_rt, onO_some, onB_bl, ifC_false, ifT_q, List.getElem?_cons_zero, List.getElem?_cons_succ, Bool.not_true]
      exact .inl q
    | false =>
      rw [show leadP x = true by simp [leadP, ht, hc]] at q
      try simp only [↓tV_q, ↓tNotE_q, ↓tOrE_q, ends3_rt, onO_some, onB_bl, ifC_true, ifT_q, List.getElem?_cons_zero, List.getElem?_cons_succ, Bool.not_false]
      exact .inl q
  · rw [show leadP x = false by simp [leadP, hc]] at q
    exact .inl q
def sp_is_within : Sp3 := spD (fun (a__ : P4 × Int × Int) => match a__ with | (l, b, n) => [p4D l, .int b, .int n]) (fun (a__ : P4 × Int × Int) (h : Sto) => match a__ with | (l, b, n) => True) (fun (a__ : P4 × Int × Int) (h : Sto) => match a__ with | (l, b, n) => .bl (withinP l b n)) (fun (a__ : P4 × Int × Int) (h : Sto) => match a__ with | (l, b, n) => h)
theorem mono_is_within : MonoS sp_is_within := mono_spD
theorem len_is_within : ∀ ds h Q E, sp_is_within ds h Q E → ds.length = 3 := len_spD fun _ => rfl
theorem is_within_q {l : P4} {b : Int} {n : Int} {h : Sto} {Q : DK} (q : Q (.bl (withinP l b n)) (h)) : callS sp_is_within [p4D l, .int b, .int n] h Q := ⟨(l, b, n), rfl, trivial, q⟩
def t_is_within : C3 :=
  (cRet (tAndE (tO leR (tO ixR (tV 0) (tK (.int 1))) (tV 1)) (tO leR (tO addR (tV 1) (tV 2)) (tCall3 sp_reach_end (tC3 (tV 0) tN3)))))

theorem rd_is_within : ∀ ds h Q E, ClS h.length h → ClDs h.length ds → sp_is_within ds h Q E → t_is_within (ends3 (GQ h.length Q)) (start3 3 ds) h := by
  rintro ds h Q E hcl _ ⟨⟨l, b, n⟩, rfl, hp0, q0⟩
  have q : Q (.bl (withinP l b n)) (h) := q0
  clear hp0 q0
  try simp only [↓tV_q, ↓tK_q, ↓tO_q, ↓tAndE_q, ↓cRet_q, ↓start3_q, ↓leR_ii_q, ↓ixR_ti_q, onO_some, ifT_q, atT_0, atT_1, List.getElem?_cons_zero, List.getElem?_cons_succ, List.map_cons, List.map_nil, List.cons_append, List.nil_append, List.length_cons, List.length_nil, List.replicate_zero, Nat.reduceAdd, Nat.reduceSub, t_is_within, p4D, pr]
  refine ifC_of (fun hc => ?_) (fun hc => ?_)
  · try simp only [↓tV_q, ↓tO_q, ↓tN3_q, ↓tC3_q, ↓tCall3_q, ↓start3_q, ↓addR_ii_q, onO_some, List.getElem?_cons_zero, List.getElem?_cons_succ, List.map_cons, List.map_nil, List.cons_append, List.nil_append, List.length_cons, List.length_nil, List.replicate_zero, Nat.reduceAdd, Nat.reduceSub]
    refine reach_end_q (x := l) ?_
    try simp only [↓leR_ii_q, ends3_rt]
    rw [show withinP l b n = decide (b + n ≤ reachP l) by simp [withinP, hc]] at q
    exact .inl q
  · rw [show withinP l b n = false by simp [withinP, hc]] at q
    exact .inl q
/-- numbers that fit -/
def FitP (l : P4) (b : Int) : Prop := 0 ≤ l.1 ∧ (l.2.2.2 = false → 0 < shiftP l) ∧ l.2.1 < 2 ^ 1000 ∧ l.1 ≤ b ∧ b < 2 ^ 1000
def sp_led_back : Sp3 := spD (fun (a__ : P4 × Int × Int) => match a__ with | (l, b, n) => [p4D l, .int b, .int n]) (fun (a__ : P4 × Int × Int) (h : Sto) => match a__ with | (l, b, n) => FitP l b) (fun (a__ : P4 × Int × Int) (h : Sto) => match a__ with | (l, b, n) => .int (ledP l b n)) (fun (a__ : P4 × Int × Int) (h : Sto) => match a__ with | (l, b, n) => h)
theorem mono_led_back : MonoS sp_led_back := mono_spD
theorem len_led_back : ∀ ds h Q E, sp_led_back ds h Q E → ds.length = 3 := len_spD fun _ => rfl
theorem led_back_q {l : P4} {b : Int} {n : Int} {h : Sto} {Q : DK} (hp : FitP l b) (q : Q (.int (ledP l b n)) (h)) : callS sp_led_back [p4D l, .int b, .int n] h Q := ⟨(l, b, n), rfl, hp, q⟩
def r_led_back_1 : C3 :=
  (cSeq (cAsg (tCall3 sp_shift_of (tC3 (tV 0) tN3)) (gN 3))
    (cRet (tO subR (tV 1) (tO mulR (tO divR (tO subR (tV 1) (tO ixR (tV 0) (tK (.int 0)))) (tV 3)) (tV 3)))))
def t_led_back : C3 :=
  (cSeq (cIf (tT (tO ixR (tV 0) (tK (.int 3)))) (cRet (tO addR (tO subR (tO subR (tCall3 sp_sum_of_ends (tC3 (tV 0) tN3)) (tV 1)) (tV 2)) (tK (.int 1)))) cNext)
    r_led_back_1)

theorem rd_led_back : ∀ ds h Q E, ClS h.length h → ClDs h.length ds → sp_led_back ds h Q E → t_led_back (ends3 (GQ h.length Q)) (start3 4 ds) h := by
  rintro ds h Q E hcl _ ⟨⟨l, b, n⟩, rfl, hp0, q0⟩
  have hp : FitP l b := hp0
  have q : Q (.int (ledP l b n)) (h) := q0
  clear hp0 q0
  obtain ⟨l0, s0, l1, b0, b1⟩ := hp
  try simp only [↓tV_q, ↓tK_q, ↓tO_q, ↓tT_q, ↓cSeq_q, ↓cIf_q, ↓start3_q, ↓ixR_ti_q, onO_some, onB_bl, atT_0, atT_1, atT_2, atT_3, List.getElem?_cons_zero, List.map_cons, List.map_nil, List.cons_append, List.nil_append, List.length_cons, List.length_nil, List.replicate_succ, List.replicate_zero, Nat.reduceAdd, Nat.reduceSub, t_led_back, p4D, pr]
  cases ht : l.2.2.2 with
  | true =>
    try simp only [↓tV_q, ↓tO_q, ↓tN3_q, ↓tC3_q, ↓cRet_q, ↓tCall3_q, ↓start3_q, onO_some, ifC_true, List.getElem?_cons_zero, List.map_cons, List.map_nil, List.cons_append, List.nil_append, List.length_cons, List.length_nil, List.replicate_succ, List.replicate_zero, Nat.reduceAdd, Nat.reduceSub]
    rw [← ht]
    refine sum_of_ends_q (x := l) ?_
    try simp only [↓tV_q, ↓tK_q, ↓start3_q, ↓addR_ii_q, ↓subR_ii_q, thenE_rt, ends3_rt, onO_some, List.getElem?_cons_zero, List.getElem?_cons_succ, List.map_cons, List.map_nil, List.cons_append, List.nil_append, List.length_cons, List.length_nil, List.replicate_succ, List.replicate_zero, Nat.reduceAdd, Nat.reduceSub]
    rw [show ledP l b n = sumP l - b - n + 1 by simp [ledP, ht]] at q
    exact .inl q
  | false =>
    try simp only [↓tV_q, ↓tN3_q, ↓tC3_q, ↓cNext_q, ↓cSeq_q, ↓cAsg_q, ↓tCall3_q, ↓start3_q, thenE_nx, onO_some, ifC_false, List.getElem?_cons_zero, List.map_cons, List.map_nil, List.cons_append, List.nil_append, List.length_cons, List.length_nil, List.replicate_succ, List.replicate_zero, Nat.reduceAdd, Nat.reduceSub, r_led_back_1]
    rw [← ht]
    refine shift_of_q (x := l) ?_
    try simp only [↓tV_q, ↓tK_q, ↓tO_q, ↓cRet_q, ↓gN_q, ↓subR_ii_q, ↓mulR_ii_q, ↓divR_ii_q, ↓ixR_ti_q, thenE_nx, ends3_rt, onO_some, atT_0, List.getElem?_cons_zero, List.getElem?_cons_succ, List.set_cons_zero, List.set_cons_succ]
    have sp := s0 ht
    have sh : shiftP l < 2 ^ 1000 := by unfold shiftP; omega
    have d0 : 0 ≤ (b - l.1) / shiftP l := Int.ediv_nonneg (by omega) (by omega)
    have d1 : (b - l.1) / shiftP l ≤ b - l.1 := Int.ediv_le_self _ (by omega)
    rw [show ledP l b n = b - (b - l.1) / shiftP l * shiftP l by simp [ledP, ht]] at q
    exact ⟨divOk_of sp (Int.lt_of_lt_of_le sh (by decide)), mulOk_w (a := 1000) (b := 1000) (by omega) (by omega) (by decide), .inl q⟩
def sp_carried : Sp3 := spD (fun (a__ : P4 × P4 × Bool) => match a__ with | (l, x, s) => [p4D l, p4D x, .str (if s = true then "low" else "high")]) (fun (a__ : P4 × P4 × Bool) (h : Sto) => match a__ with | (l, x, s) => FitP l (if s = true then x.1 else x.2.1)) (fun (a__ : P4 × P4 × Bool) (h : Sto) => match a__ with | (l, x, s) => p4D (carryP l x s)) (fun (a__ : P4 × P4 × Bool) (h : Sto) => match a__ with | (l, x, s) => h)
theorem mono_carried : MonoS sp_carried := mono_spD
theorem len_carried : ∀ ds h Q E, sp_carried ds h Q E → ds.length = 3 := len_spD fun _ => rfl
theorem carried_q {l : P4} {x : P4} {s : Bool} {h : Sto} {Q : DK} (hp : FitP l (if s = true then x.1 else x.2.1)) (q : Q (p4D (carryP l x s)) (h)) : callS sp_carried [p4D l, p4D x, .str (if s = true then "low" else "high")] h Q := ⟨(l, x, s), rfl, hp, q⟩
def r_carried_1 : C3 :=
  (cRet (tCall3 sp_paired (tC3 (tV 3) (tC3 (tCall3 sp_led_back (tC3 (tV 0) (tC3 (tV 4) (tC3 (tV 5) tN3)))) (tC3 (tV 5) (tC3 (tV 6) tN3))))))
def t_carried : C3 :=
  (cSeq (cAsg (tV 1) (gTup3 4 (gCons3 (gN 3) (gCons3 (gN 4) (gCons3 (gN 5) (gCons3 (gN 6) gNil3))))))
    (cSeq (cAsg (tO neR (tV 6) (tO ixR (tV 0) (tK (.int 3)))) (gN 6))
    (cSeq (cIf (tT (tO eqR (tV 2) (tK (.str "low")))) (cRet (tCall3 sp_paired (tC3 (tCall3 sp_led_back (tC3 (tV 0) (tC3 (tV 3) (tC3 (tV 5) tN3)))) (tC3 (tV 4) (tC3 (tV 5) (tC3 (tV 6) tN3)))))) cNext)
    r_carried_1)))

theorem rd_carried : ∀ ds h Q E, ClS h.length h → ClDs h.length ds → sp_carried ds h Q E → t_carried (ends3 (GQ h.length Q)) (start3 7 ds) h := by
  rintro ds h Q E hcl _ ⟨⟨l, x, s⟩, rfl, hp0, q0⟩
  have hp : FitP l (if s = true then x.1 else x.2.1) := hp0
  have q : Q (p4D (carryP l x s)) (h) := q0
  clear hp0 q0
  have eb : (!decide (x.2.2.2 = l.2.2.2)) = !(x.2.2.2 == l.2.2.2) := by cases x.2.2.2 <;> cases l.2.2.2 <;> rfl
  try simp only [↓tV_q, ↓tK_q, ↓tO_q, ↓tT_q, ↓cSeq_q, ↓cIf_q, ↓cAsg_q, ↓gN_q, ↓gNil3_q, ↓gCons3_q, ↓gTup3_q, ↓start3_q, ↓neR_bb_q, ↓eqR_sq, ↓ixR_ti_q, thenE_nx, onO_some, atT_0, atT_1, atT_2, atT_3, List.getElem?_cons_zero, List.getElem?_cons_succ, List.set_cons_zero, List.set_cons_succ, List.map_cons, List.map_nil, List.cons_append, List.nil_append, List.length_cons, List.length_nil, List.replicate_succ, List.replicate_zero, Nat.reduceAdd, Nat.reduceSub, true_and, t_carried, p4D, pr]
  cases s with
  | true =>
    simp only [if_true] at hp
    rw [show carryP l x true = (mn (ledP l x.1 x.2.2.1) x.2.1, mx (ledP l x.1 x.2.2.1) x.2.1, x.2.2.1, !decide (x.2.2.2 = l.2.2.2)) by simp [carryP], eb] at q
    try simp only [↓tV_q, ↓tN3_q, ↓tC3_q, ↓cRet_q, ↓tCall3_q, onO_some, onB_bl, ifC_true, List.getElem?_cons_zero, List.getElem?_cons_succ, if_true, decide_true, eqT_s so_low so_low]
    refine led_back_q (l := l) hp ?_
    try simp only [↓tV_q, ↓tN3_q, ↓tC3_q, onO_some, List.getElem?_cons_zero, List.getElem?_cons_succ, if_true]
    exact pair_q (.inl q)
  | false =>
    simp only [if_neg Bool.false_ne_true] at hp
    rw [show carryP l x false = (mn x.1 (ledP l x.2.1 x.2.2.1), mx x.1 (ledP l x.2.1 x.2.2.1), x.2.2.1, !decide (x.2.2.2 = l.2.2.2)) by simp [carryP], eb] at q
    try simp only [onB_bl, Bool.false_eq_true, if_false, eqT_s so_high so_low]
    refine ifC_of (fun z => absurd z (by decide)) fun _ => ?_
    try simp only [↓tV_q, ↓tN3_q, ↓tC3_q, ↓cNext_q, ↓cRet_q, ↓tCall3_q, thenE_nx, onO_some, List.getElem?_cons_zero, List.getElem?_cons_succ, Bool.false_eq_true, if_false, r_carried_1]
    refine led_back_q (l := l) hp ?_
    try simp only [↓tV_q, ↓tN3_q, ↓tC3_q, onO_some, List.getElem?_cons_zero, List.getElem?_cons_succ]
    exact pair_q (.inl q)
def insP (prs : List P4) (k : Nat) (m : List P4) : List P4 := prs.take k ++ m ++ prs.drop (k + 1)
def sp_instead : Sp3 := spD (fun (a__ : Nat × List P4 × Nat × Nat × List P4) => match a__ with | (i, prs, k, m, ms) => [.ref i, .int (k : Int), .ref m]) (fun (a__ : Nat × List P4 × Nat × Nat × List P4) (h : Sto) => match a__ with | (i, prs, k, m, ms) => h[i]? = some (.lst (prs.map p4D)) ∧ h[m]? = some (.lst (ms.map p4D)) ∧ k < prs.length ∧ prs.length ≤ 1000 ∧ ms.length ≤ 1000) (fun (a__ : Nat × List P4 × Nat × Nat × List P4) (h : Sto) => match a__ with | (i, prs, k, m, ms) => .ref h.length) (fun (a__ : Nat × List P4 × Nat × Nat × List P4) (h : Sto) => match a__ with | (i, prs, k, m, ms) => h ++ [.lst ((insP prs k ms).map p4D)])
theorem mono_instead : MonoS sp_instead := mono_spD
theorem len_instead : ∀ ds h Q E, sp_instead ds h Q E → ds.length = 3 := len_spD fun _ => rfl
theorem instead_q {i : Nat} {prs : List P4} {k : Nat} {m : Nat} {ms : List P4} {h : Sto} {Q : DK} (hp : h[i]? = some (.lst (prs.map p4D)) ∧ h[m]? = some (.lst (ms.map p4D)) ∧ k < prs.length ∧ prs.length ≤ 1000 ∧ ms.length ≤ 1000) (q : Q (.ref h.length) (h ++ [.lst ((insP prs k ms).map p4D)])) : callS sp_instead [.ref i, .int (k : Int), .ref m] h Q := ⟨(i, prs, k, m, ms), rfl, hp, q⟩
def t_instead : C3 :=
  (cRet (tO addR (tO addR (tSl3 (tV 0) oNo (oSo (tV 1))) (tV 2)) (tSl3 (tV 0) (oSo (tO addR (tV 1) (tK (.int 1)))) oNo)))

theorem rd_instead : ∀ ds h Q E, ClS h.length h → ClDs h.length ds → sp_instead ds h Q E → t_instead (ends3 (GQ h.length Q)) (start3 3 ds) h := by
  rintro ds h Q E hcl _ ⟨⟨i, prs, k, m, ms⟩, rfl, hp0, q0⟩
  have hp : h[i]? = some (.lst (prs.map p4D)) ∧ h[m]? = some (.lst (ms.map p4D)) ∧ k < prs.length ∧ prs.length ≤ 1000 ∧ ms.length ≤ 1000 := hp0
  have q : Q (.ref h.length) (h ++ [.lst ((insP prs k ms).map p4D)]) := q0
  clear hp0 q0
  obtain ⟨hi, hm, hk, hl, ml⟩ := hp
  try simp only [↓tV_q, ↓tO_q, ↓cRet_q, ↓tSl3_q, ↓oNo_q, ↓oSo_q, ↓start3_q, ↓addR_rq, ↓slR_rq, onO_some, onI_int, onC_q, List.getElem?_cons_zero, List.getElem?_cons_succ, List.map_cons, List.map_nil, List.cons_append, List.nil_append, List.length_cons, List.length_nil, List.replicate_zero, Nat.reduceAdd, Nat.reduceSub, t_instead, hi, get_up hi, get_up hm]
  rw [cut_pre hk]
  try simp only [↓tV_q, ↓tK_q, ↓tO_q, ↓tSl3_q, ↓oNo_q, ↓oSo_q, ↓start3_q, ↓addR_ii_q, ↓addR_rq, ↓slR_rq, onO_some, onI_int, onC_q, List.getElem?_cons_zero, List.getElem?_cons_succ, List.map_cons, List.map_nil, List.cons_append, List.nil_append, List.length_cons, List.length_nil, List.replicate_zero, Nat.reduceAdd, Nat.reduceSub, get_new, get_up hm, get_up hi, get_up (get_up hi)]
  rw [cut_suf hk]
  try simp only [ends3_rt, onC_q, get_new, get_new2]
  refine ⟨by simp; omega, by simp; omega, ?_⟩
  rw [show (prs.take k).map p4D ++ ms.map p4D ++ (prs.drop (k + 1)).map p4D = (insP prs k ms).map p4D by simp [insP]]
  have g1 := gq_one (k := 3) (n := h.length) (g := [.lst ((prs.take k).map p4D), .lst ((prs.take k).map p4D ++ ms.map p4D), .lst ((prs.drop (k + 1)).map p4D), .lst ((insP prs k ms).map p4D)]) rfl rfl cl_p4s hcl q
  simpa using g1
/-! ### folded, joined, carried -/
def PrsOk (H : Hal) : Prop := (H.1 : Int) < 2 ^ 1000 ∧ ∀ q ∈ H.2.1, PrIn (H.1 : Int) q
theorem nth_mem {H : Hal} {k : Nat} (hk : k < H.2.1.length) : nthP H k ∈ H.2.1 := by
  unfold nthP
  rw [List.getD_eq_getElem?_getD, List.getElem?_eq_getElem hk]
  exact List.getElem_mem hk
def foldA (H : Hal) : List D → Option Hal
  | [d] => match numP H.2.1.length d with
    | some k => if bentP (nthP H k) = true then some (H.1, insP H.2.1 k [foldP (nthP H k)], H.2.2) else none
    | none => none
  | _ => none
def sp_folded_in : Sp3 := spA (fun _ => True) foldA
theorem mono_folded_in : MonoS sp_folded_in := mono_spA
theorem len_folded_in : ∀ ds h Q E, sp_folded_in ds h Q E → ds.length = 2 := len_spA
def t_folded_in (E4 : X4) : C3 :=
  (cSeq (cAsg (tV 0) (gTup3 3 (gCons3 (gN 2) (gCons3 (gN 3) (gCons3 (gN 4) gNil3)))))
    (cSeq (cDrop (tCallX sp_look E4 (tC3 (tAndE (tO eqR (tB3 lenR (tC3 (tV 1) tN3)) (tK (.int 2))) (tAndE (tCall3 sp_is_number (tC3 (tV 0) (tC3 (tO ixR (tV 1) (tK (.int 1))) tN3))) (tCall3 sp_is_bent (tC3 (tO ixR (tV 3) (tO ixR (tV 1) (tK (.int 1)))) tN3)))) tN3)))
    (cRet (tTup3 (tC3 (tV 2) (tC3 (tCall3 sp_instead (tC3 (tV 3) (tC3 (tO ixR (tV 1) (tK (.int 1))) (tC3 (tNew (tC3 (tCall3 sp_folded (tC3 (tO ixR (tV 3) (tO ixR (tV 1) (tK (.int 1)))) tN3)) tN3)) tN3)))) (tC3 (tNew (tL3 lstM (tC3 (tV 4) tN3))) tN3)))))))

theorem rd_folded_in : ∀ ds h Q E, ClS h.length h → ClDs h.length ds → sp_folded_in ds h Q E → t_folded_in (GE h.length E) (ends3 (GQ h.length Q)) (start3 5 ds) h := by
  rintro ds h Q E hcl _ ⟨⟨n, prs, w⟩, i, j, x, as, rfl, ⟨hi, hj, pl, wl⟩, _, hk, h1, h2⟩
  dsimp only at hi hj pl wl
  rcases as with _ | ⟨d, _ | ⟨d2, r⟩⟩
  · try simp only [↓tV_q, ↓tK_q, ↓tO_q, ↓tAndE_q, ↓tN3_q, ↓tC3_q, ↓cSeq_q, ↓cDrop_q, ↓cAsg_q, ↓gN_q, ↓gNil3_q, ↓gCons3_q, ↓gTup3_q, ↓tB3_q, ↓start3_q, ↓eqR_ii_q, ↓lenR_t_q, ↓tCallX_q, thenE_nx, onO_some, ifT_q, List.getElem?_cons_zero, List.getElem?_cons_succ, List.set_cons_zero, List.set_cons_succ, List.map_cons, List.map_nil, List.cons_append, List.nil_append, List.length_cons, List.length_nil, List.replicate_succ, List.replicate_zero, Nat.reduceAdd, Nat.reduceSub, true_and, t_folded_in, hallD]
    refine ifC_of (fun z => by simp at z) fun _ => ?_
    try simp only [↓tN3_q]
    exact look_q (fun z => nomatch z) fun _ => .inl (h2 rfl)
  · have kd := hk d List.mem_cons_self
    try simp only [↓tV_q, ↓tK_q, ↓tO_q, ↓tAndE_q, ↓tN3_q, ↓tC3_q, ↓cSeq_q, ↓cDrop_q, ↓cAsg_q, ↓gN_q, ↓gNil3_q, ↓gCons3_q, ↓gTup3_q, ↓tB3_q, ↓start3_q, ↓eqR_ii_q, ↓lenR_t_q, ↓tCallX_q, thenE_nx, onO_some, ifT_q, List.getElem?_cons_zero, List.getElem?_cons_succ, List.set_cons_zero, List.set_cons_succ, List.map_cons, List.map_nil, List.cons_append, List.nil_append, List.length_cons, List.length_nil, List.replicate_succ, List.replicate_zero, Nat.reduceAdd, Nat.reduceSub, true_and, t_folded_in, hallD]
    refine ifC_of (fun _ => ?_) (fun z => absurd rfl z)
    try simp only [↓tV_q, ↓tK_q, ↓tO_q, ↓tAndE_q, ↓tN3_q, ↓tC3_q, ↓tCall3_q, ↓ixR_ti_q, onO_some, atT_0, atT_1, List.getElem?_cons_zero, List.getElem?_cons_succ]
    refine is_number_q (n := n) (i := i) (j := j) ⟨hi, kd⟩ ?_
    cases hn : numP prs.length d with
    | none =>
      try simp only [↓tN3_q, ifC_false, ifT_q, Option.isSome_none]
      exact look_q (fun z => nomatch z) fun _ => .inl (h2 (by simp only [foldA, hn]))
    | some k =>
      obtain ⟨rfl, hk'⟩ := num_some hn
      try simp only [↓tV_q, ↓tK_q, ↓tO_q, ↓tC3_q, ↓tCall3_q, ↓ixR_ti_q, ↓ixR_rq, onO_some, ifC_true, onC_q, ifT_q, atT_0, atT_1, List.getElem?_cons_zero, List.getElem?_cons_succ, hi, Option.isSome_some]
      rw [at_nth (n := n) (w := w) hk']
      refine is_bent_q ?_
      try simp only [↓tN3_q]
      refine look_q (fun hs => ?_) (fun hs => ?_)
      · try simp only [↓tV_q, ↓tK_q, ↓tO_q, ↓tC3_q, ↓tTup3_q, ↓tNew_q, ↓cRet_q, ↓tCall3_q, ↓ixR_ti_q, ↓ixR_rq, thenE_nx, onO_some, onC_q, atT_0, atT_1, List.getElem?_cons_zero, List.getElem?_cons_succ, hi]
        rw [at_nth (n := n) (w := w) hk']
        refine folded_q ?_
        try simp only [↓tN3_q]
        refine instead_q (ms := [foldP (nthP (n, prs, w) k)]) ⟨get_up hi, get_new, hk', pl, by simp⟩ ?_
        try simp only [↓tV_q, ↓tN3_q, ↓tC3_q, ↓tNew_q, ↓tL3_q, ↓lstM_rq, ends3_rt, onO_some, onC_q, List.getElem?_cons_zero, List.getElem?_cons_succ, get_up (get_up hj)]
        have g1 := h1 (n, insP prs k [foldP (nthP (n, prs, w) k)], w) (by simp only [foldA, hn, hs, if_true]) [.lst [p4D (foldP (nthP (n, prs, w) k))], .lst ((insP prs k [foldP (nthP (n, prs, w) k)]).map p4D), .lst (w.map pcD)] 1 2 (by decide) rfl rfl
        simp only [hallD] at g1
        refine .inl ?_
        simpa using g1
      · exact .inl (h2 (by simp only [foldA, hn, hs]; rfl))
  · try simp only [↓tV_q, ↓tK_q, ↓tO_q, ↓tAndE_q, ↓tN3_q, ↓tC3_q, ↓cSeq_q, ↓cDrop_q, ↓cAsg_q, ↓gN_q, ↓gNil3_q, ↓gCons3_q, ↓gTup3_q, ↓tB3_q, ↓start3_q, ↓eqR_ii_q, ↓lenR_t_q, ↓tCallX_q, thenE_nx, onO_some, ifT_q, List.getElem?_cons_zero, List.getElem?_cons_succ, List.set_cons_zero, List.set_cons_succ, List.map_cons, List.map_nil, List.cons_append, List.nil_append, List.length_cons, List.length_nil, List.replicate_succ, List.replicate_zero, Nat.reduceAdd, Nat.reduceSub, true_and, t_folded_in, hallD]
    refine ifC_of (fun z => by simp at z; omega) fun _ => ?_
    try simp only [↓tN3_q]
    exact look_q (fun z => nomatch z) fun _ => .inl (h2 rfl)
def joinA (H : Hal) : List D → Option Hal
  | [d, e] => match numP H.2.1.length d, numP H.2.1.length e with
    | some j, some k => if j < k ∧ canJoinP (nthP H j) (nthP H k) = true then some (H.1, insP (H.2.1.eraseIdx k) j [joinP (nthP H j) (nthP H k)], H.2.2) else none
    | _, _ => none
  | _ => none
def sp_joined_in : Sp3 := spA (fun _ => True) joinA
theorem mono_joined_in : MonoS sp_joined_in := mono_spA
theorem len_joined_in : ∀ ds h Q E, sp_joined_in ds h Q E → ds.length = 2 := len_spA
def t_joined_in (E4 : X4) : C3 :=
  (cSeq (cAsg (tV 0) (gTup3 3 (gCons3 (gN 2) (gCons3 (gN 3) (gCons3 (gN 4) gNil3)))))
    (cSeq (cDrop (tCallX sp_look E4 (tC3 (tAndE (tO eqR (tB3 lenR (tC3 (tV 1) tN3)) (tK (.int 3))) (tAndE (tCall3 sp_is_number (tC3 (tV 0) (tC3 (tO ixR (tV 1) (tK (.int 1))) tN3))) (tAndE (tCall3 sp_is_number (tC3 (tV 0) (tC3 (tO ixR (tV 1) (tK (.int 2))) tN3))) (tO ltR (tO ixR (tV 1) (tK (.int 1))) (tO ixR (tV 1) (tK (.int 2))))))) tN3)))
    (cSeq (cPar 5 6 (tC3 (tO ixR (tV 3) (tO ixR (tV 1) (tK (.int 1)))) (tC3 (tO ixR (tV 3) (tO ixR (tV 1) (tK (.int 2)))) tN3)))
    (cSeq (cDrop (tCallX sp_look E4 (tC3 (tCall3 sp_can_join (tC3 (tV 5) (tC3 (tV 6) tN3))) tN3)))
    (cRet (tTup3 (tC3 (tV 2) (tC3 (tCall3 sp_instead (tC3 (tCall3 sp_without (tC3 (tV 3) (tC3 (tO ixR (tV 1) (tK (.int 2))) tN3))) (tC3 (tO ixR (tV 1) (tK (.int 1))) (tC3 (tNew (tC3 (tCall3 sp_joined (tC3 (tV 5) (tC3 (tV 6) tN3))) tN3)) tN3)))) (tC3 (tNew (tL3 lstM (tC3 (tV 4) tN3))) tN3)))))))))

theorem rd_joined_in : ∀ ds h Q E, ClS h.length h → ClDs h.length ds → sp_joined_in ds h Q E → t_joined_in (GE h.length E) (ends3 (GQ h.length Q)) (start3 7 ds) h := by
  rintro ds h Q E hcl _ ⟨⟨n, prs, w⟩, i, j, x, as, rfl, ⟨hi, hj, pl, wl⟩, _, hk, h1, h2⟩
  dsimp only at hi hj pl wl
  have bad : ∀ as : List D, (↑(as.length + 1) : Int) ≠ 3 → joinA (n, prs, w) as = none := by
    intro as ha
    rcases as with _ | ⟨a, _ | ⟨b, _ | ⟨c, r⟩⟩⟩ <;> first | rfl | (simp at ha)
  by_cases hl : (↑(as.length + 1) : Int) = 3
  · rcases as with _ | ⟨d, _ | ⟨e, _ | ⟨c, r⟩⟩⟩ <;> first | (exfalso; simp at hl; done) | (exfalso; simp at hl; omega) | skip
    have kd := hk d (by simp)
    have ke := hk e (by simp)
    try simp only [↓tV_q, ↓tK_q, ↓tO_q, ↓tAndE_q, ↓tN3_q, ↓tC3_q, ↓cSeq_q, ↓cDrop_q, ↓cAsg_q, ↓gN_q, ↓gNil3_q, ↓gCons3_q, ↓gTup3_q, ↓tB3_q, ↓start3_q, ↓eqR_ii_q, ↓lenR_t_q, ↓tCallX_q, thenE_nx, onO_some, ifT_q, List.getElem?_cons_zero, List.getElem?_cons_succ, List.set_cons_zero, List.set_cons_succ, List.map_cons, List.map_nil, List.cons_append, List.nil_append, List.length_cons, List.length_nil, List.replicate_succ, List.replicate_zero, Nat.reduceAdd, Nat.reduceSub, true_and, t_joined_in, hallD]
    refine ifC_of (fun _ => ?_) (fun z => absurd rfl z)
    try simp only [↓tV_q, ↓tK_q, ↓tO_q, ↓tAndE_q, ↓tN3_q, ↓tC3_q, ↓tCall3_q, ↓ixR_ti_q, onO_some, atT_0, atT_1, List.getElem?_cons_zero, List.getElem?_cons_succ]
    refine is_number_q (n := n) (i := i) (j := j) ⟨hi, kd⟩ ?_
    cases hd : numP prs.length d with
    | none =>
      try simp only [↓tN3_q, ifC_false, ifT_q, Option.isSome_none]
      exact look_q (fun z => nomatch z) fun _ => .inl (h2 (by simp only [joinA, hd]))
    | some a =>
      try simp only [↓tV_q, ↓tK_q, ↓tO_q, ↓tAndE_q, ↓tN3_q, ↓tC3_q, ↓tCall3_q, ↓ixR_ti_q, onO_some, ifC_true, ifT_q, atT_0, atT_1, atT_2, List.getElem?_cons_zero, List.getElem?_cons_succ, Option.isSome_some]
      refine is_number_q (n := n) (i := i) (j := j) ⟨hi, ke⟩ ?_
      cases he : numP prs.length e with
      | none =>
        try simp only [↓tN3_q, ifC_false, ifT_q, Option.isSome_none]
        exact look_q (fun z => nomatch z) fun _ => .inl (h2 (by simp only [joinA, hd, he]))
      | some b =>
        obtain ⟨rfl, ha'⟩ := num_some hd
        obtain ⟨rfl, hb'⟩ := num_some he
        try simp only [↓tV_q, ↓tK_q, ↓tO_q, ↓tN3_q, ↓ltR_ii_q, ↓ixR_ti_q, onO_some, ifC_true, ifT_q, atT_0, atT_1, atT_2, List.getElem?_cons_zero, List.getElem?_cons_succ, Option.isSome_some]
        refine look_q (fun hs => ?_) (fun hs => ?_)
        · have hab : a < b := by simpa using hs
          try simp only [↓tV_q, ↓tK_q, ↓tO_q, ↓tC3_q, ↓cSeq_q, ↓cPar_q, ↓ixR_ti_q, ↓ixR_rq, thenE_nx, onO_some, onC_q, atT_0, atT_1, List.getElem?_cons_zero, List.getElem?_cons_succ, hi]
          rw [at_nth (n := n) (w := w) ha']
          try simp only [↓tV_q, ↓tK_q, ↓tO_q, ↓tC3_q, ↓ixR_ti_q, ↓ixR_rq, onO_some, onC_q, atT_0, atT_1, atT_2, List.getElem?_cons_zero, List.getElem?_cons_succ, hi]
          rw [at_nth (n := n) (w := w) hb']
          try simp only [↓tV_q, ↓tN3_q, ↓tC3_q, ↓cSeq_q, ↓cDrop_q, ↓parD_q, ↓tCall3_q, ↓tCallX_q, thenE_nx, onO_some, List.getElem?_cons_zero, List.getElem?_cons_succ, List.set_cons_zero, List.set_cons_succ]
          refine can_join_q ?_
          refine look_q (fun hc => ?_) (fun hc => ?_)
          · try simp only [↓tV_q, ↓tK_q, ↓tO_q, ↓tN3_q, ↓tC3_q, ↓tTup3_q, ↓cRet_q, ↓tCall3_q, ↓ixR_ti_q, thenE_nx, onO_some, atT_0, atT_1, atT_2, List.getElem?_cons_zero, List.getElem?_cons_succ]
            refine without_q ⟨hi, hb', pl⟩ ?_
            try simp only [↓tV_q, ↓tK_q, ↓tO_q, ↓tN3_q, ↓tC3_q, ↓tNew_q, ↓tCall3_q, ↓ixR_ti_q, onO_some, atT_0, atT_1, List.getElem?_cons_zero, List.getElem?_cons_succ]
            have hsa : 0 ≤ shiftP (nthP (n, prs, w) a) ∧ 0 ≤ shiftP (nthP (n, prs, w) b) := by
              simp only [canJoinP, turnP, Bool.and_eq_true, decide_eq_true_eq] at hc
              unfold shiftP
              omega
            refine joined_q hsa ?_
            try simp only [↓tN3_q]
            have el : a < (prs.eraseIdx b).length := by rw [List.length_eraseIdx]; split <;> omega
            refine instead_q (prs := prs.eraseIdx b) (ms := [joinP (nthP (n, prs, w) a) (nthP (n, prs, w) b)]) ⟨get_new2, by simp, el, by rw [List.length_eraseIdx]; split <;> omega, by simp⟩ ?_
            try simp only [↓tV_q, ↓tN3_q, ↓tC3_q, ↓tNew_q, ↓tL3_q, ↓lstM_rq, ends3_rt, onO_some, onC_q, List.getElem?_cons_zero, List.getElem?_cons_succ, get_up (get_up (get_up hj))]
            have g1 := h1 (n, insP (prs.eraseIdx b) a [joinP (nthP (n, prs, w) a) (nthP (n, prs, w) b)], w) (by simp only [joinA, hd, he]; rw [if_pos ⟨hab, hc⟩]) [.lst ((prs.eraseIdx b).map p4D), .lst [p4D (joinP (nthP (n, prs, w) a) (nthP (n, prs, w) b))], .lst ((insP (prs.eraseIdx b) a [joinP (nthP (n, prs, w) a) (nthP (n, prs, w) b)]).map p4D), .lst (w.map pcD)] 2 3 (by decide) rfl rfl
            simp only [hallD] at g1
            refine .inl ?_
            simpa using g1
          · exact .inl (h2 (by simp only [joinA, hd, he]; rw [if_neg (fun z => by rw [z.2] at hc; cases hc)]))
        · have hab : ¬ a < b := by simpa using hs
          exact .inl (h2 (by simp only [joinA, hd, he]; rw [if_neg (fun z => hab z.1)]))
  · try simp only [↓tV_q, ↓tK_q, ↓tO_q, ↓tAndE_q, ↓tN3_q, ↓tC3_q, ↓cSeq_q, ↓cDrop_q, ↓cAsg_q, ↓gN_q, ↓gNil3_q, ↓gCons3_q, ↓gTup3_q, ↓tB3_q, ↓start3_q, ↓eqR_ii_q, ↓lenR_t_q, ↓tCallX_q, thenE_nx, onO_some, ifT_q, List.getElem?_cons_zero, List.getElem?_cons_succ, List.set_cons_zero, List.set_cons_succ, List.map_cons, List.map_nil, List.cons_append, List.nil_append, List.length_cons, List.length_nil, List.replicate_succ, List.replicate_zero, Nat.reduceAdd, Nat.reduceSub, true_and, t_joined_in, hallD]
    refine ifC_of (fun z => absurd z hl) fun _ => ?_
    try simp only [↓tN3_q]
    exact look_q (fun z => nomatch z) fun _ => .inl (h2 (bad as hl))
/-- low or high, told -/
def sideP : D → Option Bool
  | .str s => if s = "low" then some true else if s = "high" then some false else none
  | _ => none
theorem side_some {d : D} {b : Bool} (h : sideP d = some b) : d = .str (if b = true then "low" else "high") := by
  cases d <;> first | (cases h; done) | skip
  rename_i s
  have h' : (if s = "low" then some true else if s = "high" then some false else none) = some b := h
  split at h'
  · rename_i e; cases h'; rw [e]; rfl
  · split at h'
    · rename_i e; cases h'; rw [e]; rfl
    · cases h'
theorem ix_p0 {q : P4} {h : Sto} {Q : DK} : ixR (p4D q) (.int 0) h Q = Q (.int q.1) h := by unfold p4D pr; rw [ixR_ti, atD_0]
theorem ix_p1 {q : P4} {h : Sto} {Q : DK} : ixR (p4D q) (.int 1) h Q = Q (.int q.2.1) h := by unfold p4D pr; rw [ixR_ti, atD_1, atD_0]
theorem ix_p2 {q : P4} {h : Sto} {Q : DK} : ixR (p4D q) (.int 2) h Q = Q (.int q.2.2.1) h := by unfold p4D pr; rw [ixR_ti, atD_2, atD_1, atD_0]
theorem ix_p3 {q : P4} {h : Sto} {Q : DK} : ixR (p4D q) (.int 3) h Q = Q (.bl q.2.2.2) h := by unfold p4D pr; rw [ixR_ti, atD_3, atD_2, atD_1, atD_0]
theorem tyN_sw {d : D} {h : Sto} {a : String} (e : tyN d h = some a) : (isT a "str" = true ∧ ∃ v, d = .str v) ∨ (isT a "str" = false ∧ ∀ v, d ≠ .str v) := by
  cases d with
  | str v => cases e; exact .inl ⟨by decide, v, rfl⟩
  | ref n =>
    simp only [tyN] at e
    split at e <;> first | (cases e; exact .inr ⟨by decide, fun v z => by cases z⟩) | (cases e)
  | ty n => cases e
  | adr n => cases e
  | _ => cases e; exact .inr ⟨by decide, fun v z => by cases z⟩
theorem side_in {v : Str} : inD (.str v) [.str "low", .str "high"] = (sideP (.str v)).isSome := by
  show (("low" == v) || (("high" == v) || false)) = _
  unfold sideP
  by_cases h1 : v = "low"
  · subst h1; rfl
  · by_cases h2 : v = "high"
    · subst h2; rfl
    · simp [h1, h2, Ne.symm h1, Ne.symm h2]
def carryA (H : Hal) : List D → Option Hal
  | [d, e, s] => match numP H.2.1.length d, numP H.2.1.length e, sideP s with
    | some j, some k, some b => if j ≠ k ∧ leadP (nthP H j) = true ∧ withinP (nthP H j) (if b = true then (nthP H k).1 else (nthP H k).2.1) (nthP H k).2.2.1 = true then some (H.1, insP H.2.1 k [carryP (nthP H j) (nthP H k) b], H.2.2) else none
    | _, _, _ => none
  | _ => none
theorem carry_none {H : Hal} {d e s : D} {a b : Nat} (hd : numP H.2.1.length d = some a) (he : numP H.2.1.length e = some b) (h : ∀ t, sideP s = some t → ¬ (a ≠ b ∧ leadP (nthP H a) = true ∧ withinP (nthP H a) (if t = true then (nthP H b).1 else (nthP H b).2.1) (nthP H b).2.2.1 = true)) : carryA H [d, e, s] = none := by
  simp only [carryA, hd, he]
  cases hs : sideP s with
  | none => rfl
  | some t => exact if_neg (h t hs)
theorem carry_some {H : Hal} {d e s : D} {a b : Nat} {t : Bool} (hd : numP H.2.1.length d = some a) (he : numP H.2.1.length e = some b) (hs : sideP s = some t) (h : a ≠ b ∧ leadP (nthP H a) = true ∧ withinP (nthP H a) (if t = true then (nthP H b).1 else (nthP H b).2.1) (nthP H b).2.2.1 = true) : carryA H [d, e, s] = some (H.1, insP H.2.1 b [carryP (nthP H a) (nthP H b) t], H.2.2) := by
  simp only [carryA, hd, he, hs]
  exact if_pos h
def sp_carried_in : Sp3 := spA PrsOk carryA
theorem mono_carried_in : MonoS sp_carried_in := mono_spA
theorem len_carried_in : ∀ ds h Q E, sp_carried_in ds h Q E → ds.length = 2 := len_spA
def t_carried_in (E4 : X4) : C3 :=
  (cSeq (cAsg (tV 0) (gTup3 3 (gCons3 (gN 2) (gCons3 (gN 3) (gCons3 (gN 4) gNil3)))))
    (cSeq (cDrop (tCallX sp_look E4 (tC3 (tAndE (tO eqR (tB3 lenR (tC3 (tV 1) tN3)) (tK (.int 4))) (tAndE (tCall3 sp_is_number (tC3 (tV 0) (tC3 (tO ixR (tV 1) (tK (.int 1))) tN3))) (tAndE (tCall3 sp_is_number (tC3 (tV 0) (tC3 (tO ixR (tV 1) (tK (.int 2))) tN3))) (tO neR (tO ixR (tV 1) (tK (.int 1))) (tO ixR (tV 1) (tK (.int 2))))))) tN3)))
    (cSeq (cPar3 5 6 7 (tC3 (tO ixR (tV 3) (tO ixR (tV 1) (tK (.int 1)))) (tC3 (tO ixR (tV 3) (tO ixR (tV 1) (tK (.int 2)))) (tC3 (tO ixR (tV 1) (tK (.int 3))) tN3))))
    (cSeq (cDrop (tCallX sp_look E4 (tC3 (tAndE (tCall3 sp_is_lead (tC3 (tV 5) tN3)) (tAndE (tB3 isiR (tC3 (tV 7) (tC3 (tK (.ty "str")) tN3))) (tOX inX (tV 7) (tC3 (tK (.str "low")) (tC3 (tK (.str "high")) tN3))))) tN3)))
    (cSeq (cDrop (tCallX sp_look E4 (tC3 (tCall3 sp_is_within (tC3 (tV 5) (tC3 (tO ixR (tV 6) (tB3 intR (tC3 (tO eqR (tV 7) (tK (.str "high"))) tN3))) (tC3 (tO ixR (tV 6) (tK (.int 2))) tN3)))) tN3)))
    (cRet (tTup3 (tC3 (tV 2) (tC3 (tCall3 sp_instead (tC3 (tV 3) (tC3 (tO ixR (tV 1) (tK (.int 2))) (tC3 (tNew (tC3 (tCall3 sp_carried (tC3 (tV 5) (tC3 (tV 6) (tC3 (tV 7) tN3)))) tN3)) tN3)))) (tC3 (tNew (tL3 lstM (tC3 (tV 4) tN3))) tN3))))))))))

theorem rd_carried_in : ∀ ds h Q E, ClS h.length h → ClDs h.length ds → sp_carried_in ds h Q E → t_carried_in (GE h.length E) (ends3 (GQ h.length Q)) (start3 8 ds) h := by
  rintro ds h Q E hcl _ ⟨⟨n, prs, w⟩, i, j, x, as, rfl, ⟨hi, hj, pl, wl⟩, ⟨nb, pin⟩, hk, h1, h2⟩
  dsimp only at hi hj pl wl nb pin
  have bad : ∀ as : List D, (↑(as.length + 1) : Int) ≠ 4 → carryA (n, prs, w) as = none := by
    intro as ha
    rcases as with _ | ⟨a, _ | ⟨b, _ | ⟨c, _ | ⟨d, r⟩⟩⟩⟩ <;> first | rfl | (simp at ha)
  by_cases hl : (↑(as.length + 1) : Int) = 4
  · rcases as with _ | ⟨d, _ | ⟨e, _ | ⟨s, _ | ⟨c, r⟩⟩⟩⟩ <;> first | (exfalso; simp at hl; done) | (exfalso; simp at hl; omega) | skip
    have kd := hk d (by simp)
    have ke := hk e (by simp)
    have ks := hk s (by simp)
    try simp only [↓tV_q, ↓tK_q, ↓tO_q, ↓tAndE_q, ↓tN3_q, ↓tC3_q, ↓cSeq_q, ↓cDrop_q, ↓cAsg_q, ↓gN_q, ↓gNil3_q, ↓gCons3_q, ↓gTup3_q, ↓tB3_q, ↓start3_q, ↓eqR_ii_q, ↓lenR_t_q, ↓tCallX_q, thenE_nx, onO_some, ifT_q, List.getElem?_cons_zero, List.getElem?_cons_succ, List.set_cons_zero, List.set_cons_succ, List.map_cons, List.map_nil, List.cons_append, List.nil_append, List.length_cons, List.length_nil, List.replicate_succ, List.replicate_zero, Nat.reduceAdd, Nat.reduceSub, true_and, t_carried_in, hallD]
    refine ifC_of (fun _ => ?_) (fun z => absurd rfl z)
    try simp only [↓tV_q, ↓tK_q, ↓tO_q, ↓tAndE_q, ↓tN3_q, ↓tC3_q, ↓tCall3_q, ↓ixR_ti_q, onO_some, atT_0, atT_1, List.getElem?_cons_zero, List.getElem?_cons_succ]
    refine is_number_q (n := n) (i := i) (j := j) ⟨hi, kd⟩ ?_
    cases hd : numP prs.length d with
    | none =>
      try simp only [↓tN3_q, ifC_false, ifT_q, Option.isSome_none]
      exact look_q (fun z => nomatch z) fun _ => .inl (h2 (by simp only [carryA, hd]))
    | some a =>
      try simp only [↓tV_q, ↓tK_q, ↓tO_q, ↓tAndE_q, ↓tN3_q, ↓tC3_q, ↓tCall3_q, ↓ixR_ti_q, onO_some, ifC_true, ifT_q, atT_0, atT_1, atT_2, List.getElem?_cons_zero, List.getElem?_cons_succ, Option.isSome_some]
      refine is_number_q (n := n) (i := i) (j := j) ⟨hi, ke⟩ ?_
      cases he : numP prs.length e with
      | none =>
        try simp only [↓tN3_q, ifC_false, ifT_q, Option.isSome_none]
        exact look_q (fun z => nomatch z) fun _ => .inl (h2 (by simp only [carryA, hd, he]))
      | some b =>
        obtain ⟨rfl, ha'⟩ := num_some hd
        obtain ⟨rfl, hb'⟩ := num_some he
        try simp only [↓tV_q, ↓tK_q, ↓tO_q, ↓tN3_q, ↓neR_ii_q, ↓ixR_ti_q, onO_some, ifC_true, ifT_q, atT_0, atT_1, atT_2, List.getElem?_cons_zero, List.getElem?_cons_succ, Option.isSome_some]
        refine look_q (fun hs => ?_) (fun hs => ?_)
        · have hab : a ≠ b := by
            have : ¬ (a : Int) = b := by simpa using hs
            omega
          try simp only [↓tV_q, ↓tK_q, ↓tO_q, ↓tC3_q, ↓cSeq_q, ↓ixR_ti_q, ↓ixR_rq, ↓cPar3_q, thenE_nx, onO_some, onC_q, atT_0, atT_1, List.getElem?_cons_zero, List.getElem?_cons_succ, hi]
          rw [at_nth (n := n) (w := w) ha']
          try simp only [↓tV_q, ↓tK_q, ↓tO_q, ↓tC3_q, ↓ixR_ti_q, ↓ixR_rq, onO_some, onC_q, atT_0, atT_1, atT_2, List.getElem?_cons_zero, List.getElem?_cons_succ, hi]
          rw [at_nth (n := n) (w := w) hb']
          try simp only [↓tV_q, ↓tK_q, ↓tO_q, ↓tAndE_q, ↓tN3_q, ↓tC3_q, ↓cSeq_q, ↓cDrop_q, ↓tCall3_q, ↓ixR_ti_q, ↓tCallX_q, ↓parD3_q, thenE_nx, onO_some, atT_0, atT_1, atT_2, atT_3, List.getElem?_cons_zero, List.getElem?_cons_succ, List.set_cons_zero, List.set_cons_succ]
          refine is_lead_q ?_
          cases hL : leadP (nthP (n, prs, w) a) with
          | false =>
            try simp only [↓tN3_q, ifC_false, ifT_q]
            exact look_q (fun z => nomatch z) fun _ => .inl (h2 (carry_none hd he fun t _ z => by rw [z.2.1] at hL; cases hL))
          | true =>
            obtain ⟨ty, ety⟩ := ks
            try simp only [↓tV_q, ↓tK_q, ↓tAndE_q, ↓tN3_q, ↓tC3_q, ↓tB3_q, ↓isi_3, onO_some, ifC_true, isU_q, ifT_q, List.getElem?_cons_zero, List.getElem?_cons_succ, ety]
            rcases tyN_sw ety with ⟨t1, v, rfl⟩ | ⟨t1, nv⟩
            · try simp only [↓tV_q, ↓tK_q, ↓tN3_q, ↓tC3_q, ↓tOX_q, ↓inX_q, onO_some, ifC_true, List.getElem?_cons_zero, List.getElem?_cons_succ, t1]
              refine ⟨⟨rfl, rfl⟩, ?_⟩
              rw [side_in]
              cases hsd : sideP (.str v) with
              | none => exact look_q (fun z => nomatch z) fun _ => .inl (h2 (carry_none hd he fun t z => by rw [hsd] at z; cases z))
              | some t =>
                have ev := side_some hsd
                refine look_q (fun _ => ?_) (fun z => nomatch z)
                have pa := pin _ (nth_mem (H := (n, prs, w)) ha')
                have pb := pin _ (nth_mem (H := (n, prs, w)) hb')
                have fit : ∀ c : Int, withinP (nthP (n, prs, w) a) c (nthP (n, prs, w) b).2.2.1 = true → FitP (nthP (n, prs, w) a) c := by
                  intro c hc
                  have hr : c + (nthP (n, prs, w) b).2.2.1 ≤ (nthP (n, prs, w) a).2.1 + (nthP (n, prs, w) a).2.2.1 := by
                    unfold withinP at hc
                    simp only [Bool.and_eq_true, decide_eq_true_eq] at hc
                    exact hc.2
                  simp only [withinP, leadP, Bool.and_eq_true, decide_eq_true_eq] at hc hL
                  unfold PrIn at pa pb
                  unfold FitP shiftP
                  refine ⟨?_, fun _ => ?_, ?_, ?_, ?_⟩ <;> omega
                cases t with
                | true =>
                  have ev : v = "low" := by injection ev
                  subst ev
                  try simp only [↓tV_q, ↓tK_q, ↓tO_q, ↓tN3_q, ↓tC3_q, ↓cSeq_q, ↓cDrop_q, ↓tCall3_q, ↓tB3_q, ↓eqR_sq, ↓intR_b_q, ↓tCallX_q, thenE_nx, onO_some, List.getElem?_cons_zero, List.getElem?_cons_succ, eqT_s so_low so_high]
                  rw [decide_eq_false (by decide)]
                  try simp only [Bool.false_eq_true, if_false, ix_p0, ix_p2]
                  refine is_within_q ?_
                  refine look_q (fun hw => ?_) (fun hw => ?_)
                  · try simp only [↓tV_q, ↓tK_q, ↓tO_q, ↓tN3_q, ↓tC3_q, ↓tTup3_q, ↓tNew_q, ↓cRet_q, ↓tCall3_q, ↓ixR_ti_q, thenE_nx, onO_some, atT_0, atT_1, atT_2, List.getElem?_cons_zero, List.getElem?_cons_succ]
                    refine carried_q (s := true) (fit _ hw) ?_
                    try simp only [↓tN3_q]
                    refine instead_q (ms := [carryP (nthP (n, prs, w) a) (nthP (n, prs, w) b) true]) ⟨get_up hi, get_new, hb', pl, by simp⟩ ?_
                    try simp only [↓tV_q, ↓tN3_q, ↓tC3_q, ↓tNew_q, ↓tL3_q, ↓lstM_rq, ends3_rt, onO_some, onC_q, List.getElem?_cons_zero, List.getElem?_cons_succ, get_up (get_up hj)]
                    have g1 := h1 _ (carry_some hd he hsd ⟨hab, hL, hw⟩) [.lst [p4D (carryP (nthP (n, prs, w) a) (nthP (n, prs, w) b) true)], .lst ((insP prs b [carryP (nthP (n, prs, w) a) (nthP (n, prs, w) b) true]).map p4D), .lst (w.map pcD)] 1 2 (by decide) rfl rfl
                    simp only [hallD] at g1
                    refine .inl ?_
                    simpa using g1
                  · exact .inl (h2 (carry_none hd he fun t z => by rw [hsd] at z; cases z; exact fun z => by rw [if_pos rfl] at z; rw [z.2.2] at hw; cases hw))
                | false =>
                  have ev : v = "high" := by injection ev
                  subst ev
                  try simp only [↓tV_q, ↓tK_q, ↓tO_q, ↓tN3_q, ↓tC3_q, ↓cSeq_q, ↓cDrop_q, ↓tCall3_q, ↓tB3_q, ↓eqR_sq, ↓intR_b_q, ↓tCallX_q, thenE_nx, onO_some, List.getElem?_cons_zero, List.getElem?_cons_succ, if_true, decide_true, eqT_s so_high so_high]
                  try simp only [ix_p1, ix_p2]
                  refine is_within_q ?_
                  refine look_q (fun hw => ?_) (fun hw => ?_)
                  · try simp only [↓tV_q, ↓tK_q, ↓tO_q, ↓tN3_q, ↓tC3_q, ↓tTup3_q, ↓tNew_q, ↓cRet_q, ↓tCall3_q, ↓ixR_ti_q, thenE_nx, onO_some, atT_0, atT_1, atT_2, List.getElem?_cons_zero, List.getElem?_cons_succ]
                    refine carried_q (s := false) (fit _ hw) ?_
                    try simp only [↓tN3_q]
                    refine instead_q (ms := [carryP (nthP (n, prs, w) a) (nthP (n, prs, w) b) false]) ⟨get_up hi, get_new, hb', pl, by simp⟩ ?_
                    try simp only [↓tV_q, ↓tN3_q, ↓tC3_q, ↓tNew_q, ↓tL3_q, ↓lstM_rq, ends3_rt, onO_some, onC_q, List.getElem?_cons_zero, List.getElem?_cons_succ, get_up (get_up hj)]
                    have g1 := h1 _ (carry_some hd he hsd ⟨hab, hL, hw⟩) [.lst [p4D (carryP (nthP (n, prs, w) a) (nthP (n, prs, w) b) false)], .lst ((insP prs b [carryP (nthP (n, prs, w) a) (nthP (n, prs, w) b) false]).map p4D), .lst (w.map pcD)] 1 2 (by decide) rfl rfl
                    simp only [hallD] at g1
                    refine .inl ?_
                    simpa using g1
                  · exact .inl (h2 (carry_none hd he fun t z => by rw [hsd] at z; cases z; exact fun z => by rw [if_neg Bool.false_ne_true] at z; rw [z.2.2] at hw; cases hw))
            · try simp only [↓tN3_q, ifC_false, t1]
              exact look_q (fun z => nomatch z) fun _ => .inl (h2 (carry_none hd he fun t z => absurd (side_some z) (nv _)))
        · have hab : a = b := by
            have : (a : Int) = b := by simpa using hs
            omega
          exact .inl (h2 (carry_none hd he fun t _ z => z.1 hab))
  · try simp only [↓tV_q, ↓tK_q, ↓tO_q, ↓tAndE_q, ↓tN3_q, ↓tC3_q, ↓cSeq_q, ↓cDrop_q, ↓cAsg_q, ↓gN_q, ↓gNil3_q, ↓gCons3_q, ↓gTup3_q, ↓tB3_q, ↓start3_q, ↓eqR_ii_q, ↓lenR_t_q, ↓tCallX_q, thenE_nx, onO_some, ifT_q, List.getElem?_cons_zero, List.getElem?_cons_succ, List.set_cons_zero, List.set_cons_succ, List.map_cons, List.map_nil, List.cons_append, List.nil_append, List.length_cons, List.length_nil, List.replicate_succ, List.replicate_zero, Nat.reduceAdd, Nat.reduceSub, true_and, t_carried_in, hallD]
    refine ifC_of (fun z => absurd z hl) fun _ => ?_
    try simp only [↓tN3_q]
    exact look_q (fun z => nomatch z) fun _ => .inl (h2 (bad as hl))
end F3
set_option maxHeartbeats 400000
/-! DH: deeds of any word; of cut alone what is refused. -/
namespace F3
open PySem PySem.Spec PyProof.Rows L2
abbrev Srt := List (List Int × Int)
theorem dne {a b : Str} (h : a ≠ b) : decide (a = b) = false := decide_eq_false h
theorem so_gone : PyData.strOk "gone" = true := by decide +kernel
theorem so_folded : PyData.strOk "folded" = true := by decide +kernel
theorem so_joined : PyData.strOk "joined" = true := by decide +kernel
theorem so_carried : PyData.strOk "carried" = true := by decide +kernel
theorem so_cut : PyData.strOk "cut" = true := by decide +kernel
theorem so_free : PyData.strOk "free" = true := by decide +kernel
/-! ### ends -/
def sp_is_end : Sp3 := spD (fun (a__ : Nat × Nat × Nat × D) => match a__ with | (n, i, j, d) => [hallD n i j, d]) (fun (a__ : Nat × Nat × Nat × D) (h : Sto) => match a__ with | (n, i, j, d) => Kn h d) (fun (a__ : Nat × Nat × Nat × D) (h : Sto) => match a__ with | (n, i, j, d) => .bl (numP n d).isSome) (fun (a__ : Nat × Nat × Nat × D) (h : Sto) => match a__ with | (n, i, j, d) => h)
theorem mono_is_end : MonoS sp_is_end := mono_spD
theorem len_is_end : ∀ ds h Q E, sp_is_end ds h Q E → ds.length = 2 := len_spD fun _ => rfl
theorem is_end_q {n : Nat} {i : Nat} {j : Nat} {d : D} {h : Sto} {Q : DK} (hp : Kn h d) (q : Q (.bl (numP n d).isSome) (h)) : callS sp_is_end [hallD n i j, d] h Q := ⟨(n, i, j, d), rfl, hp, q⟩
def t_is_end : C3 :=
  (cRet (tAndE (tB3 isiR (tC3 (tV 1) (tC3 (tK (.ty "int")) tN3))) (tAndE (tNotE (tB3 isiR (tC3 (tV 1) (tC3 (tK (.ty "bool")) tN3)))) (tCh leR ltR (tK (.int 0)) (tV 1) (tO ixR (tV 0) (tK (.int 0)))))))

theorem rd_is_end : ∀ ds h Q E, ClS h.length h → ClDs h.length ds → sp_is_end ds h Q E → t_is_end (ends3 (GQ h.length Q)) (start3 2 ds) h := by
  rintro ds h Q E hcl _ ⟨⟨n, i, j, d⟩, rfl, hp0, q0⟩
  have hp : Kn h d := hp0
  have q : Q (.bl (numP n d).isSome) (h) := q0
  clear hp0 q0
  obtain ⟨a, e⟩ := hp
  cases hw : isW d with
  | true =>
    obtain ⟨k, rfl⟩ := isW_int hw
    try simp only [↓tV_q, ↓tK_q, ↓tNotE_q, ↓tAndE_q, ↓tCh_q, ↓tN3_q, ↓tC3_q, ↓cRet_q, ↓tB3_q, ↓start3_q, ↓leR_ii_q, ↓isi_1, ↓isi_2, onO_some, onB_bl, ifC_true, isU_q, ifT_q, tyN_int_q, isT_3, isT_4, List.getElem?_cons_zero, List.getElem?_cons_succ, List.map_cons, List.map_nil, List.cons_append, List.nil_append, List.length_cons, List.length_nil, List.replicate_zero, Nat.reduceAdd, Nat.reduceSub, Bool.not_false, t_is_end, hallD]
    refine ifC_of (fun hc => ?_) (fun hc => ?_)
    · have hc' : 0 ≤ k := by simpa using hc
      try simp only [↓tV_q, ↓tK_q, ↓tO_q, ↓start3_q, ↓ltR_ii_q, ↓ixR_ti_q, ends3_rt, onO_some, atT_0, List.getElem?_cons_zero, List.map_cons, List.map_nil, List.cons_append, List.nil_append, List.length_cons, List.length_nil, List.replicate_zero, Nat.reduceAdd, Nat.reduceSub]
      rw [show (numP n (.int k)).isSome = decide (k < (n : Int)) by rw [num_eq]; by_cases hz : k < (n : Int) <;> simp [hc', hz]] at q
      exact .inl q
    · have hc' : ¬ 0 ≤ k := by simpa using hc
      rw [show (numP n (.int k)).isSome = false by rw [num_eq, if_neg (by omega)]; rfl] at q
      try simp only [ends3_rt]
      exact .inl q
  | false =>
    have e2 := (tyN_w e).1
    rw [num_no hw] at q
    try simp only [↓tV_q, ↓tK_q, ↓tAndE_q, ↓tN3_q, ↓tC3_q, ↓cRet_q, ↓tB3_q, ↓start3_q, ↓isi_1, onO_some, isU_q, ifT_q, List.getElem?_cons_zero, List.getElem?_cons_succ, List.map_cons, List.map_nil, List.cons_append, List.nil_append, List.length_cons, List.length_nil, List.replicate_zero, Nat.reduceAdd, Nat.reduceSub, t_is_end, hallD, e]
    rw [hw] at e2
    cases h1 : isT a "int" <;> cases h2 : isT a "bool" <;> rw [h1, h2] at e2 <;> first | (cases e2; done) | skip
    all_goals try simp only [↓tV_q, ↓tK_q, ↓tNotE_q, ↓tAndE_q, ↓tN3_q, ↓tC3_q, ↓tB3_q, ↓start3_q, ↓isi_2, ends3_rt, onO_some, onB_bl, ifC_true, ifC_false, isU_q, ifT_q, List.getElem?_cons_zero, List.getElem?_cons_succ, List.map_cons, List.map_nil, List.cons_append, List.nil_append, List.length_cons, List.length_nil, List.replicate_zero, Nat.reduceAdd, Nat.reduceSub, Bool.not_true, e, h2]
    all_goals exact .inl q
def allBy (prs : List P4) (e : Int) : Bool := prs.all fun q => decide (reachP q ≤ e)
theorem bls_of {α : Type} (f : α → Bool) : ∀ ns : List α, blsOf (ns.map fun x => D.bl (f x)) = some (ns.map f)
  | [] => rfl
  | x :: r => by
    have := bls_of f r
    simp only [List.map_cons, blsOf, this, Option.map_some]
def sp_ends_by : Sp3 := spD (fun (a__ : Nat × List P4 × Int) => match a__ with | (i, prs, e) => [.ref i, .int e]) (fun (a__ : Nat × List P4 × Int) (h : Sto) => match a__ with | (i, prs, e) => h[i]? = some (.lst (prs.map p4D)) ∧ prs.length ≤ 1000) (fun (a__ : Nat × List P4 × Int) (h : Sto) => match a__ with | (i, prs, e) => .bl (allBy prs e)) (fun (a__ : Nat × List P4 × Int) (h : Sto) => match a__ with | (i, prs, e) => h)
theorem mono_ends_by : MonoS sp_ends_by := mono_spD
theorem len_ends_by : ∀ ds h Q E, sp_ends_by ds h Q E → ds.length = 2 := len_spD fun _ => rfl
theorem ends_by_q {i : Nat} {prs : List P4} {e : Int} {h : Sto} {Q : DK} (hp : h[i]? = some (.lst (prs.map p4D)) ∧ prs.length ≤ 1000) (q : Q (.bl (allBy prs e)) (h)) : callS sp_ends_by [.ref i, .int e] h Q := ⟨(i, prs, e), rfl, hp, q⟩
def e_ends_by_1 : E3 :=
  (tO leR (tCall3 sp_reach_end (tC3 (tV 2) tN3)) (tV 1))
def t_ends_by : C3 :=
  (cRet (tB3 allX (tLc3 (iSeq (tV 0)) (gN 2) bYes e_ends_by_1 [2])))

theorem rd_ends_by : ∀ ds h Q E, ClS h.length h → ClDs h.length ds → sp_ends_by ds h Q E → t_ends_by (ends3 (GQ h.length Q)) (start3 3 ds) h := by
  rintro ds h Q E hcl _ ⟨⟨i, prs, e⟩, rfl, hp0, q0⟩
  have hp : h[i]? = some (.lst (prs.map p4D)) ∧ prs.length ≤ 1000 := hp0
  have q : Q (.bl (allBy prs e)) (h) := q0
  clear hp0 q0
  obtain ⟨hi, hl⟩ := hp
  try simp only [↓tV_q, ↓cRet_q, ↓iSeq_q, ↓iSeqD_rq, ↓tLc3_q, ↓tB3_q, ↓start3_q, onO_some, onC_q, wipe3_nil, wipe3_cons, List.getElem?_cons_zero, List.set_cons_zero, List.set_cons_succ, List.map_cons, List.map_nil, List.cons_append, List.nil_append, List.length_cons, List.length_nil, List.replicate_succ, List.replicate_zero, Nat.reduceAdd, Nat.reduceSub, t_ends_by, hi]
  refine ⟨by rw [List.length_map]; omega, lcMap (f := p4D) (r := fun x => D.bl (decide (reachP x ≤ e))) hi ?_ fun x _ Q q => ?_⟩
  · try simp only [↓allX_q]
    rw [bls_of fun x => decide (reachP x ≤ e)]
    try simp only [ends3_rt, onBs_q]
    rw [show (prs.map fun x => decide (reachP x ≤ e)).all id = allBy prs e by simp [allBy, List.all_map]]
    exact .inl q
  · try simp only [↓tV_q, ↓tO_q, ↓tN3_q, ↓tC3_q, ↓gN_q, ↓tCall3_q, onO_some, List.getElem?_cons_zero, List.getElem?_cons_succ, List.set_cons_zero, List.set_cons_succ, e_ends_by_1]
    refine reach_end_q (x := x) ?_
    try simp only [↓tV_q, ↓leR_ii_q, onO_some, List.getElem?_cons_zero, List.getElem?_cons_succ]
    exact q
/-! ### free -/
def freeA (H : Hal) : List D → Option Hal
  | [d] => match numP H.1 d with
    | some e => if allBy H.2.1 (e : Int) = true then some (e, H.2.1, partP 0 H.2.2 0 (e : Int)) else none
    | none => none
  | _ => none
def sp_freed_in : Sp3 := spA (fun _ => True) freeA
theorem mono_freed_in : MonoS sp_freed_in := mono_spA
theorem len_freed_in : ∀ ds h Q E, sp_freed_in ds h Q E → ds.length = 2 := len_spA
def t_freed_in (E4 : X4) : C3 :=
  (cSeq (cAsg (tV 0) (gTup3 3 (gCons3 (gN 2) (gCons3 (gN 3) (gCons3 (gN 4) gNil3)))))
    (cSeq (cDrop (tCallX sp_look E4 (tC3 (tAndE (tO eqR (tB3 lenR (tC3 (tV 1) tN3)) (tK (.int 2))) (tAndE (tCall3 sp_is_end (tC3 (tV 0) (tC3 (tO ixR (tV 1) (tK (.int 1))) tN3))) (tCall3 sp_ends_by (tC3 (tV 3) (tC3 (tO ixR (tV 1) (tK (.int 1))) tN3))))) tN3)))
    (cRet (tTup3 (tC3 (tO ixR (tV 1) (tK (.int 1))) (tC3 (tNew (tL3 lstM (tC3 (tV 3) tN3))) (tC3 (tCall3 sp_part (tC3 (tV 4) (tC3 (tK (.int 0)) (tC3 (tO ixR (tV 1) (tK (.int 1))) tN3)))) tN3)))))))

theorem rd_freed_in : ∀ ds h Q E, ClS h.length h → ClDs h.length ds → sp_freed_in ds h Q E → t_freed_in (GE h.length E) (ends3 (GQ h.length Q)) (start3 5 ds) h := by
  rintro ds h Q E hcl _ ⟨⟨n, prs, w⟩, i, j, x, as, rfl, ⟨hi, hj, pl, wl⟩, _, hk, h1, h2⟩
  dsimp only at hi hj pl wl
  have bad : ∀ as : List D, (↑(as.length + 1) : Int) ≠ 2 → freeA (n, prs, w) as = none := by
    intro as ha
    rcases as with _ | ⟨a, _ | ⟨b, r⟩⟩ <;> first | rfl | (simp at ha)
  by_cases hl : (↑(as.length + 1) : Int) = 2
  · rcases as with _ | ⟨d, _ | ⟨d2, r⟩⟩ <;> first | (exfalso; simp at hl; done) | (exfalso; simp at hl; omega) | skip
    have kd := hk d List.mem_cons_self
    try simp only [↓tV_q, ↓tK_q, ↓tO_q, ↓tAndE_q, ↓tN3_q, ↓tC3_q, ↓cSeq_q, ↓cDrop_q, ↓cAsg_q, ↓gN_q, ↓gNil3_q, ↓gCons3_q, ↓gTup3_q, ↓tB3_q, ↓start3_q, ↓eqR_ii_q, ↓lenR_t_q, ↓tCallX_q, thenE_nx, onO_some, ifT_q, List.getElem?_cons_zero, List.getElem?_cons_succ, List.set_cons_zero, List.set_cons_succ, List.map_cons, List.map_nil, List.cons_append, List.nil_append, List.length_cons, List.length_nil, List.replicate_succ, List.replicate_zero, Nat.reduceAdd, Nat.reduceSub, true_and, t_freed_in, hallD]
    refine ifC_of (fun _ => ?_) (fun z => absurd rfl z)
    try simp only [↓tV_q, ↓tK_q, ↓tO_q, ↓tAndE_q, ↓tN3_q, ↓tC3_q, ↓tCall3_q, ↓ixR_ti_q, onO_some, atT_0, atT_1, List.getElem?_cons_zero, List.getElem?_cons_succ]
    refine is_end_q (n := n) (i := i) (j := j) kd ?_
    cases hn : numP n d with
    | none =>
      try simp only [↓tN3_q, ifC_false, ifT_q, Option.isSome_none]
      exact look_q (fun z => nomatch z) fun _ => .inl (h2 (by simp only [freeA, hn]))
    | some k =>
      obtain ⟨rfl, hk'⟩ := num_some hn
      try simp only [↓tV_q, ↓tK_q, ↓tO_q, ↓tN3_q, ↓tC3_q, ↓tCall3_q, ↓ixR_ti_q, onO_some, ifC_true, ifT_q, atT_0, atT_1, List.getElem?_cons_zero, List.getElem?_cons_succ, Option.isSome_some]
      refine ends_by_q ⟨hi, pl⟩ ?_
      try simp only [↓tN3_q]
      refine look_q (fun hs => ?_) (fun hs => ?_)
      · try simp only [↓tV_q, ↓tK_q, ↓tO_q, ↓tN3_q, ↓tC3_q, ↓tTup3_q, ↓tNew_q, ↓cRet_q, ↓tCall3_q, ↓tL3_q, ↓ixR_ti_q, ↓lstM_rq, thenE_nx, onO_some, onC_q, atT_0, atT_1, List.getElem?_cons_zero, List.getElem?_cons_succ, hi]
        refine part_q (w := w) (get_up hj) (by omega) ?_
        try simp only [↓tN3_q, ends3_rt]
        have g1 := h1 (k, prs, partP 0 w 0 (k : Int)) (by simp only [freeA, hn, hs, if_true]) [.lst (prs.map p4D), .lst ((partP 0 w 0 (k : Int)).map pcD)] 0 1 (by decide) rfl rfl
        simp only [hallD] at g1
        refine .inl ?_
        simpa using g1
      · exact .inl (h2 (by simp only [freeA, hn, hs]; rfl))
  · try simp only [↓tV_q, ↓tK_q, ↓tO_q, ↓tAndE_q, ↓tN3_q, ↓tC3_q, ↓cSeq_q, ↓cDrop_q, ↓cAsg_q, ↓gN_q, ↓gNil3_q, ↓gCons3_q, ↓gTup3_q, ↓tB3_q, ↓start3_q, ↓eqR_ii_q, ↓lenR_t_q, ↓tCallX_q, thenE_nx, onO_some, ifT_q, List.getElem?_cons_zero, List.getElem?_cons_succ, List.set_cons_zero, List.set_cons_succ, List.map_cons, List.map_nil, List.cons_append, List.nil_append, List.length_cons, List.length_nil, List.replicate_succ, List.replicate_zero, Nat.reduceAdd, Nat.reduceSub, true_and, t_freed_in, hallD]
    refine ifC_of (fun z => absurd z hl) fun _ => ?_
    try simp only [↓tN3_q]
    exact look_q (fun z => nomatch z) fun _ => .inl (h2 (bad as hl))
/-! ### cut, where it is none -/
def cutNo (H : Hal) (as : List D) : Prop := ∀ a b, as = [a, b] → numP H.2.1.length a = none ∨ numP H.1 b = none
def sp_cut_in : Sp3 := fun ds h _ E => ∃ (H : Hal) (i j : Nat) (x : D) (as : List D), ds = [hallD H.1 i j, .tup (x :: as)] ∧ HAt h i j H ∧ (∀ a ∈ as, Kn h a) ∧ cutNo H as ∧ E (.type "NoDeed") h
theorem mono_cut_in : MonoS sp_cut_in := fun ds h Q Q' E E' w1 w2 ⟨H, i, j, x, as, e, hh, hk, hc, z⟩ => ⟨H, i, j, x, as, e, hh, hk, hc, w2 _ _ z⟩
theorem len_cut_in : ∀ ds h Q E, sp_cut_in ds h Q E → ds.length = 2 := by rintro _ h Q E ⟨H, i, j, x, as, rfl, _⟩; rfl
def t_cut_in (E4 : X4) : C3 :=
  (cSeq (cAsg (tV 0) (gTup3 3 (gCons3 (gN 2) (gCons3 (gN 3) (gCons3 (gN 4) gNil3)))))
    (cSeq (cDrop (tCallX sp_look E4 (tC3 (tAndE (tO eqR (tB3 lenR (tC3 (tV 1) tN3)) (tK (.int 3))) (tAndE (tCall3 sp_is_number (tC3 (tV 0) (tC3 (tO ixR (tV 1) (tK (.int 1))) tN3))) (tCall3 sp_is_end (tC3 (tV 0) (tC3 (tO ixR (tV 1) (tK (.int 2))) tN3))))) tN3)))
    (cSeq (cPar 5 6 (tC3 (tO ixR (tV 3) (tO ixR (tV 1) (tK (.int 1)))) (tC3 (tO ixR (tV 1) (tK (.int 2))) tN3)))
    (cSeq (cDrop (tCallX sp_look E4 (tC3 (tAndE (tCall3 sp_is_lead (tC3 (tV 5) tN3)) (tAndE (tO eqR (tCall3 sp_reach_end (tC3 (tV 5) tN3)) (tV 2)) (tAndE (tO leR (tO ixR (tV 5) (tK (.int 1))) (tV 6)) (tCall3 sp_ends_by (tC3 (tCall3 sp_without (tC3 (tV 3) (tC3 (tO ixR (tV 1) (tK (.int 1))) tN3))) (tC3 (tV 6) tN3)))))) tN3)))
    cOff))))

theorem rd_cut_in : ∀ ds h Q E, ClS h.length h → ClDs h.length ds → sp_cut_in ds h Q E → t_cut_in (GE h.length E) (ends3 (GQ h.length Q)) (start3 7 ds) h := by
  rintro ds h Q E hcl _ ⟨⟨n, prs, w⟩, i, j, x, as, rfl, ⟨hi, hj, pl, wl⟩, hk, hc, h2⟩
  dsimp only at hi hj pl wl
  by_cases hl : (↑(as.length + 1) : Int) = 3
  · rcases as with _ | ⟨d, _ | ⟨e, _ | ⟨c, r⟩⟩⟩ <;> first | (exfalso; simp at hl; done) | (exfalso; simp at hl; omega) | skip
    have kd := hk d (by simp)
    have ke := hk e (by simp)
    try simp only [↓tV_q, ↓tK_q, ↓tO_q, ↓tAndE_q, ↓tN3_q, ↓tC3_q, ↓cSeq_q, ↓cDrop_q, ↓cAsg_q, ↓gN_q, ↓gNil3_q, ↓gCons3_q, ↓gTup3_q, ↓tB3_q, ↓start3_q, ↓eqR_ii_q, ↓lenR_t_q, ↓tCallX_q, thenE_nx, onO_some, ifT_q, List.getElem?_cons_zero, List.getElem?_cons_succ, List.set_cons_zero, List.set_cons_succ, List.map_cons, List.map_nil, List.cons_append, List.nil_append, List.length_cons, List.length_nil, List.replicate_succ, List.replicate_zero, Nat.reduceAdd, Nat.reduceSub, true_and, t_cut_in, hallD]
    refine ifC_of (fun _ => ?_) (fun z => absurd rfl z)
    try simp only [↓tV_q, ↓tK_q, ↓tO_q, ↓tAndE_q, ↓tN3_q, ↓tC3_q, ↓tCall3_q, ↓ixR_ti_q, onO_some, atT_0, atT_1, List.getElem?_cons_zero, List.getElem?_cons_succ]
    refine is_number_q (n := n) (i := i) (j := j) ⟨hi, kd⟩ ?_
    cases hn : numP prs.length d with
    | none =>
      try simp only [↓tN3_q, ifC_false, ifT_q, Option.isSome_none]
      exact look_q (fun z => nomatch z) fun _ => .inl h2
    | some k =>
      try simp only [↓tV_q, ↓tK_q, ↓tO_q, ↓tN3_q, ↓tC3_q, ↓tCall3_q, ↓ixR_ti_q, onO_some, ifC_true, ifT_q, atT_0, atT_1, atT_2, List.getElem?_cons_zero, List.getElem?_cons_succ, Option.isSome_some]
      refine is_end_q (n := n) (i := i) (j := j) ke ?_
      cases he : numP n e with
      | none =>
        try simp only [↓tN3_q, Option.isSome_none]
        exact look_q (fun z => nomatch z) fun _ => .inl h2
      | some k2 =>
        exfalso
        rcases hc d e rfl with z | z
        · rw [hn] at z; cases z
        · rw [he] at z; cases z
  · try simp only [↓tV_q, ↓tK_q, ↓tO_q, ↓tAndE_q, ↓tN3_q, ↓tC3_q, ↓cSeq_q, ↓cDrop_q, ↓cAsg_q, ↓gN_q, ↓gNil3_q, ↓gCons3_q, ↓gTup3_q, ↓tB3_q, ↓start3_q, ↓eqR_ii_q, ↓lenR_t_q, ↓tCallX_q, thenE_nx, onO_some, ifT_q, List.getElem?_cons_zero, List.getElem?_cons_succ, List.set_cons_zero, List.set_cons_succ, List.map_cons, List.map_nil, List.cons_append, List.nil_append, List.length_cons, List.length_nil, List.replicate_succ, List.replicate_zero, Nat.reduceAdd, Nat.reduceSub, true_and, t_cut_in, hallD]
    refine ifC_of (fun z => absurd z hl) fun _ => ?_
    try simp only [↓tN3_q]
    exact look_q (fun z => nomatch z) fun _ => .inl h2
/-! ### any deed -/
def Wd6 (w : Str) : Prop := w = "gone" ∨ w = "folded" ∨ w = "joined" ∨ w = "carried" ∨ w = "cut" ∨ w = "free"
def wordP (H : Hal) (w : Str) (as : List D) : Option Hal := if w = "gone" then goneA H as else if w = "folded" then foldA H as else if w = "joined" then joinA H as else if w = "carried" then carryA H as else if w = "cut" then none else if w = "free" then freeA H as else none
theorem word_gone {H : Hal} {as : List D} : wordP H "gone" as = goneA H as := if_pos rfl
theorem word_folded {H : Hal} {as : List D} : wordP H "folded" as = foldA H as := by
  unfold wordP; rw [if_neg (by decide), if_pos rfl]
theorem word_joined {H : Hal} {as : List D} : wordP H "joined" as = joinA H as := by
  unfold wordP; rw [if_neg (by decide), if_neg (by decide), if_pos rfl]
theorem word_carried {H : Hal} {as : List D} : wordP H "carried" as = carryA H as := by
  unfold wordP; rw [if_neg (by decide), if_neg (by decide), if_neg (by decide), if_pos rfl]
theorem word_cut {H : Hal} {as : List D} : wordP H "cut" as = none := by
  unfold wordP; rw [if_neg (by decide), if_neg (by decide), if_neg (by decide), if_neg (by decide), if_pos rfl]
theorem word_free {H : Hal} {as : List D} : wordP H "free" as = freeA H as := by
  unfold wordP; rw [if_neg (by decide), if_neg (by decide), if_neg (by decide), if_neg (by decide), if_neg (by decide), if_pos rfl]
theorem word_no {H : Hal} {w : Str} {as : List D} (h : ¬ Wd6 w) : wordP H w as = none := by
  unfold wordP
  rw [if_neg fun z => h (.inl z), if_neg fun z => h (.inr (.inl z)), if_neg fun z => h (.inr (.inr (.inl z))), if_neg fun z => h (.inr (.inr (.inr (.inl z)))), if_neg fun z => h (.inr (.inr (.inr (.inr (.inl z))))), if_neg fun z => h (.inr (.inr (.inr (.inr (.inr z)))))]
theorem led_gq {h : Sto} {n : Nat} {Q : DK} {H : Hal} (l : Led h Q H) : Led h (GQ n Q) H := fun g i j a b c => .inl (l g i j a b c)
def sp_hall_behind : Sp3 := fun ds h Q E => ∃ (H : Hal) (i j : Nat) (w : Str) (as : List D), ds = [hallD H.1 i j, .tup (.str w :: as)] ∧ HAt h i j H ∧ PrsOk H ∧ Wd6 w ∧ (∀ a ∈ as, Kn h a) ∧ (w = "cut" → cutNo H as) ∧ (∀ H', wordP H w as = some H' → Led h Q H') ∧ (wordP H w as = none → E (.type "NoDeed") h)
theorem mono_hall_behind : MonoS sp_hall_behind := fun ds h Q Q' E E' w1 w2 ⟨H, i, j, w, as, e, hh, ok, hw, hk, hc, h1, h2⟩ => ⟨H, i, j, w, as, e, hh, ok, hw, hk, hc, fun H' z g i' j' a b c => w1 _ _ (h1 H' z g i' j' a b c), fun z => w2 _ _ (h2 z)⟩
theorem len_hall_behind : ∀ ds h Q E, sp_hall_behind ds h Q E → ds.length = 2 := by rintro _ h Q E ⟨H, i, j, w, as, rfl, _⟩; rfl
def r_hall_behind_5 (E4 : X4) : C3 :=
  (cRet (tCallX sp_freed_in E4 (tC3 (tV 0) (tC3 (tV 1) tN3))))
def r_hall_behind_4 (E4 : X4) : C3 :=
  (cSeq (cIf (tT (tO eqR (tO ixR (tV 1) (tK (.int 0))) (tK (.str "cut")))) (cRet (tCallX sp_cut_in E4 (tC3 (tV 0) (tC3 (tV 1) tN3)))) cNext)
    (r_hall_behind_5 E4))
def r_hall_behind_3 (E4 : X4) : C3 :=
  (cSeq (cIf (tT (tO eqR (tO ixR (tV 1) (tK (.int 0))) (tK (.str "carried")))) (cRet (tCallX sp_carried_in E4 (tC3 (tV 0) (tC3 (tV 1) tN3)))) cNext)
    (r_hall_behind_4 E4))
def r_hall_behind_2 (E4 : X4) : C3 :=
  (cSeq (cIf (tT (tO eqR (tO ixR (tV 1) (tK (.int 0))) (tK (.str "joined")))) (cRet (tCallX sp_joined_in E4 (tC3 (tV 0) (tC3 (tV 1) tN3)))) cNext)
    (r_hall_behind_3 E4))
def r_hall_behind_1 (E4 : X4) : C3 :=
  (cSeq (cIf (tT (tO eqR (tO ixR (tV 1) (tK (.int 0))) (tK (.str "folded")))) (cRet (tCallX sp_folded_in E4 (tC3 (tV 0) (tC3 (tV 1) tN3)))) cNext)
    (r_hall_behind_2 E4))
def t_hall_behind (E4 : X4) : C3 :=
  (cSeq (cIf (tT (tO eqR (tO ixR (tV 1) (tK (.int 0))) (tK (.str "gone")))) (cRet (tCallX sp_gone_in E4 (tC3 (tV 0) (tC3 (tV 1) tN3)))) cNext)
    (r_hall_behind_1 E4))

theorem rd_hall_behind : ∀ ds h Q E, ClS h.length h → ClDs h.length ds → sp_hall_behind ds h Q E → t_hall_behind (GE h.length E) (ends3 (GQ h.length Q)) (start3 2 ds) h := by
  rintro ds h Q E hcl _ ⟨H, i, j, w, as, rfl, hh, ok, hw, hk, hcn, h1, h2⟩
  have so : PyData.strOk w = true := by
    rcases hw with rfl | rfl | rfl | rfl | rfl | rfl
    · exact so_gone
    · exact so_folded
    · exact so_joined
    · exact so_carried
    · exact so_cut
    · exact so_free
  try simp only [↓tV_q, ↓tK_q, ↓tO_q, ↓tT_q, ↓cSeq_q, ↓cIf_q, ↓start3_q, ↓eqR_sq, ↓ixR_ti_q, onO_some, onB_bl, atT_0, List.getElem?_cons_zero, List.getElem?_cons_succ, List.map_cons, List.map_nil, List.cons_append, List.nil_append, List.length_cons, List.length_nil, List.replicate_zero, Nat.reduceAdd, Nat.reduceSub, t_hall_behind, eqT_s so so_gone]
  refine ifC_of (fun e => ?_) (fun n1 => ?_)
  · subst e
    rw [word_gone] at h1 h2
    try simp only [↓tV_q, ↓tN3_q, ↓tC3_q, ↓cRet_q, ↓start3_q, ↓tCallX_q, onO_some, List.getElem?_cons_zero, List.getElem?_cons_succ, List.map_cons, List.map_nil, List.cons_append, List.nil_append, List.length_cons, List.length_nil, List.replicate_zero, Nat.reduceAdd, Nat.reduceSub]
    exact callX_A hh trivial hk (fun H' e => led_gq (h1 H' e)) fun e => .inl (h2 e)
  try simp only [↓tV_q, ↓tK_q, ↓tO_q, ↓tT_q, ↓cNext_q, ↓cSeq_q, ↓cIf_q, ↓start3_q, ↓eqR_sq, ↓ixR_ti_q, thenE_nx, onO_some, onB_bl, atT_0, List.getElem?_cons_zero, List.getElem?_cons_succ, List.map_cons, List.map_nil, List.cons_append, List.nil_append, List.length_cons, List.length_nil, List.replicate_zero, Nat.reduceAdd, Nat.reduceSub, r_hall_behind_1, eqT_s so so_folded]
  refine ifC_of (fun e => ?_) (fun n2 => ?_)
  · subst e
    rw [word_folded] at h1 h2
    try simp only [↓tV_q, ↓tN3_q, ↓tC3_q, ↓cRet_q, ↓tCallX_q, onO_some, List.getElem?_cons_zero, List.getElem?_cons_succ]
    exact callX_A hh trivial hk (fun H' e => led_gq (h1 H' e)) fun e => .inl (h2 e)
  try simp only [↓tV_q, ↓tK_q, ↓tO_q, ↓tT_q, ↓cNext_q, ↓cSeq_q, ↓cIf_q, ↓eqR_sq, ↓ixR_ti_q, thenE_nx, onO_some, onB_bl, atT_0, List.getElem?_cons_zero, List.getElem?_cons_succ, r_hall_behind_2, eqT_s so so_joined]
  refine ifC_of (fun e => ?_) (fun n3 => ?_)
  · subst e
    rw [word_joined] at h1 h2
    try simp only [↓tV_q, ↓tN3_q, ↓tC3_q, ↓cRet_q, ↓tCallX_q, onO_some, List.getElem?_cons_zero, List.getElem?_cons_succ]
    exact callX_A hh trivial hk (fun H' e => led_gq (h1 H' e)) fun e => .inl (h2 e)
  try simp only [↓tV_q, ↓tK_q, ↓tO_q, ↓tT_q, ↓cNext_q, ↓cSeq_q, ↓cIf_q, ↓eqR_sq, ↓ixR_ti_q, thenE_nx, onO_some, onB_bl, atT_0, List.getElem?_cons_zero, List.getElem?_cons_succ, r_hall_behind_3, eqT_s so so_carried]
  refine ifC_of (fun e => ?_) (fun n4 => ?_)
  · subst e
    rw [word_carried] at h1 h2
    try simp only [↓tV_q, ↓tN3_q, ↓tC3_q, ↓cRet_q, ↓tCallX_q, onO_some, List.getElem?_cons_zero, List.getElem?_cons_succ]
    exact callX_A hh ok hk (fun H' e => led_gq (h1 H' e)) fun e => .inl (h2 e)
  try simp only [↓tV_q, ↓tK_q, ↓tO_q, ↓tT_q, ↓cNext_q, ↓cSeq_q, ↓cIf_q, ↓eqR_sq, ↓ixR_ti_q, thenE_nx, onO_some, onB_bl, atT_0, List.getElem?_cons_zero, List.getElem?_cons_succ, r_hall_behind_4, eqT_s so so_cut]
  refine ifC_of (fun e => ?_) (fun n5 => ?_)
  · subst e
    rw [word_cut] at h2
    try simp only [↓tV_q, ↓tN3_q, ↓tC3_q, ↓cRet_q, ↓tCallX_q, onO_some, List.getElem?_cons_zero, List.getElem?_cons_succ]
    exact ⟨H, i, j, _, as, rfl, hh, hk, hcn rfl, ⟨_, rfl, .inl (h2 rfl)⟩⟩
  have e : w = "free" := by
    rcases hw with z | z | z | z | z | z
    · exact absurd z n1
    · exact absurd z n2
    · exact absurd z n3
    · exact absurd z n4
    · exact absurd z n5
    · exact z
  subst e
  rw [word_free] at h1 h2
  try simp only [↓tV_q, ↓tN3_q, ↓tC3_q, ↓cNext_q, ↓cRet_q, ↓tCallX_q, thenE_nx, onO_some, List.getElem?_cons_zero, List.getElem?_cons_succ, r_hall_behind_5]
  exact callX_A hh trivial hk (fun H' e => led_gq (h1 H' e)) fun e => .inl (h2 e)
/-- a deed's end: the hall and the sorts, in new cells -/
def LedD (h : Sto) (Q : DK) (H : Hal) (so : Srt) : Prop := ∀ (g : Sto) (i j k : Nat), i ≠ j → i ≠ k → j ≠ k → g[i]? = some (.lst (H.2.1.map p4D)) → g[j]? = some (.lst (H.2.2.map pcD)) → g[k]? = some (.lst (so.map stD)) → Q (.tup [hallD H.1 (h.length + i) (h.length + j), .ref (h.length + k)]) (h ++ g)
def deedP (H : Hal) : D → Option (Hal × Srt)
  | .tup (.str w :: as) => (wordP H w as).map fun H' => (H', if w = "free" then sortsP (partP 0 H.2.2 (H'.1 : Int) (H.1 : Int)) else [])
  | _ => none
theorem deedP_w {H : Hal} {w : Str} {as : List D} : deedP H (.tup (.str w :: as)) = (wordP H w as).map fun H' => (H', if w = "free" then sortsP (partP 0 H.2.2 (H'.1 : Int) (H.1 : Int)) else []) := rfl
theorem deedP_x {H : Hal} {x : D} {as : List D} (h : ∀ w, x ≠ .str w) : deedP H (.tup (x :: as)) = none := by cases x <;> first | rfl | exact absurd rfl (h _)
theorem deedP_t {H : Hal} {d : D} (h : ∀ xs, d ≠ .tup xs) : deedP H d = none := by cases d <;> first | rfl | exact absurd rfl (h _)
/-- what is known of a thing handed in as a deed -/
structure DKn (h : Sto) (H : Hal) (d : D) : Prop where
  kn : Kn h d
  its : ∀ xs, d = .tup xs → (∀ x ∈ xs, Kn h x) ∧ ∃ p, toP h 9 d = some p
  cut : ∀ as, d = .tup (.str "cut" :: as) → cutNo H as
def WtsOk (H : Hal) : Prop := ∀ p ∈ H.2.2, p.2 ≠ []
def sp_deed_done : Sp3 := fun ds h Q E => ∃ (H : Hal) (i j : Nat) (d : D), ds = [hallD H.1 i j, d] ∧ HAt h i j H ∧ PrsOk H ∧ WtsOk H ∧ DKn h H d ∧ (∀ H' so, deedP H d = some (H', so) → LedD h Q H' so) ∧ (deedP H d = none → E (.type "NoDeed") h)
theorem mono_deed_done : MonoS sp_deed_done := fun ds h Q Q' E E' w1 w2 ⟨H, i, j, d, e, hh, ok, hw, hk, h1, h2⟩ => ⟨H, i, j, d, e, hh, ok, hw, hk, fun H' so z g i' j' k' a b c d e f => w1 _ _ (h1 H' so z g i' j' k' a b c d e f), fun z => w2 _ _ (h2 z)⟩
theorem len_deed_done : ∀ ds h Q E, sp_deed_done ds h Q E → ds.length = 2 := by rintro _ h Q E ⟨H, i, j, d, rfl, _⟩; rfl
theorem toP_cons_ne {h : Sto} {x : D} {xs : List D} {p : PyData} (e : toP h 9 (.tup (x :: xs)) = some p) : PyData.eqv p (.tuple []) = false := by
  have e2 : toP h 9 (.tup (x :: xs)) = ((x :: xs).mapM (toP h 8)).map .tuple := by simp only [toP]
  rw [e2, List.mapM_cons] at e
  cases hx : toP h 8 x with
  | none => rw [hx] at e; cases e
  | some a =>
    cases hs : xs.mapM (toP h 8) with
    | none => rw [hx, hs] at e; cases e
    | some b =>
      rw [hx, hs] at e
      cases e
      simp [PyData.eqv, PyData.eqvAll]
theorem lt_get {g : Sto} {i : Nat} {c : Cell} (e : g[i]? = some c) : i < g.length := (List.getElem?_eq_some_iff.mp e).1
theorem tyN_tp {d : D} {h : Sto} {a : String} (e : tyN d h = some a) : (isT a "tuple" = true ∧ ∃ xs, d = .tup xs) ∨ (isT a "tuple" = false ∧ ∀ xs, d ≠ .tup xs) := by
  cases d with
  | tup v => cases e; exact .inl ⟨by decide, v, rfl⟩
  | ref n =>
    simp only [tyN] at e
    split at e <;> first | (cases e; exact .inr ⟨by decide, fun v z => by cases z⟩) | (cases e)
  | ty n => cases e
  | adr n => cases e
  | _ => cases e; exact .inr ⟨by decide, fun v z => by cases z⟩
theorem wts_part {w : List Pc} {b e : Int} (h : ∀ p ∈ w, p.2 ≠ []) : ∀ a : Int, ∀ p ∈ partP a w b e, p.2 ≠ [] := by
  induction w with
  | nil => intro a p hp; cases hp
  | cons x r ih =>
    intro a p hp
    rw [partP, List.mem_append] at hp
    rcases hp with hp | hp
    · split at hp
      · rw [List.mem_singleton.mp hp]; exact h x List.mem_cons_self
      · cases hp
    · exact ih (fun y hy => h y (List.mem_cons_of_mem _ hy)) _ p hp
theorem in6 {w : Str} : inD (.str w) [.str "gone", .str "folded", .str "joined", .str "carried", .str "cut", .str "free"] = true ↔ Wd6 w := by
  show (("gone" == w) || (("folded" == w) || (("joined" == w) || (("carried" == w) || (("cut" == w) || (("free" == w) || false)))))) = true ↔ _
  simp only [Bool.or_false, Bool.or_eq_true, beq_iff_eq, Wd6]
  simp only [eq_comm]
theorem free_num {H : Hal} {as : List D} {H' : Hal} (e : freeA H as = some H') : as = [.int (H'.1 : Int)] ∧ H'.1 < H.1 := by
  match as with
  | [] => cases e
  | [d] =>
    simp only [freeA] at e
    cases hn : numP H.1 d with
    | none => rw [hn] at e; cases e
    | some k =>
      rw [hn] at e
      obtain ⟨rfl, hk⟩ := num_some hn
      dsimp only at e
      split at e
      · cases e; exact ⟨rfl, hk⟩
      · cases e
  | _ :: _ :: _ => cases e
def r_deed_done_1 (E4 : X4) : C3 :=
  (cRet (tTup3 (tC3 (tV 2) (tC3 (tNew tN3) tN3))))
def t_deed_done (E4 : X4) : C3 :=
  (cSeq (cDrop (tCallX sp_look E4 (tC3 (tAndE (tB3 isiR (tC3 (tV 1) (tC3 (tK (.ty "tuple")) tN3))) (tAndE (tO neR (tV 1) (tTup3 tN3)) (tB3 isiR (tC3 (tO ixR (tV 1) (tK (.int 0))) (tC3 (tK (.ty "str")) tN3))))) tN3)))
    (cSeq (cDrop (tCallX sp_look E4 (tC3 (tOX inX (tO ixR (tV 1) (tK (.int 0))) (tC3 (tK (.str "gone")) (tC3 (tK (.str "folded")) (tC3 (tK (.str "joined")) (tC3 (tK (.str "carried")) (tC3 (tK (.str "cut")) (tC3 (tK (.str "free")) tN3))))))) tN3)))
    (cSeq (cAsg (tCallX sp_hall_behind E4 (tC3 (tV 0) (tC3 (tV 1) tN3))) (gN 2))
    (cSeq (cIf (tT (tO eqR (tO ixR (tV 1) (tK (.int 0))) (tK (.str "free")))) (cRet (tTup3 (tC3 (tV 2) (tC3 (tCall3 sp_sorts (tC3 (tCall3 sp_part (tC3 (tO ixR (tV 0) (tK (.int 2))) (tC3 (tO ixR (tV 1) (tK (.int 1))) (tC3 (tO ixR (tV 0) (tK (.int 0))) tN3)))) tN3)) tN3)))) cNext)
    (r_deed_done_1 E4)))))

theorem rd_deed_done : ∀ ds h Q E, ClS h.length h → ClDs h.length ds → sp_deed_done ds h Q E → t_deed_done (GE h.length E) (ends3 (GQ h.length Q)) (start3 3 ds) h := by
  rintro ds h Q E hcl _ ⟨H, i, j, d, rfl, hh, ok, wok, ⟨⟨a, ea⟩, hk, hcut⟩, h1, h2⟩
  have t1 : toP h 9 (.tup []) = some (.tuple []) := rfl
  try simp only [↓tV_q, ↓tK_q, ↓tAndE_q, ↓tN3_q, ↓tC3_q, ↓cSeq_q, ↓cDrop_q, ↓tB3_q, ↓start3_q, ↓isi_4, ↓tCallX_q, onO_some, isU_q, ifT_q, List.getElem?_cons_zero, List.getElem?_cons_succ, List.map_cons, List.map_nil, List.cons_append, List.nil_append, List.length_cons, List.length_nil, List.replicate_succ, List.replicate_zero, Nat.reduceAdd, Nat.reduceSub, t_deed_done, ea]
  rcases tyN_tp ea with ⟨ty, xs, rfl⟩ | ⟨ty, nt⟩
  · rw [ty]
    obtain ⟨kn, p, hp⟩ := hk _ rfl
    try simp only [↓tV_q, ↓tO_q, ↓tAndE_q, ↓tN3_q, ↓tTup3_q, ↓start3_q, ↓neR_tq, onO_some, ifC_true, eqT_q, ifT_q, List.getElem?_cons_zero, List.getElem?_cons_succ, List.map_cons, List.map_nil, List.cons_append, List.nil_append, List.length_cons, List.length_nil, List.replicate_succ, List.replicate_zero, Nat.reduceAdd, Nat.reduceSub, hp, t1]
    cases xs with
    | nil =>
      rw [t1] at hp
      cases hp
      rw [show PyData.eqv (.tuple []) (.tuple []) = true from by simp [PyData.eqv, PyData.eqvAll]]
      try simp only [↓tN3_q, ifC_false, Bool.not_true]
      exact look_q (fun z => nomatch z) fun _ => .inl (h2 rfl)
    | cons x as =>
      rw [toP_cons_ne hp]
      obtain ⟨b, eb⟩ := kn x List.mem_cons_self
      try simp only [↓tV_q, ↓tK_q, ↓tO_q, ↓tN3_q, ↓tC3_q, ↓tB3_q, ↓start3_q, ↓ixR_ti_q, ↓isi_3, onO_some, ifC_true, isU_q, atT_0, List.getElem?_cons_zero, List.getElem?_cons_succ, List.map_cons, List.map_nil, List.cons_append, List.nil_append, List.length_cons, List.length_nil, List.replicate_succ, List.replicate_zero, Nat.reduceAdd, Nat.reduceSub, Bool.not_false, eb]
      rcases tyN_sw eb with ⟨tb, w, rfl⟩ | ⟨tb, nw⟩
      · rw [tb]
        refine look_q (fun _ => ?_) (fun z => nomatch z)
        try simp only [↓tV_q, ↓tK_q, ↓tO_q, ↓tN3_q, ↓tC3_q, ↓cSeq_q, ↓cDrop_q, ↓tOX_q, ↓inX_q, ↓start3_q, ↓ixR_ti_q, ↓tCallX_q, thenE_nx, onO_some, atT_0, List.getElem?_cons_zero, List.getElem?_cons_succ, List.map_cons, List.map_nil, List.cons_append, List.nil_append, List.length_cons, List.length_nil, List.replicate_succ, List.replicate_zero, Nat.reduceAdd, Nat.reduceSub]
        refine ⟨⟨rfl, rfl⟩, ?_⟩
        refine look_q (fun hin => ?_) (fun hin => ?_)
        · have hw := in6.mp hin
          try simp only [↓tV_q, ↓tN3_q, ↓tC3_q, ↓cSeq_q, ↓cAsg_q, ↓tCallX_q, thenE_nx, onO_some, List.getElem?_cons_zero, List.getElem?_cons_succ]
          refine ⟨H, i, j, w, as, rfl, hh, ok, hw, fun y hy => kn y (List.mem_cons_of_mem _ hy), fun e => hcut as (by rw [e]), fun H' e g i' j' a b c => ?_, fun e => ⟨_, rfl, .inl (h2 (by rw [deedP_w, e]; rfl))⟩⟩
          have so : PyData.strOk w = true := by
            rcases hw with rfl | rfl | rfl | rfl | rfl | rfl
            · exact so_gone
            · exact so_folded
            · exact so_joined
            · exact so_carried
            · exact so_cut
            · exact so_free
          try simp only [↓tV_q, ↓tK_q, ↓tO_q, ↓tT_q, ↓cSeq_q, ↓cIf_q, ↓gN_q, ↓eqR_sq, ↓ixR_ti_q, thenE_nx, onO_some, onB_bl, atT_0, List.getElem?_cons_zero, List.getElem?_cons_succ, List.set_cons_zero, List.set_cons_succ, eqT_s so so_free]
          refine ifC_of (fun ew => ?_) (fun ew => ?_)
          · subst ew
            rw [word_free] at e
            obtain ⟨rfl, hlt⟩ := free_num e
            obtain ⟨n, prs, wg⟩ := H
            try simp only [↓tV_q, ↓tK_q, ↓tO_q, ↓tN3_q, ↓tC3_q, ↓tTup3_q, ↓cRet_q, ↓tCall3_q, ↓ixR_ti_q, onO_some, atT_0, atT_1, atT_2, List.getElem?_cons_zero, List.getElem?_cons_succ, hallD]
            refine part_q (w := wg) (get_up hh.2.1) hh.2.2.2 ?_
            try simp only [↓tN3_q]
            refine sorts_q (w := partP 0 wg (H'.1 : Int) (n : Int)) get_new (Nat.le_trans (part_size _ _ _ _) hh.2.2.2) (wts_part wok 0) ?_
            try simp only [↓tN3_q, thenE_rt, ends3_rt]
            have g1 := h1 H' (sortsP (partP 0 wg (H'.1 : Int) (n : Int))) (by rw [deedP_w, word_free, e]; rfl) (g ++ [.lst ((partP 0 wg (H'.1 : Int) (n : Int)).map pcD), .lst ((sortsP (partP 0 wg (H'.1 : Int) (n : Int))).map stD)]) i' j' (g.length + 1) a (Nat.ne_of_lt (Nat.lt_succ_of_lt (lt_get b))) (Nat.ne_of_lt (Nat.lt_succ_of_lt (lt_get c))) (get_up b) (get_up c) (by rw [List.getElem?_append_right (by omega), Nat.add_sub_cancel_left]; rfl)
            refine .inl ?_
            simp only [hallD] at g1
            simpa [Nat.add_assoc] using g1
          · try simp only [↓tV_q, ↓tN3_q, ↓tC3_q, ↓tTup3_q, ↓tNew_q, ↓cNext_q, ↓cRet_q, thenE_nx, ends3_rt, onO_some, List.getElem?_cons_zero, List.getElem?_cons_succ, r_deed_done_1]
            have g1 := h1 H' [] (by rw [deedP_w, e]; show some (H', if w = "free" then _ else []) = _; rw [if_neg ew]) (g ++ [.lst []]) i' j' g.length a (Nat.ne_of_lt (lt_get b)) (Nat.ne_of_lt (lt_get c)) (get_up b) (get_up c) get_new
            rw [List.append_assoc, List.length_append]
            exact .inl g1
        · refine .inl (h2 ?_)
          rw [deedP_w, word_no fun z => by rw [in6.mpr z] at hin; cases hin]; rfl
      · rw [tb]
        exact look_q (fun z => nomatch z) fun _ => .inl (h2 (deedP_x nw))
  · rw [ty]
    try simp only [↓tN3_q, ifC_false]
    exact look_q (fun z => nomatch z) fun _ => .inl (h2 (deedP_t nt))
theorem deed_done_q {H : Hal} {i j : Nat} {d : D} {h : Sto} {Q : DK} {H' : Hal} {so : Srt} (hh : HAt h i j H) (ok : PrsOk H) (hw : WtsOk H) (hk : DKn h H d) (e : deedP H d = some (H', so)) (q : LedD h Q H' so) : callS sp_deed_done [hallD H.1 i j, d] h Q :=
  ⟨H, i, j, d, rfl, hh, ok, hw, hk, fun H2 s2 e2 => by rw [e] at e2; cases e2; exact q, fun e2 => by rw [e] at e2; cases e2⟩
theorem deed_done_x {H : Hal} {i j : Nat} {d : D} {h : Sto} {Q : DK} {E : String → Sto → Prop} (hh : HAt h i j H) (ok : PrsOk H) (hw : WtsOk H) (hk : DKn h H d) (e : deedP H d = none) (q : E "NoDeed" h) : callX sp_deed_done [hallD H.1 i j, d] h Q E :=
  ⟨H, i, j, d, rfl, hh, ok, hw, hk, fun H2 s2 e2 => by { rw [e] at e2; cases e2 }, fun _ => ⟨_, rfl, q⟩⟩
end F3
set_option maxHeartbeats 400000
/-! DI (as DG, of any deed): what the laws of deeds look at: told right, refused, done right. -/
namespace F3
open PySem PySem.Spec PyProof.Rows L2
/-- told: a hall and sorts, in the store -/
def ToldD (H : Hal) (i j k : Nat) : D := .tup [hallD H.1 i j, .ref k]
def TAt (h : Sto) (i j k : Nat) (H : Hal) (so : Srt) : Prop := h[i]? = some (.lst (H.2.1.map p4D)) ∧ h[j]? = some (.lst (H.2.2.map pcD)) ∧ h[k]? = some (.lst (so.map stD))
structure TOk2 (H : Hal) (so : Srt) : Prop where
  l1 : H.2.1.length ≤ 1000
  l2 : H.2.2.length ≤ 1000
  l3 : so.length ≤ 1000
  w2 : ∀ p ∈ H.2.2, p.2.length ≤ 24
  w3 : ∀ p ∈ so, p.1.length ≤ 24
def sp_told_right : Sp3 := spD (fun (a__ : Hal × Srt × Nat × Nat × Nat) => match a__ with | (H, so, i, j, k) => [ToldD H i j k]) (fun (a__ : Hal × Srt × Nat × Nat × Nat) (h : Sto) => match a__ with | (H, so, i, j, k) => TAt h i j k H so ∧ TOk2 H so) (fun (a__ : Hal × Srt × Nat × Nat × Nat) (h : Sto) => match a__ with | (H, so, i, j, k) => .bl true) (fun (a__ : Hal × Srt × Nat × Nat × Nat) (h : Sto) => match a__ with | (H, so, i, j, k) => h)
theorem mono_told_right : MonoS sp_told_right := mono_spD
theorem len_told_right : ∀ ds h Q E, sp_told_right ds h Q E → ds.length = 1 := len_spD fun _ => rfl
theorem told_right_q {H : Hal} {so : Srt} {i : Nat} {j : Nat} {k : Nat} {h : Sto} {Q : DK} (hp : TAt h i j k H so ∧ TOk2 H so) (q : Q (.bl true) (h)) : callS sp_told_right [ToldD H i j k] h Q := ⟨(H, so, i, j, k), rfl, hp, q⟩
def r_told_right_3 : C3 :=
  (cDrop (tLM extU (tV 1) (tC3 (tSl3 (tV 2) oNo (oSo (tK (.int 3)))) tN3)))
def b_told_right_1 : C3 :=
  (cSeq (cIf (tOr3 (tNot3 (tT (tB3 isiR (tC3 (tV 2) (tC3 (tK (.ty "tuple")) tN3))))) (tOr3 (tT (tO neR (tB3 lenR (tC3 (tV 2) tN3)) (tK (.int 4)))) (tNot3 (tT (tB3 isiR (tC3 (tO ixR (tV 2) (tK (.int 3))) (tC3 (tK (.ty "bool")) tN3))))))) (cRet (tK (.bl false))) cNext)
    r_told_right_3)
def b_told_right_2 : C3 :=
  (cDrop (tLM extT (tV 1) (tC3 (tO addR (tNew (tL3 lstM (tC3 (tV 4) tN3))) (tNew (tC3 (tV 3) tN3))) tN3)))
def b_told_right_3 : C3 :=
  (cDrop (tLM extT (tV 1) (tC3 (tO addR (tNew (tL3 lstM (tC3 (tV 3) tN3))) (tNew (tC3 (tV 4) tN3))) tN3)))
def e_told_right_1 : E3 :=
  (tCall3 sp_whole (tC3 (tV 5) tN3))
def r_told_right_2 : C3 :=
  (cSeq (cAsg (tNew (tC3 (tO ixR (tO ixR (tV 0) (tK (.int 0))) (tK (.int 0))) tN3)) (gN 1))
    (cSeq (cFor (iSeq (tO ixR (tO ixR (tV 0) (tK (.int 0))) (tK (.int 1)))) (gN 2) b_told_right_1)
    (cSeq (cFor (iSeq (tO ixR (tO ixR (tV 0) (tK (.int 0))) (tK (.int 2)))) (gTup3 2 (gCons3 (gN 3) (gCons3 (gN 4) gNil3))) b_told_right_2)
    (cSeq (cFor (iSeq (tO ixR (tV 0) (tK (.int 1)))) (gTup3 2 (gCons3 (gN 3) (gCons3 (gN 4) gNil3))) b_told_right_3)
    (cRet (tB3 allX (tLc3 (iSeq (tV 1)) (gN 5) bYes e_told_right_1 [5])))))))
def r_told_right_1 : C3 :=
  (cSeq (cIf (tOr3 (tNot3 (tT (tB3 isiR (tC3 (tO ixR (tO ixR (tV 0) (tK (.int 0))) (tK (.int 1))) (tC3 (tK (.ty "list")) tN3))))) (tOr3 (tNot3 (tT (tB3 isiR (tC3 (tO ixR (tO ixR (tV 0) (tK (.int 0))) (tK (.int 2))) (tC3 (tK (.ty "list")) tN3))))) (tNot3 (tT (tB3 isiR (tC3 (tO ixR (tV 0) (tK (.int 1))) (tC3 (tK (.ty "list")) tN3))))))) (cRet (tK (.bl false))) cNext)
    r_told_right_2)
def t_told_right : C3 :=
  (cSeq (cIf (tOr3 (tNot3 (tT (tB3 isiR (tC3 (tV 0) (tC3 (tK (.ty "tuple")) tN3))))) (tOr3 (tT (tO neR (tB3 lenR (tC3 (tV 0) tN3)) (tK (.int 2)))) (tOr3 (tNot3 (tT (tB3 isiR (tC3 (tO ixR (tV 0) (tK (.int 0))) (tC3 (tK (.ty "tuple")) tN3))))) (tT (tO neR (tB3 lenR (tC3 (tO ixR (tV 0) (tK (.int 0))) tN3)) (tK (.int 3))))))) (cRet (tK (.bl false))) cNext)
    r_told_right_1)

theorem app_cons {h g k : Sto} {c : Cell} : (h ++ c :: g) ++ k = h ++ c :: (g ++ k) := by rw [List.append_assoc, List.cons_append]
theorem set_app {h g : Sto} {k : Nat} {c : Cell} : (h ++ g).set (h.length + k) c = h ++ g.set k c := by rw [List.set_append_right _ _ (by omega), Nat.add_sub_cancel_left]
theorem cut3 {a b c d : D} : cutD [a, b, c, d] none (some 3) = [a, b, c] := rfl
theorem ga1 {h g k : Sto} {c : Cell} : ((h ++ c :: g) ++ k)[h.length]? = some c := get_up get_app0
theorem ga2 {h g k l : Sto} {c : Cell} : ((h ++ c :: g) ++ k ++ l)[h.length]? = some c := get_up ga1
theorem ga3 {h g k l m : Sto} {c : Cell} : ((h ++ c :: g) ++ k ++ l ++ m)[h.length]? = some c := get_up ga2
theorem nums_app {ns : List Int} {k : Nat} (xs : List Int) (h : ns.length = k) : (ns ++ xs).length = k + xs.length := by rw [List.length_append, h]
theorem rd_told_right : ∀ ds h Q E, ClS h.length h → ClDs h.length ds → sp_told_right ds h Q E → t_told_right (ends3 (GQ h.length Q)) (start3 6 ds) h := by
  rintro ds h Q E hcl _ ⟨⟨H, so, i, j, k⟩, rfl, hp0, q0⟩
  have hp : TAt h i j k H so ∧ TOk2 H so := hp0
  have q : Q (.bl true) (h) := q0
  clear hp0 q0
  obtain ⟨n, prs, w⟩ := H
  obtain ⟨⟨hi, hj, hk⟩, ok⟩ := hp
  obtain ⟨l1, l2, l3, w2, w3⟩ := ok
  dsimp only at hi hj l1 l2 w2
  try simp only [↓tV_q, ↓tK_q, ↓tO_q, ↓tT_q, ↓tOr3_q, ↓tNot3_q, ↓tN3_q, ↓tC3_q, ↓cSeq_q, ↓cIf_q, ↓tB3_q, ↓start3_q, ↓neR_ii_q, ↓lenR_t_q, ↓isi_4, onO_some, onB_bl, ifC_false, isU_q, tyN_tup_q, isT_5, List.getElem?_cons_zero, List.map_cons, List.map_nil, List.cons_append, List.nil_append, List.length_cons, List.length_nil, List.replicate_succ, List.replicate_zero, Nat.reduceAdd, Nat.reduceSub, Bool.not_true, t_told_right, ToldD, hallD]
  refine ifC_nyes rfl ?_
  try simp only [↓tV_q, ↓tK_q, ↓tO_q, ↓tT_q, ↓tOr3_q, ↓tNot3_q, ↓tN3_q, ↓tC3_q, ↓tB3_q, ↓start3_q, ↓neR_ii_q, ↓ixR_ti_q, ↓lenR_t_q, ↓isi_4, onO_some, onB_bl, ifC_false, isU_q, atT_0, tyN_tup_q, isT_5, List.getElem?_cons_zero, List.map_cons, List.map_nil, List.cons_append, List.nil_append, List.length_cons, List.length_nil, List.replicate_succ, List.replicate_zero, Nat.reduceAdd, Nat.reduceSub, Bool.not_true]
  refine ifC_nyes rfl ?_
  try simp only [↓tV_q, ↓tK_q, ↓tO_q, ↓tT_q, ↓tOr3_q, ↓tNot3_q, ↓tN3_q, ↓tC3_q, ↓cNext_q, ↓cSeq_q, ↓cIf_q, ↓tB3_q, ↓start3_q, ↓ixR_ti_q, ↓isi_5, thenE_nx, onO_some, onB_bl, ifC_false, isU_q, atT_0, atT_1, atT_2, tyN_r, isT_6, List.getElem?_cons_zero, List.map_cons, List.map_nil, List.cons_append, List.nil_append, List.length_cons, List.length_nil, List.replicate_succ, List.replicate_zero, Nat.reduceAdd, Nat.reduceSub, Bool.not_true, r_told_right_1, tyN_r hi, tyN_r hj, tyN_r hk]
  try simp only [↓tV_q, ↓tK_q, ↓tO_q, ↓tN3_q, ↓tC3_q, ↓tNew_q, ↓cSeq_q, ↓cAsg_q, ↓gN_q, ↓cFor_q, ↓iSeq_q, ↓iSeqD_rq, ↓ixR_ti_q, thenE_nx, onO_some, onC_q, atT_0, atT_1, List.getElem?_cons_zero, List.set_cons_zero, List.set_cons_succ, r_told_right_2, get_up hi]
  refine forL (f := p4D) (fun l ρ h' => ∃ (g : Sto) (ns : List Int) (o2 : Option D), ns.length = 1 + 3 * l.length ∧ ρ = [some (.tup [.tup [.int (n : Int), .ref i, .ref j], .ref k]), some (.ref h.length), o2, none, none, none] ∧ h' = h ++ .lst (ns.map .int) :: g) ⟨[], [(n : Int)], none, rfl, rfl, rfl⟩ ?_ ?_ ?_
  · rintro l ρ h' ⟨g, ns, o2, _, _, rfl⟩
    exact get_up hi
  · rintro ρ h' ⟨g, ns, o2, nl, rfl, rfl⟩
    try simp only [↓tV_q, ↓tK_q, ↓tO_q, ↓cSeq_q, ↓cFor_q, ↓iSeq_q, ↓iSeqD_rq, ↓ixR_ti_q, thenE_nx, onO_some, onC_q, atT_0, atT_1, atT_2, List.getElem?_cons_zero, get_up hj]
    refine forL (f := pcD) (fun l ρ h' => ∃ (g : Sto) (ns : List Int) (o3 o4 : Option D), ns.length ≤ 4000 + 25 * l.length ∧ ρ = [some (.tup [.tup [.int (n : Int), .ref i, .ref j], .ref k]), some (.ref h.length), o2, o3, o4, none] ∧ h' = h ++ .lst (ns.map .int) :: g) ⟨g, ns, none, none, by rw [List.length_nil]; omega, rfl, rfl⟩ ?_ ?_ ?_
    · rintro l ρ h' ⟨g, ns, o3, o4, _, _, rfl⟩
      exact get_up hj
    · rintro ρ h' ⟨g, ns, o3, o4, nl, rfl, rfl⟩
      try simp only [↓tV_q, ↓tK_q, ↓tO_q, ↓cSeq_q, ↓cFor_q, ↓iSeq_q, ↓iSeqD_rq, ↓ixR_ti_q, thenE_nx, onO_some, onC_q, atT_0, atT_1, List.getElem?_cons_zero, get_up hk]
      refine forL (f := stD) (fun l ρ h' => ∃ (g : Sto) (ns : List Int) (o3 o4 : Option D), ns.length ≤ 29000 + 25 * l.length ∧ ρ = [some (.tup [.tup [.int (n : Int), .ref i, .ref j], .ref k]), some (.ref h.length), o2, o3, o4, none] ∧ h' = h ++ .lst (ns.map .int) :: g) ⟨g, ns, o3, o4, by rw [List.length_nil]; omega, rfl, rfl⟩ ?_ ?_ ?_
      · rintro l ρ h' ⟨g, ns, o3, o4, _, _, rfl⟩
        exact get_up hk
      · rintro ρ h' ⟨g, ns, o3, o4, nl, rfl, rfl⟩
        try simp only [↓tV_q, ↓cRet_q, ↓iSeq_q, ↓iSeqD_rq, ↓tLc3_q, ↓tB3_q, thenE_nx, onO_some, onC_q, wipe3_nil, wipe3_cons, List.getElem?_cons_zero, List.getElem?_cons_succ, List.set_cons_zero, List.set_cons_succ, get_app0]
        refine ⟨by rw [List.length_map]; omega, lcMap (f := D.int) (r := fun _ => D.bl true) (h := h ++ .lst (ns.map .int) :: g) get_app0 ?_ fun x _ Q q => ?_⟩
        · have eb : blsOf (ns.map fun _ => D.bl true) = some (ns.map fun _ => true) := by
            clear nl
            induction ns with
            | nil => rfl
            | cons a r ih => rw [List.map_cons, List.map_cons]; simp only [blsOf] at ih ⊢; simp [List.mapM_cons, ih]
          try simp only [↓allX_q, ends3_rt, onBs_q, eb]
          rw [show (ns.map fun _ => true).all id = true by simp]
          exact gq_tail rfl (by simp only [ClD]) hcl q
        · try simp only [↓tV_q, ↓tN3_q, ↓tC3_q, ↓gN_q, ↓tCall3_q, onO_some, List.getElem?_cons_zero, List.getElem?_cons_succ, List.set_cons_zero, List.set_cons_succ, e_told_right_1]
          exact whole_q kn_int q
      · rintro l x r ρ h' F e ⟨g, ns, o3, o4, nl, rfl, rfl⟩ hF
        have el := congrArg List.length e
        rw [List.length_append, List.length_cons] at el
        have xw := w3 x (by rw [e]; simp)
        try simp only [↓tV_q, ↓tO_q, ↓tN3_q, ↓tC3_q, ↓tNew_q, ↓cDrop_q, ↓gN_q, ↓gNil3_q, ↓gCons3_q, ↓gTup3_q, ↓tL3_q, ↓tLM_q, ↓lmD_q, ↓extT_q, ↓addR_rq, ↓lstM_t_q, loopE_nx, onO_some, onC_q, List.getElem?_cons_zero, List.getElem?_cons_succ, List.set_cons_zero, List.set_cons_succ, List.length_cons, List.length_nil, Nat.reduceAdd, Nat.reduceLeDiff, true_and, stD, b_told_right_3, get_app0, ga1, ga3]
        refine ⟨by simp; omega, ?_⟩
        skip
        refine ⟨by simp; omega, ?_⟩
        rw [app_cons, app_cons, app_cons, set_app0]
        rw [show ns.map D.int ++ (x.1.map D.int ++ [D.int x.2]) = (ns ++ (x.1 ++ [x.2])).map D.int by simp]
        refine hF _ _ ⟨_, ns ++ (x.1 ++ [x.2]), _, _, ?_, rfl, rfl⟩
        simp
        omega
    · rintro l x r ρ h' F e ⟨g, ns, o3, o4, nl, rfl, rfl⟩ hF
      have el := congrArg List.length e
      rw [List.length_append, List.length_cons] at el
      have xw := w2 x (by rw [e]; simp)
      try simp only [↓tV_q, ↓tO_q, ↓tN3_q, ↓tC3_q, ↓tNew_q, ↓cDrop_q, ↓tL3_q, ↓tLM_q, ↓lmD_q, ↓extT_q, ↓addR_rq, ↓lstM_t_q, ↓gTup_pc, loopE_nx, onO_some, onC_q, List.getElem?_cons_zero, List.getElem?_cons_succ, List.set_cons_zero, List.set_cons_succ, List.length_cons, List.length_nil, Nat.reduceAdd, Nat.reduceLeDiff, wtD, b_told_right_2, get_app0, ga1, ga3]
      refine ⟨by simp; omega, ?_⟩
      skip
      refine ⟨by simp; omega, ?_⟩
      rw [app_cons, app_cons, app_cons, set_app0]
      rw [show ns.map D.int ++ (x.2.map D.int ++ [D.int x.1]) = (ns ++ (x.2 ++ [x.1])).map D.int by simp]
      refine hF _ _ ⟨_, ns ++ (x.2 ++ [x.1]), _, _, ?_, rfl, rfl⟩
      simp
      omega
  · rintro l x r ρ h' F e ⟨g, ns, o2, nl, rfl, rfl⟩ hF
    have el := congrArg List.length e
    rw [List.length_append, List.length_cons] at el
    try simp only [↓tV_q, ↓tK_q, ↓tO_q, ↓tT_q, ↓tOr3_q, ↓tNot3_q, ↓tN3_q, ↓tC3_q, ↓cSeq_q, ↓cIf_q, ↓gN_q, ↓tB3_q, ↓neR_ii_q, ↓lenR_t_q, ↓isi_4, onO_some, onB_bl, ifC_false, isU_q, tyN_tup_q, isT_5, List.getElem?_cons_zero, List.getElem?_cons_succ, List.set_cons_zero, List.set_cons_succ, List.length_cons, List.length_nil, Nat.reduceAdd, Bool.not_true, b_told_right_1, p4D, pr]
    refine ifC_nyes rfl ?_
    try simp only [↓tV_q, ↓tK_q, ↓tO_q, ↓tT_q, ↓tNot3_q, ↓tN3_q, ↓tC3_q, ↓cNext_q, ↓cDrop_q, ↓tB3_q, ↓tSl3_q, ↓oNo_q, ↓oSo_q, ↓tLM_q, ↓lmD_q, ↓ixR_ti_q, ↓slR_t_q, ↓isi_2, ↓extU_tq, thenE_nx, loopE_nx, onO_some, onB_bl, onI_int, ifC_false, onC_q, isU_q, atT_0, atT_1, atT_2, atT_3, tyN_bl_q, isT_2, List.getElem?_cons_zero, List.getElem?_cons_succ, List.length_cons, List.length_nil, Nat.reduceAdd, Bool.not_true, r_told_right_3, get_app0]
    refine ⟨by decide, ?_⟩
    rw [cut3]
    try simp only [List.length_cons, List.length_nil, Nat.reduceAdd, Nat.reduceLeDiff]
    refine ⟨by simp; omega, ?_⟩
    rw [set_app0]
    rw [show ns.map D.int ++ [D.int x.1, D.int x.2.1, D.int x.2.2.1] = (ns ++ [x.1, x.2.1, x.2.2.1]).map D.int by simp]
    refine hF _ _ ⟨_, ns ++ [x.1, x.2.1, x.2.2.1], _, ?_, rfl, rfl⟩
    simp
    omega
/-! ### data -/
def toldP (H : Hal) (so : Srt) : PyData := .tuple [hallP H.1 H.2.1 H.2.2, .list (so.map stP)]
theorem toP_told {h : Sto} {i j k : Nat} {H : Hal} {so : Srt} (t : TAt h i j k H so) : toP h 9 (ToldD H i j k) = some (toldP H so) := by
  have h1 := toP_hallk (k := 3) (n := H.1) t.1 t.2.1
  have h2 : toP h 8 (.ref k) = some (.list (so.map stP)) := toP_lst (k := 7) t.2.2 (mapM_of fun p _ => toP_stk (k := 4) p)
  refine toP_tup (k := 8) ?_
  rw [List.mapM_cons, List.mapM_cons, List.mapM_nil, h1, h2]; rfl
theorem eqv_told {H : Hal} {so : Srt} : PyData.eqv (toldP H so) (toldP H so) = true := by
  have h2 : PyData.eqv (.list (so.map stP)) (.list (so.map stP)) = true := by
    rw [PyData.eqv]
    refine eqv_map _ (fun q => ?_) so
    have := eqv_tupI (ns := q.1) (ms := q.1)
    simp only [stP, PyData.eqv, PyData.eqvAll] at this ⊢
    simp [this]
  unfold toldP
  rw [PyData.eqv, PyData.eqvAll, PyData.eqvAll, PyData.eqvAll, h2, eqv_hall]; rfl
theorem ninR_rq {n : Nat} {d : D} {h : Sto} {Q : DK} : ninR d (.ref n) h Q = onC h[n]? fun xs => (flatD d = true ∧ xs.all flatD = true) ∧ Q (.bl (!inD d xs)) h := by
  unfold ninR
  simp only [itemsOf]
  cases e : h[n]? with
  | none => rfl
  | some c => cases c <;> rfl
/-! ### refused, done -/
def DOkD (h : Sto) (H : Hal) (d : D) : Prop := WtsOk H ∧ ∀ g, DKn (h ++ g) H d
theorem HAt.up {h g : Sto} {i j : Nat} {H : Hal} (a : HAt h i j H) : HAt (h ++ g) i j H := ⟨get_up a.1, get_up a.2.1, a.2.2⟩
theorem TAt.up {h g : Sto} {i j k : Nat} {H : Hal} {so : Srt} (a : TAt h i j k H so) : TAt (h ++ g) i j k H so := ⟨get_up a.1, get_up a.2.1, get_up a.2.2⟩
theorem DOkD.up {h g : Sto} {H : Hal} {d : D} (a : DOkD h H d) : DOkD (h ++ g) H d := ⟨a.1, fun k => by rw [List.append_assoc]; exact a.2 _⟩
theorem DOkD.at0 {h : Sto} {H : Hal} {d : D} (a : DOkD h H d) : DKn h H d := by
  have h1 := a.2 []
  rw [List.append_nil] at h1
  exact h1
def sp_refused : Sp3 := spD (fun (a__ : Hal × Nat × Nat × D) => match a__ with | (H, i, j, d) => [hallD H.1 i j, d]) (fun (a__ : Hal × Nat × Nat × D) (h : Sto) => match a__ with | (H, i, j, d) => HAt h i j H ∧ PrsOk H ∧ DOkD h H d ∧ deedP H d = none) (fun (a__ : Hal × Nat × Nat × D) (h : Sto) => match a__ with | (H, i, j, d) => .bl true) (fun (a__ : Hal × Nat × Nat × D) (h : Sto) => match a__ with | (H, i, j, d) => h)
theorem mono_refused : MonoS sp_refused := mono_spD
theorem len_refused : ∀ ds h Q E, sp_refused ds h Q E → ds.length = 2 := len_spD fun _ => rfl
theorem refused_q {H : Hal} {i : Nat} {j : Nat} {d : D} {h : Sto} {Q : DK} (hp : HAt h i j H ∧ PrsOk H ∧ DOkD h H d ∧ deedP H d = none) (q : Q (.bl true) (h)) : callS sp_refused [hallD H.1 i j, d] h Q := ⟨(H, i, j, d), rfl, hp, q⟩
def y_refused_1 (E4 : X4) : C3 :=
  (cDrop (tCallX sp_deed_done E4 (tC3 (tV 2) (tC3 (tV 1) tN3))))
def u_refused_1 (a : Addr) (c : String) : C3 :=
  (cSeq (cAsg (tNew (tC3 (tIsE 3 a (subE c "TooMany")) (tC3 (tIsE 3 a (subE c "NoRow")) (tC3 (tIsE 3 a (subE c "NoCord")) (tC3 (tIsE 3 a (subE c "NoTurn")) tN3))))) (gN 4))
    (cSeq (cAsg (tO addR (tV 4) (tNew (tC3 (tIsE 3 a (subE c "NoText")) (tC3 (tIsE 3 a (subE c "NoSheet")) (tC3 (tIsE 3 a (subE c "NoName")) tN3))))) (gN 4))
    (cRet (tAndE (tIsE 3 a (subE c "NoDeed")) (tAndE (tIsE 3 a true) (tAndE (tO ninR (tK (.bl true)) (tV 4)) (tO eqR (tV 2) (tV 0))))))))
def t_refused : C3 :=
  (cSeq (cAsg (tTup3 (tC3 (tO ixR (tV 0) (tK (.int 0))) (tC3 (tNew (tL3 lstM (tC3 (tO ixR (tV 0) (tK (.int 1))) tN3))) (tC3 (tNew (tL3 lstM (tC3 (tO ixR (tV 0) (tK (.int 2))) tN3))) tN3)))) (gN 2))
    (cSeq (cTryE ["NoDeed"] 3 y_refused_1 u_refused_1)
    (cRet (tK (.bl false)))))

theorem sub_no {y : String} (h : "NoDeed" ≠ y) (h2 : y ≠ "CordError") : subE "NoDeed" y = false := by unfold subE; rw [decide_eq_false h, decide_eq_false h2]; rfl
theorem rd_refused : ∀ ds h Q E, ClS h.length h → ClDs h.length ds → sp_refused ds h Q E → t_refused (ends3 (GQ h.length Q)) (start3 5 ds) h := by
  rintro ds h Q E hcl _ ⟨⟨H, i, j, d⟩, rfl, hp0, q0⟩
  have hp : HAt h i j H ∧ PrsOk H ∧ DOkD h H d ∧ deedP H d = none := hp0
  have q : Q (.bl true) (h) := q0
  clear hp0 q0
  obtain ⟨n, prs, wg⟩ := H
  obtain ⟨⟨hi, hj, pl, wl⟩, ok, hd, e⟩ := hp
  dsimp only at hi hj pl wl
  try simp only [↓tV_q, ↓tK_q, ↓tO_q, ↓tN3_q, ↓tC3_q, ↓tTup3_q, ↓tNew_q, ↓cSeq_q, ↓cDrop_q, ↓cAsg_q, ↓gN_q, ↓tL3_q, ↓start3_q, ↓ixR_ti_q, ↓lstM_rq, ↓tCallX_q, ↓cTryE_q, thenE_nx, onO_some, onC_q, atT_0, atT_1, atT_2, List.getElem?_cons_zero, List.getElem?_cons_succ, List.set_cons_zero, List.set_cons_succ, List.map_cons, List.map_nil, List.cons_append, List.nil_append, List.length_cons, List.length_nil, List.replicate_succ, List.replicate_zero, Nat.reduceAdd, Nat.reduceSub, t_refused, hallD, hi, get_up hj, y_refused_1]
  have hd2 := hd.up (g := [Cell.lst (prs.map p4D)] ++ [Cell.lst (wg.map pcD)])
  rw [← List.append_assoc] at hd2
  refine deed_done_x (H := (n, prs, wg)) ⟨get_new2, by simp, pl, wl⟩ ok hd.1 hd2.at0 e ⟨by simp, fun a => ?_⟩
  have s1 := sub_no (y := "TooMany") (by decide) (by decide)
  have s2 := sub_no (y := "NoRow") (by decide) (by decide)
  have s3 := sub_no (y := "NoCord") (by decide) (by decide)
  have s4 := sub_no (y := "NoTurn") (by decide) (by decide)
  have s5 := sub_no (y := "NoText") (by decide) (by decide)
  have s6 := sub_no (y := "NoSheet") (by decide) (by decide)
  have s7 := sub_no (y := "NoName") (by decide) (by decide)
  have s8 : subE "NoDeed" "NoDeed" = true := by decide
  try simp only [↓tV_q, ↓tK_q, ↓tO_q, ↓tAndE_q, ↓tN3_q, ↓tC3_q, ↓tNew_q, ↓cSeq_q, ↓cRet_q, ↓cAsg_q, ↓gN_q, ↓addR_rq, ↓tIsE_q, ↓isAd_q, thenE_nx, onO_some, ifC_true, onC_q, ifT_q, List.getElem?_cons_zero, List.getElem?_cons_succ, List.set_cons_zero, List.set_cons_succ, List.cons_append, List.nil_append, List.length_cons, List.length_nil, Nat.reduceAdd, Nat.reduceLeDiff, true_and, u_refused_1, isAd_q, s1, s2, s3, s4, s5, s6, s7, s8, get_new, get_new2]
  rw [ninR_rq]
  try simp only [onC_q, ifT_q, get_new]
  refine ⟨⟨rfl, rfl⟩, ?_⟩
  try simp only [↓tV_q, ↓tO_q, ↓eqR_tq, onO_some, ifC_true, List.getElem?_cons_zero, List.getElem?_cons_succ, Bool.not_false, show (inD (.bl true) [.bl false, .bl false, .bl false, .bl false, .bl false, .bl false, .bl false]) = false from rfl]
  refine eqT_p (toP_hall (get_up (get_up (get_up get_new2))) (get_up (get_up (get_up get_new)))) (toP_hall (get_up (get_up (get_up (get_up (get_up hi))))) (get_up (get_up (get_up (get_up (get_up hj)))))) eqv_hall ?_
  rw [List.append_assoc, List.append_assoc, List.append_assoc, List.append_assoc]
  exact gq_tail rfl (by simp only [ClD]) hcl q
def sp_done_right : Sp3 := spD (fun (a__ : Hal × Nat × Nat × D × Hal × Srt × Nat × Nat × Nat) => match a__ with | (H, i, j, d, H', so, a, b, c) => [hallD H.1 i j, d, ToldD H' a b c]) (fun (a__ : Hal × Nat × Nat × D × Hal × Srt × Nat × Nat × Nat) (h : Sto) => match a__ with | (H, i, j, d, H', so, a, b, c) => HAt h i j H ∧ PrsOk H ∧ DOkD h H d ∧ deedP H d = some (H', so) ∧ TAt h a b c H' so ∧ TOk2 H' so) (fun (a__ : Hal × Nat × Nat × D × Hal × Srt × Nat × Nat × Nat) (h : Sto) => match a__ with | (H, i, j, d, H', so, a, b, c) => .bl true) (fun (a__ : Hal × Nat × Nat × D × Hal × Srt × Nat × Nat × Nat) (h : Sto) => match a__ with | (H, i, j, d, H', so, a, b, c) => h)
theorem mono_done_right : MonoS sp_done_right := mono_spD
theorem len_done_right : ∀ ds h Q E, sp_done_right ds h Q E → ds.length = 3 := len_spD fun _ => rfl
theorem done_right_q {H : Hal} {i : Nat} {j : Nat} {d : D} {H' : Hal} {so : Srt} {a : Nat} {b : Nat} {c : Nat} {h : Sto} {Q : DK} (hp : HAt h i j H ∧ PrsOk H ∧ DOkD h H d ∧ deedP H d = some (H', so) ∧ TAt h a b c H' so ∧ TOk2 H' so) (q : Q (.bl true) (h)) : callS sp_done_right [hallD H.1 i j, d, ToldD H' a b c] h Q := ⟨(H, i, j, d, H', so, a, b, c), rfl, hp, q⟩
def r_done_right_1 : C3 :=
  (cSeq (cDrop (tLM appT (tO ixR (tO ixR (tV 5) (tK (.int 0))) (tK (.int 1))) (tC3 (tK .non) tN3)))
    (cSeq (cDrop (tLM appT (tO ixR (tO ixR (tV 5) (tK (.int 0))) (tK (.int 2))) (tC3 (tK .non) tN3)))
    (cSeq (cDrop (tLM appT (tO ixR (tV 5) (tK (.int 1))) (tC3 (tK .non) tN3)))
    (cIf (tT (tO neR (tV 3) (tV 0))) (cRet (tK (.bl false))) cNext))))
def b_done_right_1 : C3 :=
  (cSeq (cAsg (tCall3 sp_deed_done (tC3 (tV 3) (tC3 (tV 1) tN3))) (gN 5))
    (cSeq (cIf (tOr3 (tNot3 (tT (tCall3 sp_told_right (tC3 (tV 5) tN3)))) (tT (tO neR (tV 5) (tV 2)))) (cRet (tK (.bl false))) cNext)
    r_done_right_1))
def t_done_right : C3 :=
  (cSeq (cAsg (tTup3 (tC3 (tO ixR (tV 0) (tK (.int 0))) (tC3 (tNew (tL3 lstM (tC3 (tO ixR (tV 0) (tK (.int 1))) tN3))) (tC3 (tNew (tL3 lstM (tC3 (tO ixR (tV 0) (tK (.int 2))) tN3))) tN3)))) (gN 3))
    (cSeq (cFor (iRng (tC3 (tK (.int 2)) tN3)) (gN 4) b_done_right_1)
    (cRet (tK (.bl true)))))

theorem rd_done_right : ∀ ds h Q E, ClS h.length h → ClDs h.length ds → sp_done_right ds h Q E → t_done_right (ends3 (GQ h.length Q)) (start3 6 ds) h := by
  rintro ds h Q E hcl _ ⟨⟨H, i, j, d, H', so, a, b, c⟩, rfl, hp0, q0⟩
  have hp : HAt h i j H ∧ PrsOk H ∧ DOkD h H d ∧ deedP H d = some (H', so) ∧ TAt h a b c H' so ∧ TOk2 H' so := hp0
  have q : Q (.bl true) (h) := q0
  clear hp0 q0
  obtain ⟨n, prs, wg⟩ := H
  obtain ⟨⟨hi, hj, pl, wl⟩, ok, hd, e, ta, tok⟩ := hp
  dsimp only at hi hj pl wl
  try simp only [↓tV_q, ↓tK_q, ↓tO_q, ↓tN3_q, ↓tC3_q, ↓tTup3_q, ↓tNew_q, ↓cSeq_q, ↓cAsg_q, ↓gN_q, ↓cFor_q, ↓iRng_q, ↓rngD_1q, ↓tL3_q, ↓start3_q, ↓ixR_ti_q, ↓lstM_rq, thenE_nx, onO_some, onC_q, atT_0, atT_1, atT_2, List.getElem?_cons_zero, List.set_cons_zero, List.set_cons_succ, List.map_cons, List.map_nil, List.cons_append, List.nil_append, List.length_cons, List.length_nil, List.replicate_succ, List.replicate_zero, Nat.reduceAdd, Nat.reduceSub, t_done_right, hallD, hi, get_up hj]
  rw [show List.length (h ++ [Cell.lst (List.map p4D prs)]) = h.length + 1 by simp, List.append_assoc]
  refine ⟨by decide, ?_⟩
  refine forL (f := fun (j : Nat) => D.int (j : Int)) (fun l ρ h' => ∃ (g : Sto) (o4 o5 : Option D), ρ = [some (hallD n i j), some d, some (ToldD H' a b c), some (hallD n h.length (h.length + 1)), o4, o5] ∧ h' = h ++ .lst (prs.map p4D) :: .lst (wg.map pcD) :: g) ⟨[], _, _, rfl, rfl⟩ (fun _ _ _ _ => trivial) ?_ ?_
  · rintro ρ h' ⟨g, o4, o5, rfl, rfl⟩
    try simp only [↓tK_q, ↓cRet_q, thenE_nx, ends3_rt]
    exact gq_tail rfl (by simp only [ClD]) hcl q
  · rintro l k r ρ h' F e2 ⟨g, o4, o5, rfl, rfl⟩ hF
    have hd2 := hd.up (g := Cell.lst (prs.map p4D) :: Cell.lst (wg.map pcD) :: g)
    have hh2 : HAt (h ++ .lst (prs.map p4D) :: .lst (wg.map pcD) :: g) h.length (h.length + 1) (n, prs, wg) := ⟨get_app0, get_app, pl, wl⟩
    have hh1 : HAt (h ++ .lst (prs.map p4D) :: .lst (wg.map pcD) :: g) i j (n, prs, wg) := HAt.up ⟨hi, hj, pl, wl⟩
    have ta2 := ta.up (g := Cell.lst (prs.map p4D) :: Cell.lst (wg.map pcD) :: g)
    have hF2 : ∀ (G : Sto) (o4 o5 : Option D), F [some (hallD n i j), some d, some (ToldD H' a b c), some (hallD n h.length (h.length + 1)), o4, o5] ((h ++ .lst (prs.map p4D) :: .lst (wg.map pcD) :: g) ++ G) := fun G o4 o5 => hF _ _ ⟨g ++ G, o4, o5, rfl, by rw [List.append_assoc, List.cons_append, List.cons_append]⟩
    clear hF
    generalize h ++ .lst (prs.map p4D) :: .lst (wg.map pcD) :: g = S at *
    try simp only [↓tV_q, ↓tN3_q, ↓tC3_q, ↓cSeq_q, ↓cAsg_q, ↓gN_q, ↓tCall3_q, onO_some, List.getElem?_cons_zero, List.getElem?_cons_succ, List.set_cons_zero, List.set_cons_succ, b_done_right_1]
    refine deed_done_q (H := (n, prs, wg)) hh2 ok hd.1 hd2.at0 e ?_
    rintro G x y z xy xz yz gx gy gz
    try simp only [↓tV_q, ↓tT_q, ↓tOr3_q, ↓tNot3_q, ↓tN3_q, ↓tC3_q, ↓cSeq_q, ↓cIf_q, ↓gN_q, ↓tCall3_q, thenE_nx, onO_some, List.getElem?_cons_zero, List.getElem?_cons_succ, List.set_cons_zero, List.set_cons_succ]
    have tg : TAt (S ++ G) (S.length + x) (S.length + y) (S.length + z) H' so := ⟨by rw [get_app]; exact gx, by rw [get_app]; exact gy, by rw [get_app]; exact gz⟩
    refine told_right_q (H := H') (so := so) ⟨tg, tok⟩ ?_
    try simp only [↓tV_q, ↓tO_q, ↓tT_q, ↓neR_tq, onO_some, onB_bl, ifC_false, List.getElem?_cons_zero, List.getElem?_cons_succ, Bool.not_true, ToldD]
    refine eqT_p (toP_told tg) (toP_told ta2.up) eqv_told ?_
    try simp only [↓tV_q, ↓tK_q, ↓tO_q, ↓tN3_q, ↓tC3_q, ↓cNext_q, ↓cSeq_q, ↓cDrop_q, ↓tLM_q, ↓lmD_q, ↓appT_q, ↓ixR_ti_q, thenE_nx, onO_some, onB_bl, ifC_false, onC_q, atT_0, atT_1, atT_2, List.getElem?_cons_zero, List.getElem?_cons_succ, Bool.not_true, r_done_right_1, hallD, tg.1]
    rw [show (S ++ G).set (S.length + x) (.lst (H'.2.1.map p4D ++ [.non])) = S ++ G.set x (.lst (H'.2.1.map p4D ++ [.non])) from set_app]
    have g2 : (S ++ G.set x (.lst (H'.2.1.map p4D ++ [.non])))[S.length + y]? = some (.lst (H'.2.2.map pcD)) := by rw [get_app, List.getElem?_set_ne xy]; exact gy
    have b1 := tok.l1
    have b2 := tok.l2
    have b3 := tok.l3
    refine ⟨by rw [List.length_map]; omega, ?_⟩
    try simp only [↓tV_q, ↓tK_q, ↓tO_q, ↓tN3_q, ↓tC3_q, ↓cSeq_q, ↓cDrop_q, ↓tLM_q, ↓lmD_q, ↓appT_q, ↓ixR_ti_q, thenE_nx, onO_some, onC_q, atT_0, atT_1, List.getElem?_cons_zero, List.getElem?_cons_succ, g2]
    rw [show (S ++ G.set x (.lst (H'.2.1.map p4D ++ [.non]))).set (S.length + y) (.lst (H'.2.2.map pcD ++ [.non])) = S ++ (G.set x (.lst (H'.2.1.map p4D ++ [.non]))).set y (.lst (H'.2.2.map pcD ++ [.non])) from set_app]
    have g3 : (S ++ (G.set x (.lst (H'.2.1.map p4D ++ [.non]))).set y (.lst (H'.2.2.map pcD ++ [.non])))[S.length + z]? = some (.lst (so.map stD)) := by rw [get_app, List.getElem?_set_ne yz, List.getElem?_set_ne xz]; exact gz
    refine ⟨by rw [List.length_map]; omega, ?_⟩
    try simp only [↓tV_q, ↓tK_q, ↓tO_q, ↓tT_q, ↓tN3_q, ↓tC3_q, ↓cIf_q, ↓appT_q, ↓neR_tq, thenE_nx, onO_some, onC_q, List.getElem?_cons_zero, List.getElem?_cons_succ, g3]
    rw [show (S ++ (G.set x (.lst (H'.2.1.map p4D ++ [.non]))).set y (.lst (H'.2.2.map pcD ++ [.non]))).set (S.length + z) (.lst (so.map stD ++ [.non])) = S ++ ((G.set x (.lst (H'.2.1.map p4D ++ [.non]))).set y (.lst (H'.2.2.map pcD ++ [.non]))).set z (.lst (so.map stD ++ [.non])) from set_app]
    refine ⟨by rw [List.length_map]; omega, ?_⟩
    refine eqT_p (toP_hall (get_up hh2.1) (get_up hh2.2.1)) (toP_hall (get_up hh1.1) (get_up hh1.2.1)) eqv_hall ?_
    try simp only [↓cNext_q, loopE_nx, onB_bl, ifC_false, Bool.not_true]
    exact hF2 _ _ _
def sp_right : Sp3 := spD (fun (a__ : Hal × Nat × Nat × D × D) => match a__ with | (H, i, j, d, due) => [hallD H.1 i j, d, due]) (fun (a__ : Hal × Nat × Nat × D × D) (h : Sto) => match a__ with | (H, i, j, d, due) => HAt h i j H ∧ PrsOk H ∧ DOkD h H d ∧ ((deedP H d = none ∧ due = .non) ∨ ∃ (H' : Hal) (so : Srt) (a b c : Nat), deedP H d = some (H', so) ∧ due = ToldD H' a b c ∧ TAt h a b c H' so ∧ TOk2 H' so)) (fun (a__ : Hal × Nat × Nat × D × D) (h : Sto) => match a__ with | (H, i, j, d, due) => .bl true) (fun (a__ : Hal × Nat × Nat × D × D) (h : Sto) => match a__ with | (H, i, j, d, due) => h)
theorem mono_right : MonoS sp_right := mono_spD
theorem len_right : ∀ ds h Q E, sp_right ds h Q E → ds.length = 3 := len_spD fun _ => rfl
theorem right_q {H : Hal} {i : Nat} {j : Nat} {d : D} {due : D} {h : Sto} {Q : DK} (hp : HAt h i j H ∧ PrsOk H ∧ DOkD h H d ∧ ((deedP H d = none ∧ due = .non) ∨ ∃ (H' : Hal) (so : Srt) (a b c : Nat), deedP H d = some (H', so) ∧ due = ToldD H' a b c ∧ TAt h a b c H' so ∧ TOk2 H' so)) (q : Q (.bl true) (h)) : callS sp_right [hallD H.1 i j, d, due] h Q := ⟨(H, i, j, d, due), rfl, hp, q⟩
def r_right_1 : C3 :=
  (cRet (tCall3 sp_done_right (tC3 (tV 0) (tC3 (tV 1) (tC3 (tV 2) tN3)))))
def t_right : C3 :=
  (cSeq (cIf (tT (tO isR (tV 2) (tK .non))) (cRet (tCall3 sp_refused (tC3 (tV 0) (tC3 (tV 1) tN3)))) cNext)
    r_right_1)

theorem rd_right : ∀ ds h Q E, ClS h.length h → ClDs h.length ds → sp_right ds h Q E → t_right (ends3 (GQ h.length Q)) (start3 3 ds) h := by
  rintro ds h Q E hcl _ ⟨⟨H, i, j, d, due⟩, rfl, hp0, q0⟩
  have hp : HAt h i j H ∧ PrsOk H ∧ DOkD h H d ∧ ((deedP H d = none ∧ due = .non) ∨ ∃ (H' : Hal) (so : Srt) (a b c : Nat), deedP H d = some (H', so) ∧ due = ToldD H' a b c ∧ TAt h a b c H' so ∧ TOk2 H' so) := hp0
  have q : Q (.bl true) (h) := q0
  clear hp0 q0
  obtain ⟨hh, ok, hd, ⟨e, rfl⟩ | ⟨H', so, a, b, c, e, rfl, ta, tok⟩⟩ := hp
  · try simp only [↓tV_q, ↓tK_q, ↓tO_q, ↓tT_q, ↓tN3_q, ↓tC3_q, ↓cSeq_q, ↓cRet_q, ↓cIf_q, ↓tCall3_q, ↓start3_q, ↓isR_n_q, onO_some, onB_bl, ifC_true, isN_non_q, List.getElem?_cons_zero, List.getElem?_cons_succ, List.map_cons, List.map_nil, List.cons_append, List.nil_append, List.length_cons, List.length_nil, List.replicate_zero, Nat.reduceAdd, Nat.reduceSub, t_right]
    exact refused_q ⟨hh, ok, hd, e⟩ (.inl q)
  · try simp only [↓tV_q, ↓tK_q, ↓tO_q, ↓tT_q, ↓cNext_q, ↓cSeq_q, ↓cIf_q, ↓start3_q, ↓isR_n_q, thenE_nx, onO_some, onB_bl, ifC_false, isN_tup_q, List.getElem?_cons_zero, List.getElem?_cons_succ, List.map_cons, List.map_nil, List.cons_append, List.nil_append, List.length_cons, List.length_nil, List.replicate_zero, Nat.reduceAdd, Nat.reduceSub, t_right, ToldD]
    try simp only [↓tV_q, ↓tN3_q, ↓tC3_q, ↓cRet_q, ↓tCall3_q, onO_some, List.getElem?_cons_zero, List.getElem?_cons_succ, r_right_1]
    exact done_right_q (H' := H') (so := so) ⟨hh, ok, hd, e, ta, tok⟩ (.inl q)
/-! ### what is due -/
def DueQ (h : Sto) (Q : DK) (o : Option (Hal × Srt)) : Prop := (o = none → Q .non h) ∧ ∀ (H' : Hal) (so : Srt), o = some (H', so) → TOk2 H' so → ∀ (g : Sto) (a b c : Nat), g[a]? = some (.lst (H'.2.1.map p4D)) → g[b]? = some (.lst (H'.2.2.map pcD)) → g[c]? = some (.lst (so.map stD)) → Q (ToldD H' (h.length + a) (h.length + b) (h.length + c)) (h ++ g)
theorem DueQ.mono {h : Sto} {Q Q' : DK} {o : Option (Hal × Srt)} (d : DueQ h Q o) (w : ∀ d h', Q d h' → Q' d h') : DueQ h Q' o := ⟨fun e => w _ _ (d.1 e), fun H' so e t g a b c x y z => w _ _ (d.2 H' so e t g a b c x y z)⟩
theorem right_due {H : Hal} {i j : Nat} {x : D} {h : Sto} {Q : D → DK} (hh : HAt h i j H) (ok : PrsOk H) (dk : DOkD h H x) (q : ∀ d g, Q d (.bl true) (h ++ g)) : DueQ h (fun d h' => callS sp_right [hallD H.1 i j, x, d] h' (Q d)) (deedP H x) := by
  refine ⟨fun e => ?_, fun H' so e t g a b c x y z => ?_⟩
  · have := q .non []
    rw [List.append_nil] at this
    exact right_q ⟨hh, ok, dk, .inl ⟨e, rfl⟩⟩ this
  · exact right_q ⟨hh.up, ok, dk.up, .inr ⟨H', so, _, _, _, e, rfl, ⟨by rw [get_app]; exact x, by rw [get_app]; exact y, by rw [get_app]; exact z⟩, t⟩⟩ (q _ g)
def HOk2 (H : Hal) : Prop := H.2.1.length ≤ 100 ∧ H.2.2.length ≤ 100 ∧ ∀ p ∈ H.2.2, p.2.length ≤ 24
theorem toP_w1 {h : Sto} {w : Str} {i : Int} (hs : PyData.strOk w = true) : toP h 9 (.tup [.str w, .int i]) = some (.tuple [.str w, .int i]) := by
  refine toP_tup (k := 8) ?_
  have e1 : toP h 8 (.str w) = some (.str w) := by show (if PyData.strOk w = true then _ else _) = _; rw [if_pos hs]
  rw [List.mapM_cons, List.mapM_cons, List.mapM_nil, e1]; rfl
theorem hall_ok {n : Nat} {prs : List P4} {w : List Pc} (ho : HallOk n prs w) : HOk2 (n, prs, w) ∧ PrsOk (n, prs, w) := by
  obtain ⟨nb, pl, pin, wd, w1, w2, bt⟩ := ho
  exact ⟨⟨by show prs.length ≤ 100; omega, by have := bt.len; show w.length ≤ 100; omega, fun p hp => by rw [bt.wt p hp]; exact w2⟩, Int.lt_trans (show (n : Int) < 10 ^ 60 by omega) (by decide), pin⟩
theorem bhall_q0 {k : Int} {ns : List Int} {Q : DK} (k0 : 0 ≤ k) (q : ∀ (n : Nat) (prs : List P4) (w : List Pc) (i j : Nat) (g : Sto), HallOk n prs w → HAt g i j (n, prs, w) → Q (hallD n i j) g) : callS sp_bhall [.fl (ns.map .int), .int k] [] Q :=
  bhall_q k0 fun n prs w i j g ho gi gj => by
    rw [List.nil_append, List.length_nil, Nat.zero_add, Nat.zero_add]
    refine q n prs w i j g ho ⟨gi, gj, ?_, ?_⟩
    · have := ho.2.1; show prs.length ≤ 1000; omega
    · have := (hall_ok ho).1.2.1; show w.length ≤ 1000; exact Nat.le_trans this (by decide)
/-- one pairing more -/
def putPr (prs : List P4) (s : Nat) (q : P4) : List P4 := prs.take s ++ [q] ++ prs.drop s
theorem put_ok {n : Nat} {prs : List P4} {w : List Pc} {s : Nat} {q : P4} (ho : HallOk n prs w) (hq : PrIn (n : Int) q) (hs : s ≤ prs.length) : HOk2 (n, putPr prs s q, w) ∧ PrsOk (n, putPr prs s q, w) ∧ s < (putPr prs s q).length ∧ (putPr prs s q).length = prs.length + 1 := by
  obtain ⟨⟨h1, h2, h3⟩, o1, o2⟩ := hall_ok ho
  have pl := ho.2.1
  have el : (putPr prs s q).length = prs.length + 1 := by simp [putPr]; omega
  refine ⟨⟨by show (putPr prs s q).length ≤ 100; omega, h2, h3⟩, ⟨o1, fun x hx => ?_⟩, by omega, el⟩
  simp only [putPr, List.mem_append, List.mem_singleton] at hx
  rcases hx with (hx | rfl) | hx
  · exact o2 _ (List.mem_of_mem_take hx)
  · exact hq
  · exact o2 _ (List.mem_of_mem_drop hx)
end F3
set_option maxHeartbeats 400000
/-! K30: free. -/
namespace F3
open PySem PySem.Spec PyProof.Rows L2
def sp_lbehind : Sp3 := spD (fun (x : P4) => [p4D x]) (fun (x : P4) (h : Sto) => True) (fun (x : P4) (h : Sto) => .int (reachP x)) (fun (x : P4) (h : Sto) => h)
theorem mono_lbehind : MonoS sp_lbehind := mono_spD
theorem len_lbehind : ∀ ds h Q E, sp_lbehind ds h Q E → ds.length = 1 := len_spD fun _ => rfl
theorem lbehind_q {x : P4} {h : Sto} {Q : DK} (q : Q (.int (reachP x)) (h)) : callS sp_lbehind [p4D x] h Q := ⟨x, rfl, trivial, q⟩
def t_lbehind : C3 :=
  (cRet (tO addR (tO ixR (tV 0) (tK (.int 1))) (tO ixR (tV 0) (tK (.int 2)))))

theorem rd_lbehind : ∀ ds h Q E, ClS h.length h → ClDs h.length ds → sp_lbehind ds h Q E → t_lbehind (ends3 (GQ h.length Q)) (start3 1 ds) h := by
  rintro ds h Q E hcl _ ⟨x, rfl, hp0, q0⟩
  have q : Q (.int (reachP x)) (h) := q0
  clear hp0 q0
  try simp only [↓tV_q, ↓tK_q, ↓tO_q, ↓cRet_q, ↓start3_q, ↓addR_ii_q, ↓ixR_ti_q, ends3_rt, onO_some, atT_0, atT_1, atT_2, List.getElem?_cons_zero, List.map_cons, List.map_nil, List.cons_append, List.nil_append, List.length_cons, List.length_nil, List.replicate_zero, Nat.reduceAdd, Nat.reduceSub, t_lbehind, p4D, pr]
  exact .inl q
def sp_lpart : Sp3 := spD (fun (a__ : Nat × List Pc × Int × Int) => match a__ with | (i, w, b, e) => [.ref i, .int b, .int e]) (fun (a__ : Nat × List Pc × Int × Int) (h : Sto) => match a__ with | (i, w, b, e) => h[i]? = some (.lst (w.map pcD)) ∧ w.length ≤ 1000) (fun (a__ : Nat × List Pc × Int × Int) (h : Sto) => match a__ with | (i, w, b, e) => .ref h.length) (fun (a__ : Nat × List Pc × Int × Int) (h : Sto) => match a__ with | (i, w, b, e) => h ++ [.lst ((partP 0 w b e).map pcD)])
theorem mono_lpart : MonoS sp_lpart := mono_spD
theorem len_lpart : ∀ ds h Q E, sp_lpart ds h Q E → ds.length = 3 := len_spD fun _ => rfl
theorem lpart_q {i : Nat} {w : List Pc} {b : Int} {e : Int} {h : Sto} {Q : DK} (hp : h[i]? = some (.lst (w.map pcD)) ∧ w.length ≤ 1000) (q : Q (.ref h.length) (h ++ [.lst ((partP 0 w b e).map pcD)])) : callS sp_lpart [.ref i, .int b, .int e] h Q := ⟨(i, w, b, e), rfl, hp, q⟩
def r_lpart_1 : C3 :=
  (cAsg (tO addR (tV 4) (tV 5)) (gN 4))
def b_lpart_1 : C3 :=
  (cSeq (cAsg (tO subR (tB3 minR (tC3 (tO addR (tV 4) (tV 5)) (tC3 (tV 2) tN3))) (tB3 maxR (tC3 (tV 4) (tC3 (tV 1) tN3)))) (gN 7))
    (cSeq (cIf (tT (tO gtR (tV 7) (tK (.int 0)))) (cDrop (tLM appT (tV 3) (tC3 (tTup3 (tC3 (tV 7) (tC3 (tV 6) tN3))) tN3))) cNext)
    r_lpart_1))
def t_lpart : C3 :=
  (cSeq (cAsg (tNew tN3) (gN 3))
    (cSeq (cAsg (tK (.int 0)) (gN 4))
    (cSeq (cFor (iSeq (tV 0)) (gTup3 2 (gCons3 (gN 5) (gCons3 (gN 6) gNil3))) b_lpart_1)
    (cRet (tV 3)))))

theorem mn_mnI (a e : Int) : (if e < a then e else a) = mnI e a := by unfold mnI; split <;> split <;> omega
theorem mx_mxI (a b : Int) : (if b > a then b else a) = mxI b a := by unfold mxI; split <;> split <;> omega
theorem rd_lpart : ∀ ds h Q E, ClS h.length h → ClDs h.length ds → sp_lpart ds h Q E → t_lpart (ends3 (GQ h.length Q)) (start3 8 ds) h := by
  rintro ds h Q E hcl _ ⟨⟨i, w, b, e⟩, rfl, hp0, q0⟩
  have hp : h[i]? = some (.lst (w.map pcD)) ∧ w.length ≤ 1000 := hp0
  have q : Q (.ref h.length) (h ++ [.lst ((partP 0 w b e).map pcD)]) := q0
  clear hp0 q0
  obtain ⟨hn', hl'⟩ := hp
  try simp only [↓tV_q, ↓tK_q, ↓tN3_q, ↓tNew_q, ↓cSeq_q, ↓cAsg_q, ↓gN_q, ↓cFor_q, ↓iSeq_q, ↓iSeqD_rq, ↓start3_q, thenE_nx, onO_some, onC_q, List.getElem?_cons_zero, List.set_cons_zero, List.set_cons_succ, List.map_cons, List.map_nil, List.cons_append, List.nil_append, List.length_cons, List.length_nil, List.replicate_succ, List.replicate_zero, Nat.reduceAdd, Nat.reduceSub, t_lpart, get_up hn']
  refine forL (fun l ρ h' => ∃ o5 o6 o7, ρ = [some (.ref i), some (.int b), some (.int e), some (.ref h.length), some (.int (lenP l)), o5, o6, o7] ∧ h' = h ++ [.lst ((partP 0 l b e).map pcD)]) ⟨_, _, _, rfl, rfl⟩ ?_ ?_ ?_
  · rintro l ρ h' ⟨o5, o6, o7, rfl, rfl⟩
    exact get_up hn'
  · rintro ρ h' ⟨o5, o6, o7, rfl, rfl⟩
    try simp only [↓tV_q, ↓cRet_q, thenE_nx, ends3_rt, onO_some, List.getElem?_cons_zero, List.getElem?_cons_succ]
    exact .inl q
  · rintro l p r ρ h' F ee ⟨o5, o6, o7, rfl, rfl⟩ hF
    have hll := congrArg List.length ee
    simp at hll
    have hz := part_size 0 l b e
    have ps := part_snoc (a := 0) (w := l) (p := p) (b := b) (e := e)
    rw [Int.zero_add] at ps
    have fin : ∀ o5 o6 o7, F [some (.ref i), some (.int b), some (.int e), some (.ref h.length), some (.int (lenP l + p.1)), o5, o6, o7] (h ++ [.lst ((partP 0 (l ++ [p]) b e).map pcD)]) := fun o5 o6 o7 => hF _ _ ⟨o5, o6, o7, by rw [lenP_snoc], rfl⟩
    rw [ps] at fin
    try simp only [↓tV_q, ↓tK_q, ↓tO_q, ↓tT_q, ↓tN3_q, ↓tC3_q, ↓cSeq_q, ↓cIf_q, ↓cAsg_q, ↓gN_q, ↓tB3_q, ↓addR_ii_q, ↓subR_ii_q, ↓gtR_ii_q, ↓minR_ii_q, ↓maxR_ii_q, ↓gTup_pc, thenE_nx, onO_some, onB_bl, List.getElem?_cons_zero, List.getElem?_cons_succ, List.set_cons_zero, List.set_cons_succ, gTup_pc, b_lpart_1]
    rw [mn_mnI, mx_mxI]
    refine ifC_of (fun hc => ?_) (fun hc => ?_)
    · rw [if_pos (by omega)] at fin
      try simp only [↓tV_q, ↓tN3_q, ↓tC3_q, ↓tTup3_q, ↓cDrop_q, ↓tLM_q, ↓lmD_q, ↓appT_q, thenE_nx, onO_some, onC_q, List.getElem?_cons_zero, List.getElem?_cons_succ, get_new]
      refine ⟨by simp; omega, ?_⟩
      try simp only [↓tV_q, ↓tO_q, ↓cAsg_q, ↓gN_q, ↓addR_ii_q, loopE_nx, onO_some, List.getElem?_cons_zero, List.getElem?_cons_succ, List.set_cons_zero, List.set_cons_succ, set_app0, r_lpart_1]
      rw [List.map_append] at fin
      exact fin _ _ _
    · rw [if_neg (by omega), List.append_nil] at fin
      try simp only [↓tV_q, ↓tO_q, ↓cNext_q, ↓cAsg_q, ↓gN_q, ↓addR_ii_q, thenE_nx, loopE_nx, onO_some, List.getElem?_cons_zero, List.getElem?_cons_succ, List.set_cons_zero, List.set_cons_succ, r_lpart_1]
      exact fin _ _ _
/-! ### sorts -/
def sitD (x : D) (h : Sto) (Q : List D → Sto → Prop) (_ : Tag Q := ⟨⟩) : Prop := match x with
  | .ref n => match h[n]? with
    | some (.dT kvs) => ∃ ks : List (List Int × Int), kvs = ks.map (fun p => (p.1.map Sum.inl, D.int p.2)) ∧ ks.length ≤ 16777216 ∧ Q ((ks.mergeSort (PySem.W.dataLe false stP)).map stD) h
    | _ => False
  | _ => False
theorem tSIt_q {te : E3} {ρ : S3} {h : Sto} {Q : List D → Sto → Prop} : tSIt te ρ h Q = te ρ h fun x h1 => sitD x h1 Q := id rfl
theorem sitD_T {n : Nat} {ks : Ks} {h : Sto} {Q : List D → Sto → Prop} (e : h[n]? = some (.dT (ks.map kvI))) (hl : ks.length ≤ 16777216) (q : Q ((ks.mergeSort (PySem.W.dataLe false stP)).map stD) h) : sitD (.ref n) h Q := by
  unfold sitD
  simp only [e]
  exact ⟨ks, rfl, hl, q⟩
def sp_lsorts : Sp3 := spD (fun (a__ : Nat × List Pc) => match a__ with | (n, w) => [.ref n]) (fun (a__ : Nat × List Pc) (h : Sto) => match a__ with | (n, w) => h[n]? = some (.lst (w.map pcD)) ∧ w.length ≤ 1000) (fun (a__ : Nat × List Pc) (h : Sto) => match a__ with | (n, w) => .ref h.length) (fun (a__ : Nat × List Pc) (h : Sto) => match a__ with | (n, w) => h ++ [.lst ((sortsP w).map stD)])
theorem mono_lsorts : MonoS sp_lsorts := mono_spD
theorem len_lsorts : ∀ ds h Q E, sp_lsorts ds h Q E → ds.length = 1 := len_spD fun _ => rfl
theorem lsorts_q {n : Nat} {w : List Pc} {h : Sto} {Q : DK} (hp : h[n]? = some (.lst (w.map pcD)) ∧ w.length ≤ 1000) (q : Q (.ref h.length) (h ++ [.lst ((sortsP w).map stD)])) : callS sp_lsorts [.ref n] h Q := ⟨(n, w), rfl, hp, q⟩
def b_lsorts_1 : C3 :=
  (cDPutT (tV 1) (tV 3) (tO addR (tDG2 (tV 1) (tV 3) (tK (.int 0))) (tV 2)))
def t_lsorts : C3 :=
  (cSeq (cAsg tDNewT3 (gN 1))
    (cSeq (cFor (iSeq (tV 0)) (gTup3 2 (gCons3 (gN 2) (gCons3 (gN 3) gNil3))) b_lsorts_1)
    (cRet (tNew (tSIt (tV 1))))))

theorem rd_lsorts : ∀ ds h Q E, ClS h.length h → ClDs h.length ds → sp_lsorts ds h Q E → t_lsorts (ends3 (GQ h.length Q)) (start3 4 ds) h := by
  rintro ds h Q E hcl _ ⟨⟨n, w⟩, rfl, hp0, q0⟩
  have hp : h[n]? = some (.lst (w.map pcD)) ∧ w.length ≤ 1000 := hp0
  have q : Q (.ref h.length) (h ++ [.lst ((sortsP w).map stD)]) := q0
  clear hp0 q0
  obtain ⟨hn', hl'⟩ := hp
  try simp only [↓tV_q, ↓cSeq_q, ↓cAsg_q, ↓gN_q, ↓cFor_q, ↓iSeq_q, ↓iSeqD_rq, ↓start3_q, ↓tDNewT3_q, thenE_nx, onO_some, onC_q, List.getElem?_cons_zero, List.set_cons_zero, List.set_cons_succ, List.map_cons, List.map_nil, List.cons_append, List.nil_append, List.length_cons, List.length_nil, List.replicate_succ, List.replicate_zero, Nat.reduceAdd, Nat.reduceSub, t_lsorts, get_up hn']
  refine forL (fun l ρ h' => ∃ ks o2 o3, KS l ks ∧ ks.length ≤ l.length ∧ ρ = [some (.ref n), some (.ref h.length), o2, o3] ∧ h' = h ++ [.dT (ks.map kvI)]) ⟨[], _, _, .nil, Nat.le_refl _, rfl, rfl⟩ ?_ ?_ ?_
  · rintro l ρ h' ⟨ks, o2, o3, _, _, _, rfl⟩
    exact get_up hn'
  · rintro ρ h' ⟨ks, o2, o3, hk, kl, rfl, rfl⟩
    try simp only [↓tV_q, ↓tNew_q, ↓cRet_q, thenE_nx, onO_some, List.getElem?_cons_zero, List.getElem?_cons_succ, ↓tSIt_q]
    refine sitD_T get_new (by omega) ?_
    rw [hk.sorted]
    have g1 := gq_one (k := 1) (n := h.length) (g := [.dT (ks.map kvI), .lst ((sortsP w).map stD)]) rfl rfl cl_st hcl q
    try simp only [ends3_rt]
    rw [List.length_append, List.append_assoc]
    exact g1
  · rintro l p r ρ h' F e ⟨ks, o2, o3, hk, kl, rfl, rfl⟩ hF
    try simp only [↓tV_q, ↓tK_q, ↓tO_q, ↓gTup_pc, ↓tDG2_q, ↓dg2_q, ↓cDPutT_q, onO_some, List.getElem?_cons_zero, List.getElem?_cons_succ, List.set_cons_zero, List.set_cons_succ, b_lsorts_1, get_new]
    refine ⟨rfl, ?_⟩
    have dv : dvC (some (.dT (ks.map kvI))) (wtD p.2) = some ((valI ks p.2).map D.int) := by
      rw [show wtD p.2 = .tup (p.2.map .int) from rfl, dvC_T, valD_kvI]
    have kt : keyT (wtD p.2) = some (p.2.map Sum.inl) := keyT_ints
    try simp only [↓tV_q, ↓addR_ii_q, ↓onG_q, ↓onDT_q, ↓onKT_q, ↓dpT_q, loopE_nx, onO_some, List.getElem?_cons_zero, List.getElem?_cons_succ, dv, getD_int, get_new, kt]
    have e1 := congrArg List.length e
    rw [List.length_append, List.length_cons] at e1
    refine ⟨by simp; omega, hF _ _ ⟨_, _, _, hk.put p, ?_, rfl, by rw [set_end, putD_kvI]⟩⟩
    have := putI_len ks p.2 ((valI ks p.2).getD 0 + p.1)
    rw [List.length_append, List.length_singleton]; omega
/-! ### due -/
def sp_lfree : Sp3 := fun ds h Q _ => ∃ (H : Hal) (i j : Nat) (e : Int), ds = [hallD H.1 i j, .int e] ∧ HAt h i j H ∧ HOk2 H ∧ DueQ h Q (deedP H (.tup [.str "free", .int e]))
theorem mono_lfree : MonoS sp_lfree := fun ds h Q Q' E E' w1 _ ⟨H, i, j, e, ee, hh, h2, d⟩ => ⟨H, i, j, e, ee, hh, h2, d.mono w1⟩
theorem len_lfree : ∀ ds h Q E, sp_lfree ds h Q E → ds.length = 2 := by rintro _ h Q E ⟨H, i, j, e, rfl, _⟩; rfl
theorem lfree_q {H : Hal} {i j : Nat} {e : Int} {h : Sto} {Q : DK} (hh : HAt h i j H) (h2 : HOk2 H) (d : DueQ h Q (deedP H (.tup [.str "free", .int e]))) : callS sp_lfree [hallD H.1 i j, .int e] h Q := ⟨H, i, j, e, rfl, hh, h2, d⟩
theorem deed_free {H : Hal} {e : Int} : deedP H (.tup [.str "free", .int e]) = if (0 ≤ e ∧ e < (H.1 : Int)) ∧ allBy H.2.1 e = true then some ((e.toNat, H.2.1, partP 0 H.2.2 0 e), sortsP (partP 0 H.2.2 e (H.1 : Int))) else none := by
  rw [deedP_w, word_free]
  simp only [freeA]
  by_cases h0 : 0 ≤ e ∧ e < (H.1 : Int)
  · have e1 : (e.toNat : Int) = e := Int.toNat_of_nonneg h0.1
    rw [num_eq, if_pos h0]
    simp only [e1]
    by_cases h1 : allBy H.2.1 e = true
    · rw [if_pos h1, if_pos ⟨h0, h1⟩]
      simp only [Option.map_some, e1, if_true]
    · rw [if_neg h1, if_neg fun z => h1 z.2]; rfl
  · rw [num_eq, if_neg h0, if_neg fun z => h0 z.1]; rfl
theorem part_wts {B : Nat} {w : List Pc} {b e : Int} (h : ∀ p ∈ w, p.2.length ≤ B) : ∀ a : Int, ∀ p ∈ partP a w b e, p.2.length ≤ B := by
  induction w with
  | nil => intro a p hp; cases hp
  | cons x r ih =>
    intro a p hp
    rw [partP, List.mem_append] at hp
    rcases hp with hp | hp
    · split at hp
      · rw [List.mem_singleton.mp hp]; exact h x List.mem_cons_self
      · cases hp
    · exact ih (fun y hy => h y (List.mem_cons_of_mem _ hy)) _ p hp
theorem sorts_wts {B : Nat} {w : List Pc} (h : ∀ p ∈ w, p.2.length ≤ B) : ∀ p ∈ sortsP w, p.1.length ≤ B := by
  intro p hp
  obtain ⟨k, hk, rfl⟩ := List.mem_map.mp hp
  obtain ⟨q, hq, rfl⟩ := List.mem_map.mp ((kys_mem k w).mp hk)
  exact h q hq
theorem sorts_len (w : List Pc) : (sortsP w).length ≤ w.length := by unfold sortsP; rw [List.length_map]; exact kys_len w
def e_lfree_1 : E3 :=
  (tO leR (tCall3 sp_lbehind (tC3 (tV 5) tN3)) (tV 1))
def r_lfree_1 : C3 :=
  (cRet (tTup3 (tC3 (tTup3 (tC3 (tV 1) (tC3 (tNew (tL3 lstM (tC3 (tV 3) tN3))) (tC3 (tCall3 sp_lpart (tC3 (tV 4) (tC3 (tK (.int 0)) (tC3 (tV 1) tN3)))) tN3)))) (tC3 (tCall3 sp_lsorts (tC3 (tCall3 sp_lpart (tC3 (tV 4) (tC3 (tV 1) (tC3 (tV 2) tN3)))) tN3)) tN3))))
def t_lfree : C3 :=
  (cSeq (cAsg (tV 0) (gTup3 3 (gCons3 (gN 2) (gCons3 (gN 3) (gCons3 (gN 4) gNil3)))))
    (cSeq (cIf (tOr3 (tNot3 (tT (tCh leR ltR (tK (.int 0)) (tV 1) (tV 2)))) (tNot3 (tT (tB3 allX (tLc3 (iSeq (tV 3)) (gN 5) bYes e_lfree_1 [5]))))) (cRet (tK .non)) cNext)
    r_lfree_1))

theorem rd_lfree : ∀ ds h Q E, ClS h.length h → ClDs h.length ds → sp_lfree ds h Q E → t_lfree (ends3 (GQ h.length Q)) (start3 6 ds) h := by
  rintro ds h Q E hcl _ ⟨⟨n, prs, w⟩, i, j, e, rfl, ⟨hi, hj, pl, wl⟩, ⟨l1, l2, l3⟩, q1, q2⟩
  rw [deed_free] at q1 q2
  dsimp only at hi hj pl wl l1 l2 l3 q1 q2
  have no : ¬ ((0 ≤ e ∧ e < (n : Int)) ∧ allBy prs e = true) → GQ h.length Q .non h := fun z => .inl (q1 (if_neg z))
  try simp only [↓tV_q, ↓tK_q, ↓tT_q, ↓tOr3_q, ↓tNot3_q, ↓tCh_q, ↓cSeq_q, ↓cIf_q, ↓cAsg_q, ↓gN_q, ↓gNil3_q, ↓gCons3_q, ↓gTup3_q, ↓start3_q, ↓leR_ii_q, thenE_nx, onO_some, ifT_q, List.getElem?_cons_zero, List.getElem?_cons_succ, List.set_cons_zero, List.set_cons_succ, List.map_cons, List.map_nil, List.cons_append, List.nil_append, List.length_cons, List.length_nil, List.replicate_succ, List.replicate_zero, Nat.reduceAdd, Nat.reduceSub, true_and, t_lfree, hallD]
  refine ifC_of (fun h0 => ?_) (fun h0 => ?_)
  rotate_left
  · try simp only [↓tK_q, ↓cRet_q, thenE_rt, ends3_rt, onB_bl, ifC_true, Bool.not_false]
    exact no fun z => h0 z.1.1
  try simp only [↓tV_q, ↓ltR_ii_q, onO_some, onB_bl, List.getElem?_cons_zero, List.getElem?_cons_succ]
  refine ifC_ofn (fun h1 => ?_) (fun h1 => ?_)
  · try simp only [↓tK_q, ↓cRet_q, thenE_rt, ends3_rt, ifC_true]
    exact no fun z => h1 z.1.2
  try simp only [↓tV_q, ↓tT_q, ↓tNot3_q, ↓iSeq_q, ↓iSeqD_rq, ↓tLc3_q, ↓tB3_q, onO_some, onC_q, wipe3_nil, wipe3_cons, List.getElem?_cons_zero, List.getElem?_cons_succ, List.set_cons_zero, List.set_cons_succ, hi]
  refine ⟨by rw [List.length_map]; omega, lcMap (f := p4D) (r := fun x => D.bl (decide (reachP x ≤ e))) hi ?_ fun x _ Q q => ?_⟩
  rotate_left
  · try simp only [↓tV_q, ↓tO_q, ↓tN3_q, ↓tC3_q, ↓gN_q, ↓tCall3_q, onO_some, List.getElem?_cons_zero, List.getElem?_cons_succ, List.set_cons_zero, List.set_cons_succ, e_lfree_1]
    refine lbehind_q (x := x) ?_
    try simp only [↓tV_q, ↓leR_ii_q, onO_some, List.getElem?_cons_zero, List.getElem?_cons_succ]
    exact q
  try simp only [↓allX_q]
  rw [bls_of fun x => decide (reachP x ≤ e)]
  try simp only [onB_bl, onBs_q]
  rw [show (prs.map fun x => decide (reachP x ≤ e)).all id = allBy prs e by simp [allBy, List.all_map]]
  cases ha : allBy prs e with
  | false =>
    try simp only [↓tK_q, ↓cRet_q, thenE_rt, ends3_rt, ifC_true, Bool.not_false]
    exact no fun z => by rw [ha] at z; cases z.2
  | true =>
    rw [if_pos ⟨⟨h0, h1⟩, ha⟩] at q2
    try simp only [↓tV_q, ↓tK_q, ↓tN3_q, ↓tC3_q, ↓tTup3_q, ↓tNew_q, ↓cNext_q, ↓cRet_q, ↓tCall3_q, ↓tL3_q, ↓lstM_rq, thenE_nx, onO_some, ifC_false, onC_q, List.getElem?_cons_zero, List.getElem?_cons_succ, Bool.not_true, r_lfree_1, hi]
    refine lpart_q (w := w) ⟨get_up hj, by omega⟩ ?_
    try simp only [↓tV_q, ↓tN3_q, ↓tC3_q, ↓tCall3_q, onO_some, List.getElem?_cons_zero, List.getElem?_cons_succ]
    refine lpart_q (w := w) ⟨get_up (get_up hj), by omega⟩ ?_
    try simp only [↓tN3_q]
    refine lsorts_q (w := partP 0 w e (n : Int)) ⟨get_new, Nat.le_trans (part_size _ _ _ _) wl⟩ ?_
    try simp only [↓tN3_q, ends3_rt]
    have g1 := q2 (e.toNat, prs, partP 0 w 0 e) (sortsP (partP 0 w e (n : Int))) rfl ⟨pl, Nat.le_trans (part_size _ _ _ _) wl, Nat.le_trans (sorts_len _) (Nat.le_trans (part_size _ _ _ _) wl), part_wts l3 0, sorts_wts (part_wts l3 0)⟩ [.lst (prs.map p4D), .lst ((partP 0 w 0 e).map pcD), .lst ((partP 0 w e (n : Int)).map pcD), .lst ((sortsP (partP 0 w e (n : Int))).map stD)] 0 1 3 rfl rfl rfl
    refine .inl ?_
    simp only [ToldD, hallD] at g1
    rw [Int.toNat_of_nonneg h0] at g1
    simpa using g1
/-! ### the law -/
theorem hall_wts {n : Nat} {prs : List P4} {w : List Pc} (ho : HallOk n prs w) : WtsOk (n, prs, w) := by
  obtain ⟨_, _, _, wd, w1, w2, bt⟩ := ho
  intro p hp e
  have := bt.wt p hp
  rw [e] at this
  simp at this
  omega
theorem dok_free {h : Sto} {H : Hal} {e : Int} (hw : WtsOk H) : DOkD h H (.tup [.str "free", .int e]) := ⟨hw, fun g => ⟨kn_tup, fun xs ex => by
  cases ex
  refine ⟨fun x hx => ?_, _, toP_w1 so_free⟩
  simp only [List.mem_cons, List.not_mem_nil, or_false] at hx
  rcases hx with rfl | rfl
  · exact kn_str
  · exact kn_int, fun as ea => by injection ea with ea; injection ea with e1 e2; injection e1 with e3; exact absurd e3 (by decide)⟩⟩
def e_law_1 : E3 :=
  (tV 11)
def e_law_2 : E3 :=
  (tCall3 sp_lbehind (tC3 (tV 11) tN3))
def b_law_2 : C3 :=
  (cIf (tNot3 (tT (tCall3 sp_right (tC3 (tV 8) (tC3 (tTup3 (tC3 (tK (.str "free")) (tC3 (tV 10) tN3))) (tC3 (tCall3 sp_lfree (tC3 (tV 8) (tC3 (tV 10) tN3))) tN3)))))) (cRet (tK (.bl false))) cNext)
def r_law_1 : C3 :=
  (cSeq (cAsg (tTup3 (tC3 (tV 2) (tC3 (tV 7) (tC3 (tV 4) tN3)))) (gN 8))
    (cSeq (cAsg (tB3 (onL maxX) (tC3 (tO addR (tNew (tC3 (tK (.int 0)) tN3)) (tNew (tLc3 (iSeq (tV 7)) (gN 11) bYes e_law_2 [11]))) tN3)) (gN 9))
    (cFor (iNew (tC3 (tV 9) (tC3 (tO addR (tV 9) (tK (.int 1))) (tC3 (tO subR (tV 9) (tK (.int 1))) (tC3 (tK (.int 0)) (tC3 (tV 2) (tC3 (tO subR (tV 2) (tK (.int 1))) (tC3 (tO modR (tO divR (tV 6) (tK (.int 3))) (tO addR (tV 2) (tK (.int 1)))) tN3)))))))) (gN 10) b_law_2)))
def b_law_1 : C3 :=
  (cSeq (cAsg (tCall3 sp_big (tC3 (tV 0) (tC3 (tO addR (tK (.int 41)) (tV 5)) tN3))) (gN 6))
    (cSeq (cAsg (tV 3) (gN 7))
    (cSeq (cIf (tT (tO gtR (tV 5) (tK (.int 0)))) (cAsg (tNew (tLc3 (iSeq (tV 3)) (gN 11) (tT (tO leR (tCall3 sp_lbehind (tC3 (tV 11) tN3)) (tO modR (tV 6) (tO addR (tV 2) (tK (.int 1)))))) e_law_1 [11])) (gN 7)) cNext)
    r_law_1)))
def t_law : C3 :=
  (cSeq (cAsg (tCall3 sp_bhall (tC3 (tV 0) (tC3 (tK (.int 1)) tN3))) (gN 1))
    (cSeq (cAsg (tV 1) (gTup3 3 (gCons3 (gN 2) (gCons3 (gN 3) (gCons3 (gN 4) gNil3)))))
    (cSeq (cFor (iRng (tC3 (tK (.int 4)) tN3)) (gN 5) b_law_1)
    (cRet (tK (.bl true))))))

theorem rd_law : ∀ ds h Q E, ClS h.length h → ClDs h.length ds → sp_law ds h Q E → t_law (ends3 (GQ h.length Q)) (start3 12 ds) h := by
  rintro ds h Q E _ _ ⟨ns, rfl, hn, rfl, q⟩
  try simp only [↓tV_q, ↓tK_q, ↓tN3_q, ↓tC3_q, ↓cSeq_q, ↓cAsg_q, ↓tCall3_q, ↓start3_q, onO_some, List.getElem?_cons_zero, List.map_cons, List.map_nil, List.cons_append, List.nil_append, List.length_cons, List.length_nil, List.replicate_succ, List.replicate_zero, Nat.reduceAdd, Nat.reduceSub, t_law]
  refine bhall_q0 (by decide) fun n prs w i j g ho hh => ?_
  obtain ⟨h2, ok⟩ := hall_ok ho
  have wok := hall_wts ho
  have pl := ho.2.1
  try simp only [↓tV_q, ↓tK_q, ↓tN3_q, ↓tC3_q, ↓cSeq_q, ↓cAsg_q, ↓gN_q, ↓gNil3_q, ↓gCons3_q, ↓gTup3_q, ↓cFor_q, ↓iRng_q, ↓rngD_1q, ↓start3_q, thenE_nx, onO_some, List.getElem?_cons_zero, List.getElem?_cons_succ, List.set_cons_zero, List.set_cons_succ, List.map_cons, List.map_nil, List.cons_append, List.nil_append, List.length_cons, List.length_nil, List.replicate_succ, List.replicate_zero, Nat.reduceAdd, Nat.reduceSub, true_and, hallD]
  refine ⟨by decide, ?_⟩
  refine forL (f := fun (j : Nat) => D.int (j : Int)) (fun l ρ h' => ∃ (k : Sto) (o5 o6 o7 o8 o9 o10 : Option D), ρ = [some (.fl (ns.map .int)), some (hallD n i j), some (.int (n : Int)), some (.ref i), some (.ref j), o5, o6, o7, o8, o9, o10, none] ∧ h' = g ++ k) ⟨[], _, _, _, _, _, _, rfl, (List.append_nil _).symm⟩ (fun _ _ _ _ => trivial) ?_ ?_
  · rintro ρ h' ⟨k, o5, o6, o7, o8, o9, o10, rfl, rfl⟩
    try simp only [↓tK_q, ↓cRet_q, thenE_nx, ends3_rt]
    exact .inl (q _)
  · rintro l x r ρ h' F e ⟨k, o5, o6, o7, o8, o9, o10, rfl, rfl⟩ hF
    have hF2 : ∀ (K : Sto) (o6 o7 o8 o9 o10 : Option D), F [some (.fl (ns.map .int)), some (hallD n i j), some (.int (n : Int)), some (.ref i), some (.ref j), some (.int (x : Int)), o6, o7, o8, o9, o10, none] ((g ++ k) ++ K) := fun K o6 o7 o8 o9 o10 => hF _ _ ⟨k ++ K, _, o6, o7, o8, o9, o10, rfl, by rw [List.append_assoc]⟩
    clear hF
    have hh2 := hh.up (g := k)
    generalize g ++ k = S at *
    have hi : S[i]? = some (.lst (prs.map p4D)) := hh2.1
    try simp only [↓tV_q, ↓tK_q, ↓tO_q, ↓tN3_q, ↓tC3_q, ↓cSeq_q, ↓cAsg_q, ↓gN_q, ↓tCall3_q, ↓addR_ii_q, onO_some, List.getElem?_cons_zero, List.getElem?_cons_succ, List.set_cons_zero, List.set_cons_succ, b_law_1]
    refine big_q (by omega) fun b b0 => ?_
    try simp only [↓tV_q, ↓tK_q, ↓tO_q, ↓tT_q, ↓cSeq_q, ↓cIf_q, ↓cAsg_q, ↓gN_q, ↓gtR_ii_q, thenE_nx, onO_some, onB_bl, List.getElem?_cons_zero, List.getElem?_cons_succ, List.set_cons_zero, List.set_cons_succ]
    have fin : ∀ (prs' : List P4) (i' : Nat) (K : Sto) (o8 o9 o10 : Option D), (∀ q ∈ prs', q ∈ prs) → prs'.length ≤ prs.length → (S ++ K)[i']? = some (.lst (prs'.map p4D)) → r_law_1 (loopE F (thenE (cRet (tK (.bl true))) (ends3 (GQ 0 Q)))) [some (.fl (ns.map .int)), some (hallD n i j), some (.int (n : Int)), some (.ref i), some (.ref j), some (.int (x : Int)), some (.int b), some (.ref i'), o8, o9, o10, none] (S ++ K) := by
      intro prs' i' K o8 o9 o10 hs hl hi'
      have hH : HAt (S ++ K) i' j (n, prs', w) := ⟨hi', get_up hh2.2.1, by show prs'.length ≤ 1000; omega, hh2.2.2.2⟩
      have h2' : HOk2 (n, prs', w) := ⟨by show prs'.length ≤ 100; omega, h2.2⟩
      have ok' : PrsOk (n, prs', w) := ⟨ok.1, fun q hq => ok.2 q (hs q hq)⟩
      have wok' : WtsOk (n, prs', w) := wok
      have hF3 : ∀ (K2 : Sto) (o8 o9 o10 : Option D), F [some (.fl (ns.map .int)), some (hallD n i j), some (.int (n : Int)), some (.ref i), some (.ref j), some (.int (x : Int)), some (.int b), some (.ref i'), o8, o9, o10, none] ((S ++ K) ++ K2) := fun K2 o8 o9 o10 => by rw [List.append_assoc]; exact hF2 _ _ _ _ _ _
      clear hF2
      generalize S ++ K = T at *
      try simp only [↓tV_q, ↓tK_q, ↓tO_q, ↓tN3_q, ↓tC3_q, ↓tTup3_q, ↓tNew_q, ↓cSeq_q, ↓cAsg_q, ↓gN_q, ↓iSeq_q, ↓iSeqD_rq, ↓tLc3_q, ↓tB3_q, thenE_nx, onO_some, onC_q, wipe3_nil, wipe3_cons, List.getElem?_cons_zero, List.getElem?_cons_succ, List.set_cons_zero, List.set_cons_succ, r_law_1, get_up hi']
      refine ⟨by rw [List.length_map]; omega, lcMap (f := p4D) (r := fun x => D.int (reachP x)) (get_up hi') ?_ fun x _ Q q => ?_⟩
      rotate_left
      · try simp only [↓tV_q, ↓tN3_q, ↓tC3_q, ↓gN_q, ↓tCall3_q, onO_some, List.getElem?_cons_zero, List.getElem?_cons_succ, List.set_cons_zero, List.set_cons_succ, e_law_2]
        exact lbehind_q (x := x) q
      try simp only [↓tN3_q, ↓maxX_q, ↓addR_rq, ↓onL_rq, onC_q, List.cons_append, List.nil_append, List.length_cons, List.length_nil, Nat.reduceAdd, get_new, get_new2]
      refine ⟨by rw [List.length_map]; omega, ?_⟩
      skip
      rw [show (D.int 0 :: prs'.map fun x => D.int (reachP x)) = (0 :: prs'.map reachP).map D.int by simp, intsOf_map]
      try simp only [↓tV_q, ↓tK_q, ↓tO_q, ↓tN3_q, ↓tC3_q, ↓gN_q, ↓cFor_q, ↓iNew_q, ↓addR_ii_q, ↓subR_ii_q, ↓divR_ii_q, ↓modR_ii_q, thenE_nx, onO_some, onIs_q, List.getElem?_cons_zero, List.getElem?_cons_succ, List.set_cons_zero, List.set_cons_succ, List.map_cons, List.length_cons]
      refine ⟨by simp, fun m _ _ => ?_⟩
      skip
      refine ⟨divOk_of (by decide) (by decide), by omega, ?_⟩
      generalize hT : T ++ [Cell.lst [D.int 0]] ++ [Cell.lst (prs'.map fun x => D.int (reachP x))] ++ [Cell.lst (D.int 0 :: List.map D.int (List.map reachP prs'))] = T2
      obtain ⟨K2, eT⟩ : ∃ K2, T2 = T ++ K2 := ⟨_, by rw [← hT, List.append_assoc, List.append_assoc]⟩
      clear hT
      subst eT
      refine forQ (fun xs ρ h' => (∀ x ∈ xs, ∃ e : Int, x = .int e) ∧ ∃ (K3 : Sto) (o10 : Option D), ρ = [some (.fl (ns.map .int)), some (hallD n i j), some (.int (n : Int)), some (.ref i), some (.ref j), some (.int (x : Int)), some (.int b), some (.ref i'), some (hallD n i' j), some (.int m), o10, none] ∧ h' = T ++ K3) ⟨fun y hy => ?_, K2, _, rfl, rfl⟩ (fun _ _ _ _ => trivial) ?_ ?_
      · simp only [List.mem_cons, List.not_mem_nil, or_false] at hy
        rcases hy with rfl | rfl | rfl | rfl | rfl | rfl | rfl <;> exact ⟨_, rfl⟩
      · rintro ρ h' ⟨_, K3, o10, rfl, rfl⟩
        exact hF3 _ _ _ _
      · rintro y r2 ρ h' F2 ⟨hy, K3, o10, rfl, rfl⟩ hG
        obtain ⟨e, rfl⟩ := hy y List.mem_cons_self
        have hy2 : ∀ x ∈ r2, ∃ e : Int, x = .int e := fun z hz => hy z (List.mem_cons_of_mem _ hz)
        try simp only [↓tV_q, ↓tK_q, ↓tT_q, ↓tNot3_q, ↓tN3_q, ↓tC3_q, ↓tTup3_q, ↓cIf_q, ↓gN_q, ↓tCall3_q, onO_some, List.getElem?_cons_zero, List.getElem?_cons_succ, List.set_cons_zero, List.set_cons_succ, b_law_2]
        refine lfree_q (H := (n, prs', w)) hH.up h2' (DueQ.mono (right_due (Q := ?QA) hH.up ok' (dok_free wok') ?qa) fun d h' z => ?za)
        case za =>
          try simp only [↓tN3_q]
          exact z
        case qa =>
          intro d G
          try simp only [↓cNext_q, loopE_nx, onB_bl, ifC_false, Bool.not_true]
          rw [List.append_assoc]
          exact hG _ _ ⟨hy2, _, _, rfl, rfl⟩
    refine ifC_of (fun h0 => ?_) (fun h0 => ?_)
    · try simp only [↓tV_q, ↓tNew_q, ↓cAsg_q, ↓iSeq_q, ↓iSeqD_rq, ↓tLc3_q, onO_some, onC_q, wipe3_nil, wipe3_cons, List.getElem?_cons_zero, List.getElem?_cons_succ, List.set_cons_zero, List.set_cons_succ, hi]
      refine ⟨by rw [List.length_map]; omega, ?_⟩
      refine lcL (f := p4D) (fun l acc h' => ∃ ps : List P4, (∀ q ∈ ps, q ∈ l) ∧ ps.length ≤ l.length ∧ acc = ps.map p4D ∧ h' = S) ⟨[], (fun q hq => nomatch hq), Nat.le_refl _, rfl, rfl⟩ ?_ ?_ ?_
      · rintro l acc h' ⟨ps, _, _, _, rfl⟩
        exact hi
      · rintro acc h' ⟨ps, h1, h2, rfl, rfl⟩
        try simp only [↓gN_q, thenE_nx, List.set_cons_zero, List.set_cons_succ]
        exact fin ps (List.length h') [.lst (ps.map p4D)] _ _ _ h1 h2 get_new
      · rintro l2 y r2 acc h' F2 e2 ⟨ps, h1, h2, rfl, rfl⟩ hF3
        try simp only [↓tV_q, ↓tO_q, ↓tT_q, ↓tN3_q, ↓tC3_q, ↓gN_q, ↓tCall3_q, onO_some, List.getElem?_cons_zero, List.getElem?_cons_succ, List.set_cons_zero, List.set_cons_succ]
        refine lbehind_q (x := y) ?_
        try simp only [↓tV_q, ↓tK_q, ↓tO_q, ↓addR_ii_q, ↓modR_ii_q, ↓leR_ii_q, onO_some, onB_bl, List.getElem?_cons_zero, List.getElem?_cons_succ]
        refine ⟨by omega, ?_⟩
        refine ifC_of (fun _ => ?_) (fun _ => ?_)
        · try simp only [↓tV_q, onO_some, List.getElem?_cons_zero, List.getElem?_cons_succ, e_law_1]
          refine hF3 _ _ ⟨ps ++ [y], fun q hq => ?_, by simp; omega, by simp, rfl⟩
          rcases List.mem_append.mp hq with hq | hq
          · exact List.mem_append_left _ (h1 q hq)
          · exact List.mem_append_right _ hq
        · exact hF3 _ _ ⟨ps, fun q hq => List.mem_append_left _ (h1 q hq), by simp; omega, rfl, rfl⟩
    · try simp only [↓cNext_q, thenE_nx]
      have g1 := fin prs i [] o8 o9 o10 (fun q hq => hq) (Nat.le_refl _) (by rw [List.append_nil]; exact hi)
      rw [List.append_nil] at g1
      exact g1
end F3
set_option maxHeartbeats 400000
namespace F3
open PySem PySem.Spec PyProof.Rows L2
def topS (i : Nat) : Stmt := PySem.Challenge.pw_farcords_k30_free.main.body.getD i (.Pass ⟨0, 0, 0, 0⟩)
abbrev s_part : Stmt := topS 13
abbrev N_part : List Str := ["weighing", "begin", "end", "pieces", "ahead", "many", "weights", "first", "last"]
theorem sc_part : FnScope N_part ["weighing", "begin", "end"] (defScope s_part) := ⟨rfl, rfl, rfl, by decide +kernel, rfl, by decide +kernel, by decide +kernel⟩
abbrev s_sorts : Stmt := topS 21
abbrev N_sorts : List Str := ["weighing", "manys", "many", "weights"]
theorem sc_sorts : FnScope N_sorts ["weighing"] (defScope s_sorts) := ⟨rfl, rfl, rfl, by decide +kernel, rfl, by decide +kernel, by decide +kernel⟩
abbrev s_paired : Stmt := topS 23
abbrev N_paired : List Str := ["one", "other", "long", "turned"]
theorem sc_paired : FnScope N_paired ["one", "other", "long", "turned"] (defScope s_paired) := ⟨rfl, rfl, rfl, by decide +kernel, rfl, by decide +kernel, by decide +kernel⟩
abbrev s_is_turn : Stmt := topS 24
abbrev N_is_turn : List Str := ["pairing", "low", "high", "long", "turned"]
theorem sc_is_turn : FnScope N_is_turn ["pairing"] (defScope s_is_turn) := ⟨rfl, rfl, rfl, by decide +kernel, rfl, by decide +kernel, by decide +kernel⟩
abbrev s_look : Stmt := topS 26
abbrev N_look : List Str := ["right"]
theorem sc_look : FnScope N_look ["right"] (defScope s_look) := ⟨rfl, rfl, rfl, by decide +kernel, rfl, by decide +kernel, by decide +kernel⟩
abbrev s_is_still : Stmt := topS 27
abbrev N_is_still : List Str := ["pairing", "low", "high", "long", "turned"]
theorem sc_is_still : FnScope N_is_still ["pairing"] (defScope s_is_still) := ⟨rfl, rfl, rfl, by decide +kernel, rfl, by decide +kernel, by decide +kernel⟩
abbrev s_is_bent : Stmt := topS 28
abbrev N_is_bent : List Str := ["pairing", "low", "high", "long", "turned"]
theorem sc_is_bent : FnScope N_is_bent ["pairing"] (defScope s_is_bent) := ⟨rfl, rfl, rfl, by decide +kernel, rfl, by decide +kernel, by decide +kernel⟩
abbrev s_is_lead : Stmt := topS 29
abbrev N_is_lead : List Str := ["pairing", "low", "high", "long", "turned"]
theorem sc_is_lead : FnScope N_is_lead ["pairing"] (defScope s_is_lead) := ⟨rfl, rfl, rfl, by decide +kernel, rfl, by decide +kernel, by decide +kernel⟩
abbrev s_sum_of_ends : Stmt := topS 30
abbrev N_sum_of_ends : List Str := ["pairing"]
theorem sc_sum_of_ends : FnScope N_sum_of_ends ["pairing"] (defScope s_sum_of_ends) := ⟨rfl, rfl, rfl, by decide +kernel, rfl, by decide +kernel, by decide +kernel⟩
abbrev s_folded : Stmt := topS 31
abbrev N_folded : List Str := ["pairing", "low", "total", "many"]
theorem sc_folded : FnScope N_folded ["pairing"] (defScope s_folded) := ⟨rfl, rfl, rfl, by decide +kernel, rfl, by decide +kernel, by decide +kernel⟩
abbrev s_shift_of : Stmt := topS 32
abbrev N_shift_of : List Str := ["pairing"]
theorem sc_shift_of : FnScope N_shift_of ["pairing"] (defScope s_shift_of) := ⟨rfl, rfl, rfl, by decide +kernel, rfl, by decide +kernel, by decide +kernel⟩
abbrev s_reach_end : Stmt := topS 33
abbrev N_reach_end : List Str := ["pairing"]
theorem sc_reach_end : FnScope N_reach_end ["pairing"] (defScope s_reach_end) := ⟨rfl, rfl, rfl, by decide +kernel, rfl, by decide +kernel, by decide +kernel⟩
abbrev s_common_part : Stmt := topS 34
abbrev N_common_part : List Str := ["one", "other"]
theorem sc_common_part : FnScope N_common_part ["one", "other"] (defScope s_common_part) := ⟨rfl, rfl, rfl, by decide +kernel, rfl, by decide +kernel, by decide +kernel⟩
abbrev s_can_join : Stmt := topS 35
abbrev N_can_join : List Str := ["one", "other", "both"]
theorem sc_can_join : FnScope N_can_join ["one", "other"] (defScope s_can_join) := ⟨rfl, rfl, rfl, by decide +kernel, rfl, by decide +kernel, by decide +kernel⟩
abbrev s_joined : Stmt := topS 36
abbrev N_joined : List Str := ["one", "other", "low", "shift"]
theorem sc_joined : FnScope N_joined ["one", "other"] (defScope s_joined) := ⟨rfl, rfl, rfl, by decide +kernel, rfl, by decide +kernel, by decide +kernel⟩
abbrev s_is_within : Stmt := topS 37
abbrev N_is_within : List Str := ["lead", "begin", "long"]
theorem sc_is_within : FnScope N_is_within ["lead", "begin", "long"] (defScope s_is_within) := ⟨rfl, rfl, rfl, by decide +kernel, rfl, by decide +kernel, by decide +kernel⟩
abbrev s_led_back : Stmt := topS 38
abbrev N_led_back : List Str := ["lead", "begin", "long", "shift"]
theorem sc_led_back : FnScope N_led_back ["lead", "begin", "long"] (defScope s_led_back) := ⟨rfl, rfl, rfl, by decide +kernel, rfl, by decide +kernel, by decide +kernel⟩
abbrev s_carried : Stmt := topS 39
abbrev N_carried : List Str := ["lead", "pairing", "side", "low", "high", "long", "turned"]
theorem sc_carried : FnScope N_carried ["lead", "pairing", "side"] (defScope s_carried) := ⟨rfl, rfl, rfl, by decide +kernel, rfl, by decide +kernel, by decide +kernel⟩
abbrev s_without : Stmt := topS 42
abbrev N_without : List Str := ["pairings", "k"]
theorem sc_without : FnScope N_without ["pairings", "k"] (defScope s_without) := ⟨rfl, rfl, rfl, by decide +kernel, rfl, by decide +kernel, by decide +kernel⟩
abbrev s_instead : Stmt := topS 43
abbrev N_instead : List Str := ["pairings", "k", "made"]
theorem sc_instead : FnScope N_instead ["pairings", "k", "made"] (defScope s_instead) := ⟨rfl, rfl, rfl, by decide +kernel, rfl, by decide +kernel, by decide +kernel⟩
abbrev s_is_number : Stmt := topS 44
abbrev N_is_number : List Str := ["hall", "thing"]
theorem sc_is_number : FnScope N_is_number ["hall", "thing"] (defScope s_is_number) := ⟨rfl, rfl, rfl, by decide +kernel, rfl, by decide +kernel, by decide +kernel⟩
abbrev s_is_end : Stmt := topS 45
abbrev N_is_end : List Str := ["hall", "thing"]
theorem sc_is_end : FnScope N_is_end ["hall", "thing"] (defScope s_is_end) := ⟨rfl, rfl, rfl, by decide +kernel, rfl, by decide +kernel, by decide +kernel⟩
abbrev s_ends_by : Stmt := topS 46
abbrev N_ends_by : List Str := ["pairings", "end", "pairing"]
theorem sc_ends_by : FnScope N_ends_by ["pairings", "end"] (defScope s_ends_by) := ⟨rfl, rfl, rfl, by decide +kernel, rfl, by decide +kernel, by decide +kernel⟩
abbrev s_gone_in : Stmt := topS 47
abbrev N_gone_in : List Str := ["hall", "deed", "n", "pairings", "weighing"]
theorem sc_gone_in : FnScope N_gone_in ["hall", "deed"] (defScope s_gone_in) := ⟨rfl, rfl, rfl, by decide +kernel, rfl, by decide +kernel, by decide +kernel⟩
abbrev s_folded_in : Stmt := topS 48
abbrev N_folded_in : List Str := ["hall", "deed", "n", "pairings", "weighing"]
theorem sc_folded_in : FnScope N_folded_in ["hall", "deed"] (defScope s_folded_in) := ⟨rfl, rfl, rfl, by decide +kernel, rfl, by decide +kernel, by decide +kernel⟩
abbrev s_joined_in : Stmt := topS 49
abbrev N_joined_in : List Str := ["hall", "deed", "n", "pairings", "weighing", "one", "other"]
theorem sc_joined_in : FnScope N_joined_in ["hall", "deed"] (defScope s_joined_in) := ⟨rfl, rfl, rfl, by decide +kernel, rfl, by decide +kernel, by decide +kernel⟩
abbrev s_carried_in : Stmt := topS 50
abbrev N_carried_in : List Str := ["hall", "deed", "n", "pairings", "weighing", "lead", "pairing", "side"]
theorem sc_carried_in : FnScope N_carried_in ["hall", "deed"] (defScope s_carried_in) := ⟨rfl, rfl, rfl, by decide +kernel, rfl, by decide +kernel, by decide +kernel⟩
abbrev s_cut_in : Stmt := topS 51
abbrev N_cut_in : List Str := ["hall", "deed", "n", "pairings", "weighing", "lead", "end"]
theorem sc_cut_in : FnScope N_cut_in ["hall", "deed"] (defScope s_cut_in) := ⟨rfl, rfl, rfl, by decide +kernel, rfl, by decide +kernel, by decide +kernel⟩
abbrev s_freed_in : Stmt := topS 52
abbrev N_freed_in : List Str := ["hall", "deed", "n", "pairings", "weighing"]
theorem sc_freed_in : FnScope N_freed_in ["hall", "deed"] (defScope s_freed_in) := ⟨rfl, rfl, rfl, by decide +kernel, rfl, by decide +kernel, by decide +kernel⟩
abbrev s_hall_behind : Stmt := topS 53
abbrev N_hall_behind : List Str := ["hall", "deed"]
theorem sc_hall_behind : FnScope N_hall_behind ["hall", "deed"] (defScope s_hall_behind) := ⟨rfl, rfl, rfl, by decide +kernel, rfl, by decide +kernel, by decide +kernel⟩
abbrev s_deed_done : Stmt := topS 54
abbrev N_deed_done : List Str := ["hall", "deed", "made"]
theorem sc_deed_done : FnScope N_deed_done ["hall", "deed"] (defScope s_deed_done) := ⟨rfl, rfl, rfl, by decide +kernel, rfl, by decide +kernel, by decide +kernel⟩
abbrev s_dcell : Stmt := topS 56
abbrev N_dcell : List Str := ["_law_script", "_law_k"]
theorem sc_dcell : FnScope N_dcell ["_law_script", "_law_k"] (defScope s_dcell) := ⟨rfl, rfl, rfl, by decide +kernel, rfl, by decide +kernel, by decide +kernel⟩
abbrev s_big : Stmt := topS 57
abbrev N_big : List Str := ["_law_script", "_law_k", "_law_x", "_law_total", "_law_j"]
theorem sc_big : FnScope N_big ["_law_script", "_law_k"] (defScope s_big) := ⟨rfl, rfl, rfl, by decide +kernel, rfl, by decide +kernel, by decide +kernel⟩
abbrev s_btake : Stmt := topS 58
abbrev N_btake : List Str := ["_law_bag", "_law_many", "_law_found"]
theorem sc_btake : FnScope N_btake ["_law_bag", "_law_many"] (defScope s_btake) := ⟨rfl, rfl, rfl, by decide +kernel, rfl, by decide +kernel, by decide +kernel⟩
abbrev s_bweighing : Stmt := topS 59
abbrev N_bweighing : List Str := ["_law_n", "_law_head", "_law_script", "_law_at", "_law_bag", "_law_wide", "_law_high", "_law_pieces", "_law_k", "_law_drawn", "_law_weights", "_law_many", "_law_found", "_law_j"]
theorem sc_bweighing : FnScope N_bweighing ["_law_n", "_law_head", "_law_script", "_law_at"] (defScope s_bweighing) := ⟨rfl, rfl, rfl, by decide +kernel, rfl, by decide +kernel, by decide +kernel⟩
abbrev s_bpairing : Stmt := topS 60
abbrev N_bpairing : List Str := ["_law_n", "_law_head", "_law_script", "_law_at", "_law_bag", "_law_way", "_law_long", "_law_one", "_law_other"]
theorem sc_bpairing : FnScope N_bpairing ["_law_n", "_law_head", "_law_script", "_law_at"] (defScope s_bpairing) := ⟨rfl, rfl, rfl, by decide +kernel, rfl, by decide +kernel, by decide +kernel⟩
abbrev s_bhall : Stmt := topS 61
abbrev N_bhall : List Str := ["_law_script", "_law_at", "_law_bag", "_law_way", "_law_n", "_law_many", "_law_weighing_here", "_law_pairings", "_law_k"]
theorem sc_bhall : FnScope N_bhall ["_law_script", "_law_at"] (defScope s_bhall) := ⟨rfl, rfl, rfl, by decide +kernel, rfl, by decide +kernel, by decide +kernel⟩
abbrev s_lbehind : Stmt := topS 64
abbrev N_lbehind : List Str := ["_law_pairing_here"]
theorem sc_lbehind : FnScope N_lbehind ["_law_pairing_here"] (defScope s_lbehind) := ⟨rfl, rfl, rfl, by decide +kernel, rfl, by decide +kernel, by decide +kernel⟩
abbrev s_lpart : Stmt := topS 65
abbrev N_lpart : List Str := ["_law_weighing_here", "_law_begin", "_law_end", "_law_found", "_law_place", "_law_many", "_law_weights", "_law_here"]
theorem sc_lpart : FnScope N_lpart ["_law_weighing_here", "_law_begin", "_law_end"] (defScope s_lpart) := ⟨rfl, rfl, rfl, by decide +kernel, rfl, by decide +kernel, by decide +kernel⟩
abbrev s_lsorts : Stmt := topS 66
abbrev N_lsorts : List Str := ["_law_weighing_here", "_law_found", "_law_many", "_law_weights"]
theorem sc_lsorts : FnScope N_lsorts ["_law_weighing_here"] (defScope s_lsorts) := ⟨rfl, rfl, rfl, by decide +kernel, rfl, by decide +kernel, by decide +kernel⟩
abbrev s_lfree : Stmt := topS 67
abbrev N_lfree : List Str := ["_law_hall_here", "_law_end", "_law_n", "_law_pairings", "_law_weighing_here", "_law_pairing_here"]
theorem sc_lfree : FnScope N_lfree ["_law_hall_here", "_law_end"] (defScope s_lfree) := ⟨rfl, rfl, rfl, by decide +kernel, rfl, by decide +kernel, by decide +kernel⟩
abbrev s_whole : Stmt := topS 68
abbrev N_whole : List Str := ["_law_thing"]
theorem sc_whole : FnScope N_whole ["_law_thing"] (defScope s_whole) := ⟨rfl, rfl, rfl, by decide +kernel, rfl, by decide +kernel, by decide +kernel⟩
abbrev s_told_right : Stmt := topS 69
abbrev N_told_right : List Str := ["_law_told", "_law_numbers", "_law_pairing_here", "_law_one", "_law_other", "_law_amount"]
theorem sc_told_right : FnScope N_told_right ["_law_told"] (defScope s_told_right) := ⟨rfl, rfl, rfl, by decide +kernel, rfl, by decide +kernel, by decide +kernel⟩
abbrev s_refused : Stmt := topS 70
abbrev N_refused : List Str := ["_law_hall_here", "_law_deed", "_law_handed", "e", "_law_kinds"]
theorem sc_refused : FnScope N_refused ["_law_hall_here", "_law_deed"] (defScope s_refused) := ⟨rfl, rfl, rfl, by decide +kernel, rfl, by decide +kernel, by decide +kernel⟩
abbrev s_done_right : Stmt := topS 71
abbrev N_done_right : List Str := ["_law_hall_here", "_law_deed", "_law_due", "_law_handed", "_law_turn", "_law_told"]
theorem sc_done_right : FnScope N_done_right ["_law_hall_here", "_law_deed", "_law_due"] (defScope s_done_right) := ⟨rfl, rfl, rfl, by decide +kernel, rfl, by decide +kernel, by decide +kernel⟩
abbrev s_right : Stmt := topS 72
abbrev N_right : List Str := ["_law_hall_here", "_law_deed", "_law_due"]
theorem sc_right : FnScope N_right ["_law_hall_here", "_law_deed", "_law_due"] (defScope s_right) := ⟨rfl, rfl, rfl, by decide +kernel, rfl, by decide +kernel, by decide +kernel⟩
abbrev s_law : Stmt := topS 73
abbrev N_law : List Str := ["_law_script", "_law_hall_here", "_law_n", "_law_pairings", "_law_weighing_here", "_law_way", "_law_big_here", "_law_some", "_law_made", "_law_last", "_law_end", "_law_pairing_here"]
theorem sc_law : FnScope N_law ["_law_script"] (defScope s_law) := ⟨rfl, rfl, rfl, by decide +kernel, rfl, by decide +kernel, by decide +kernel⟩
section
variable {P : Program} {w : World} {K : PySem.W.Frag} {mg : Str → Option Value} {base : Heap} {bk : String → Addr}
theorem d_part {f : Addr} (m_max : mg "max" = none) (m_min : mg "min" = none) (cdv : Value) (A : Around) (outer : List Env) (s : Shared) (H : Hp) (E : XK) (hr : Room 0 (A.deeper (envOfC "part" (defScope s_part) s.heap.objs.size f cdv))) :
    PCs3 (cxOf CX0 P w K mg base N_part "part" (defScope s_part) f cdv A outer s H E).nox (defBody s_part) t_part :=
  (cs3_cons (c3_set 3 sc_part.nd (e3_new (x3_lst a3_nil)))
    (cs3_cons (c3_set 4 sc_part.nd e3_int)
    (cs3_cons (c3_for PassesOwn.never rfl (i3_seq (e3_v 0)) (g3_tup rfl (gs3_cons (g3_n 5 sc_part.nd) (gs3_cons (g3_n 6 sc_part.nd) gs3_nil))) (show PCs3 _ _ b_part_1 from (cs3_cons (c3_set 7 sc_part.nd (e3_cb (k_max rfl) m_max (a3_cons (e3_v 1) (a3_cons (e3_v 4) a3_nil))))
    (cs3_cons (c3_set 8 sc_part.nd (e3_cb (k_min rfl) m_min (a3_cons (e3_v 2) (a3_cons (e3_op o_add (e3_v 4) (e3_v 5)) a3_nil))))
    (cs3_cons (c3_if (b3_cmp o_lt (e3_v 7) (e3_v 8)) (cs3_one (c3_expr (e3_lm m_append PySem.F.slot_list_append PySem.F.type_list_append (e3_v 3) (a3_cons (e3_tup (a3_cons (e3_op o_sub (e3_v 8) (e3_v 7)) (a3_cons (e3_v 6) a3_nil))) a3_nil)))) cs3_nil)
    (show PCs3 _ _ r_part_1 from (cs3_one (c3_set 4 sc_part.nd (e3_op o_add (e3_v 4) (e3_v 5))))))))))
    (cs3_one (c3_ret (e3_v 3))))))
theorem d_sorts {f : Addr} (m_sorted : mg "sorted" = none) (cdv : Value) (A : Around) (outer : List Env) (s : Shared) (H : Hp) (E : XK) (hr : Room 0 (A.deeper (envOfC "sorts" (defScope s_sorts) s.heap.objs.size f cdv))) :
    PCs3 (cxOf CX0 P w K mg base N_sorts "sorts" (defScope s_sorts) f cdv A outer s H E).nox (defBody s_sorts) t_sorts :=
  (cs3_cons (c3_set 1 sc_sorts.nd e3_dnewT)
    (cs3_cons (c3_for PassesOwn.never rfl (i3_seq (e3_v 0)) (g3_tup rfl (gs3_cons (g3_n 2 sc_sorts.nd) (gs3_cons (g3_n 3 sc_sorts.nd) gs3_nil))) (show PCs3 _ _ b_sorts_1 from (cs3_one (c3_dputT hr.units (e3_v 1) (e3_v 3) (e3_op o_add (e3_dget2 hr.units (e3_v 1) (e3_v 3) e3_int ⟨rfl, rfl, rfl, rfl⟩) (e3_v 2))))))
    (cs3_one (c3_ret (e3_new (x3_cbx (klx_sortedD hr.units) m_sorted (x3_lock 1 (x3_lc (own := [("weights", 3)]) rfl sc_sorts.nd (i3_keys (e3_v 1)) (blkOk_by (own := [("weights", 3)]) (N := N_sorts) (sc := defScope s_sorts) (by decide +kernel)) cg_n gm_n (fun _ _ _ _ _ => (pg_name (i := 3) sc_sorts.nd rfl (Or.inl rfl))) (fun _ _ _ _ _ => pts3_nil) (fun _ _ _ _ _ => (show PE3 _ _ e_sorts_1 from (e3_tup (a3_cons (e3_v 3) (a3_cons (e3_dgetA hr.units (e3_v 1) (e3_v 3)) a3_nil)))))))))))))
theorem d_paired {f : Addr} (m_min : mg "min" = none) (m_max : mg "max" = none) (cdv : Value) (A : Around) (outer : List Env) (s : Shared) (H : Hp) (E : XK) (hr : Room 0 (A.deeper (envOfC "paired" (defScope s_paired) s.heap.objs.size f cdv))) :
    PCs3 (cxOf CX0 P w K mg base N_paired "paired" (defScope s_paired) f cdv A outer s H E).nox (defBody s_paired) t_paired :=
  (cs3_one (c3_ret (e3_tup (a3_cons (e3_cb (k_min rfl) m_min (a3_cons (e3_v 0) (a3_cons (e3_v 1) a3_nil))) (a3_cons (e3_cb (k_max rfl) m_max (a3_cons (e3_v 0) (a3_cons (e3_v 1) a3_nil))) (a3_cons (e3_v 2) (a3_cons (e3_v 3) a3_nil)))))))
theorem d_is_turn {f : Addr} (cdv : Value) (A : Around) (outer : List Env) (s : Shared) (H : Hp) (E : XK) (hr : Room 0 (A.deeper (envOfC "is_turn" (defScope s_is_turn) s.heap.objs.size f cdv))) :
    PCs3 (cxOf CX0 P w K mg base N_is_turn "is_turn" (defScope s_is_turn) f cdv A outer s H E).nox (defBody s_is_turn) t_is_turn :=
  (cs3_cons (c3_asg (e3_v 0) (g3_tup rfl (gs3_cons (g3_n 1 sc_is_turn.nd) (gs3_cons (g3_n 2 sc_is_turn.nd) (gs3_cons (g3_n 3 sc_is_turn.nd) (gs3_cons (g3_n 4 sc_is_turn.nd) gs3_nil))))))
    (cs3_one (c3_ret (e3_and (e3_not (e3_v 4)) (e3_one (e3_chain o_lt o_le (e3_v 1) (e3_v 2) (e3_op o_add (e3_v 1) (e3_v 3))))))))
theorem d_look {f : Addr} (BK : Book K mg bk ["NoDeed"] ["CordError", "TooMany", "NoDeed", "NoRow", "NoCord", "NoTurn", "NoText", "NoSheet", "NoName"]) (cdv : Value) (A : Around) (outer : List Env) (s : Shared) (H : Hp) (E : XK) (m0 : List Addr) (E4 : X4) (hr : Room 0 (A.deeper (envOfC "look" (defScope s_look) s.heap.objs.size f cdv))) (hE : ∀ c ρ h', E4 c ρ h' → UpW K bk m0 H (fun cls d _ H' => E cls d H') c ρ h') (tk : Takes (cxOf (L2.CX P w) P w K mg base N_look "look" (defScope s_look) f cdv A outer s H E) (fun cls d _ H' => E cls d H')) :
    PCsb (cxOf (L2.CX P w) P w K mg base N_look "look" (defScope s_look) f cdv A outer s H E) m0 H (defBody s_look) (t_look E4) :=
  (csb_one (cb_if (b3_not (b3_val (e3_v 0))) (csb_one (cb_raise (bk := bk) "NoDeed" rfl PySem.F.excBase_ValueError (BK.own "NoDeed" (by decide)) (BK.mg "NoDeed" (by decide)) tk hE)) (PCs3.b cs3_nil)))
theorem d_is_still {f : Addr} (cdv : Value) (A : Around) (outer : List Env) (s : Shared) (H : Hp) (E : XK) (hr : Room 0 (A.deeper (envOfC "is_still" (defScope s_is_still) s.heap.objs.size f cdv))) :
    PCs3 (cxOf CX0 P w K mg base N_is_still "is_still" (defScope s_is_still) f cdv A outer s H E).nox (defBody s_is_still) t_is_still :=
  (cs3_cons (c3_asg (e3_v 0) (g3_tup rfl (gs3_cons (g3_n 1 sc_is_still.nd) (gs3_cons (g3_n 2 sc_is_still.nd) (gs3_cons (g3_n 3 sc_is_still.nd) (gs3_cons (g3_n 4 sc_is_still.nd) gs3_nil))))))
    (cs3_one (c3_ret (e3_and (e3_cmp (o_eq hr.units) (e3_v 1) (e3_v 2)) (e3_one (e3_or (e3_not (e3_v 4)) (e3_one (e3_cmp (o_eq hr.units) (e3_v 3) e3_int))))))))
theorem d_is_bent {f : Addr} (F_is_still : Fn3 P w K mg base "is_still" 1 ["pairing"] sp_is_still) (cdv : Value) (A : Around) (outer : List Env) (s : Shared) (H : Hp) (E : XK) (hr : Room 1 (A.deeper (envOfC "is_bent" (defScope s_is_bent) s.heap.objs.size f cdv))) :
    PCs3 (cxOf CX0 P w K mg base N_is_bent "is_bent" (defScope s_is_bent) f cdv A outer s H E).nox (defBody s_is_bent) t_is_bent :=
  (cs3_cons (c3_asg (e3_v 0) (g3_tup rfl (gs3_cons (g3_n 1 sc_is_bent.nd) (gs3_cons (g3_n 2 sc_is_bent.nd) (gs3_cons (g3_n 3 sc_is_bent.nd) (gs3_cons (g3_n 4 sc_is_bent.nd) gs3_nil))))))
    (cs3_one (c3_ret (e3_and (e3_v 4) (e3_and (e3_cmp o_lt (e3_v 2) (e3_op o_add (e3_v 1) (e3_v 3))) (e3_one (e3_not (e3_call F_is_still hr (a3_cons (e3_v 0) a3_nil)))))))))
theorem d_is_lead {f : Addr} (cdv : Value) (A : Around) (outer : List Env) (s : Shared) (H : Hp) (E : XK) (hr : Room 0 (A.deeper (envOfC "is_lead" (defScope s_is_lead) s.heap.objs.size f cdv))) :
    PCs3 (cxOf CX0 P w K mg base N_is_lead "is_lead" (defScope s_is_lead) f cdv A outer s H E).nox (defBody s_is_lead) t_is_lead :=
  (cs3_cons (c3_asg (e3_v 0) (g3_tup rfl (gs3_cons (g3_n 1 sc_is_lead.nd) (gs3_cons (g3_n 2 sc_is_lead.nd) (gs3_cons (g3_n 3 sc_is_lead.nd) (gs3_cons (g3_n 4 sc_is_lead.nd) gs3_nil))))))
    (cs3_one (c3_ret (e3_and (e3_cmp o_lt (e3_v 1) (e3_v 2)) (e3_one (e3_or (e3_not (e3_v 4)) (e3_one (e3_cmp o_ge (e3_v 2) (e3_op o_add (e3_v 1) (e3_v 3))))))))))
theorem d_sum_of_ends {f : Addr} (cdv : Value) (A : Around) (outer : List Env) (s : Shared) (H : Hp) (E : XK) (hr : Room 0 (A.deeper (envOfC "sum_of_ends" (defScope s_sum_of_ends) s.heap.objs.size f cdv))) :
    PCs3 (cxOf CX0 P w K mg base N_sum_of_ends "sum_of_ends" (defScope s_sum_of_ends) f cdv A outer s H E).nox (defBody s_sum_of_ends) t_sum_of_ends :=
  (cs3_one (c3_ret (e3_op o_sub (e3_op o_add (e3_op o_add (e3_ix (e3_v 0) e3_int) (e3_ix (e3_v 0) e3_int)) (e3_ix (e3_v 0) e3_int)) e3_int)))
theorem d_folded {f : Addr} (F_sum_of_ends : Fn3 P w K mg base "sum_of_ends" 1 ["pairing"] sp_sum_of_ends) (cdv : Value) (A : Around) (outer : List Env) (s : Shared) (H : Hp) (E : XK) (hr : Room 1 (A.deeper (envOfC "folded" (defScope s_folded) s.heap.objs.size f cdv))) :
    PCs3 (cxOf CX0 P w K mg base N_folded "folded" (defScope s_folded) f cdv A outer s H E).nox (defBody s_folded) t_folded :=
  (cs3_cons (c3_set 1 sc_folded.nd (e3_ix (e3_v 0) e3_int))
    (cs3_cons (c3_set 2 sc_folded.nd (e3_call F_sum_of_ends hr (a3_cons (e3_v 0) a3_nil)))
    (cs3_cons (c3_set 3 sc_folded.nd (e3_op o_sub (e3_op o_div (e3_op o_add (e3_v 2) e3_int) e3_int) (e3_v 1)))
    (cs3_one (c3_ret (e3_tup (a3_cons (e3_v 1) (a3_cons (e3_op o_sub (e3_op o_sub (e3_op o_add (e3_v 2) e3_int) (e3_v 1)) (e3_v 3)) (a3_cons (e3_v 3) (a3_cons e3_bl a3_nil))))))))))
theorem d_shift_of {f : Addr} (cdv : Value) (A : Around) (outer : List Env) (s : Shared) (H : Hp) (E : XK) (hr : Room 0 (A.deeper (envOfC "shift_of" (defScope s_shift_of) s.heap.objs.size f cdv))) :
    PCs3 (cxOf CX0 P w K mg base N_shift_of "shift_of" (defScope s_shift_of) f cdv A outer s H E).nox (defBody s_shift_of) t_shift_of :=
  (cs3_one (c3_ret (e3_op o_sub (e3_ix (e3_v 0) e3_int) (e3_ix (e3_v 0) e3_int))))
theorem d_reach_end {f : Addr} (cdv : Value) (A : Around) (outer : List Env) (s : Shared) (H : Hp) (E : XK) (hr : Room 0 (A.deeper (envOfC "reach_end" (defScope s_reach_end) s.heap.objs.size f cdv))) :
    PCs3 (cxOf CX0 P w K mg base N_reach_end "reach_end" (defScope s_reach_end) f cdv A outer s H E).nox (defBody s_reach_end) t_reach_end :=
  (cs3_one (c3_ret (e3_op o_add (e3_ix (e3_v 0) e3_int) (e3_ix (e3_v 0) e3_int))))
theorem d_common_part {f : Addr} (cdv : Value) (A : Around) (outer : List Env) (s : Shared) (H : Hp) (E : XK) (hr : Room 0 (A.deeper (envOfC "common_part" (defScope s_common_part) s.heap.objs.size f cdv))) :
    PCs3 (cxOf CX0 P w K mg base N_common_part "common_part" (defScope s_common_part) f cdv A outer s H E).nox (defBody s_common_part) t_common_part :=
  (cs3_cons (c3_while PassesOwn.never (b3_cmp (o_ne hr.units) (e3_v 1) e3_int) (show PCs3 _ _ b_common_part_1 from (cs3_one (c3_par 0 1 rfl sc_common_part.nd (a3_cons (e3_v 1) (a3_cons (e3_op o_mod (e3_v 0) (e3_v 1)) a3_nil))))))
    (cs3_one (c3_ret (e3_v 0))))
theorem d_can_join {f : Addr} (m_min : mg "min" = none) (m_max : mg "max" = none) (F_is_turn : Fn3 P w K mg base "is_turn" 1 ["pairing"] sp_is_turn) (F_reach_end : Fn3 P w K mg base "reach_end" 1 ["pairing"] sp_reach_end) (F_shift_of : Fn3 P w K mg base "shift_of" 1 ["pairing"] sp_shift_of) (cdv : Value) (A : Around) (outer : List Env) (s : Shared) (H : Hp) (E : XK) (hr : Room 1 (A.deeper (envOfC "can_join" (defScope s_can_join) s.heap.objs.size f cdv))) :
    PCs3 (cxOf CX0 P w K mg base N_can_join "can_join" (defScope s_can_join) f cdv A outer s H E).nox (defBody s_can_join) t_can_join :=
  (cs3_cons (c3_if (PW3.to (w3_or (b3_not (b3_val (e3_call F_is_turn hr (a3_cons (e3_v 0) a3_nil)))) (w3_or1 (b3_not (b3_val (e3_call F_is_turn hr (a3_cons (e3_v 1) a3_nil))))))) (cs3_one (c3_ret e3_bl)) cs3_nil)
    (show PCs3 _ _ r_can_join_1 from (cs3_cons (c3_set 2 sc_can_join.nd (e3_op o_sub (e3_cb (k_min rfl) m_min (a3_cons (e3_call F_reach_end hr (a3_cons (e3_v 0) a3_nil)) (a3_cons (e3_call F_reach_end hr (a3_cons (e3_v 1) a3_nil)) a3_nil))) (e3_cb (k_max rfl) m_max (a3_cons (e3_ix (e3_v 0) e3_int) (a3_cons (e3_ix (e3_v 1) e3_int) a3_nil)))))
    (cs3_one (c3_ret (e3_cmp o_ge (e3_v 2) (e3_op o_add (e3_call F_shift_of hr (a3_cons (e3_v 0) a3_nil)) (e3_call F_shift_of hr (a3_cons (e3_v 1) a3_nil)))))))))
theorem d_joined {f : Addr} (m_min : mg "min" = none) (m_max : mg "max" = none) (F_common_part : Fn3 P w K mg base "common_part" 1 ["one", "other"] sp_common_part) (F_shift_of : Fn3 P w K mg base "shift_of" 1 ["pairing"] sp_shift_of) (F_reach_end : Fn3 P w K mg base "reach_end" 1 ["pairing"] sp_reach_end) (cdv : Value) (A : Around) (outer : List Env) (s : Shared) (H : Hp) (E : XK) (hr : Room 1 (A.deeper (envOfC "joined" (defScope s_joined) s.heap.objs.size f cdv))) :
    PCs3 (cxOf CX0 P w K mg base N_joined "joined" (defScope s_joined) f cdv A outer s H E).nox (defBody s_joined) t_joined :=
  (cs3_cons (c3_set 2 sc_joined.nd (e3_cb (k_min rfl) m_min (a3_cons (e3_ix (e3_v 0) e3_int) (a3_cons (e3_ix (e3_v 1) e3_int) a3_nil))))
    (cs3_cons (c3_set 3 sc_joined.nd (e3_call F_common_part hr (a3_cons (e3_call F_shift_of hr (a3_cons (e3_v 0) a3_nil)) (a3_cons (e3_call F_shift_of hr (a3_cons (e3_v 1) a3_nil)) a3_nil))))
    (cs3_one (c3_ret (e3_tup (a3_cons (e3_v 2) (a3_cons (e3_op o_add (e3_v 2) (e3_v 3)) (a3_cons (e3_op o_sub (e3_op o_sub (e3_cb (k_max rfl) m_max (a3_cons (e3_call F_reach_end hr (a3_cons (e3_v 0) a3_nil)) (a3_cons (e3_call F_reach_end hr (a3_cons (e3_v 1) a3_nil)) a3_nil))) (e3_v 2)) (e3_v 3)) (a3_cons e3_bl a3_nil)))))))))
theorem d_is_within {f : Addr} (F_reach_end : Fn3 P w K mg base "reach_end" 1 ["pairing"] sp_reach_end) (cdv : Value) (A : Around) (outer : List Env) (s : Shared) (H : Hp) (E : XK) (hr : Room 1 (A.deeper (envOfC "is_within" (defScope s_is_within) s.heap.objs.size f cdv))) :
    PCs3 (cxOf CX0 P w K mg base N_is_within "is_within" (defScope s_is_within) f cdv A outer s H E).nox (defBody s_is_within) t_is_within :=
  (cs3_one (c3_ret (e3_and (e3_cmp o_le (e3_ix (e3_v 0) e3_int) (e3_v 1)) (e3_one (e3_cmp o_le (e3_op o_add (e3_v 1) (e3_v 2)) (e3_call F_reach_end hr (a3_cons (e3_v 0) a3_nil)))))))
theorem d_led_back {f : Addr} (F_sum_of_ends : Fn3 P w K mg base "sum_of_ends" 1 ["pairing"] sp_sum_of_ends) (F_shift_of : Fn3 P w K mg base "shift_of" 1 ["pairing"] sp_shift_of) (cdv : Value) (A : Around) (outer : List Env) (s : Shared) (H : Hp) (E : XK) (hr : Room 1 (A.deeper (envOfC "led_back" (defScope s_led_back) s.heap.objs.size f cdv))) :
    PCs3 (cxOf CX0 P w K mg base N_led_back "led_back" (defScope s_led_back) f cdv A outer s H E).nox (defBody s_led_back) t_led_back :=
  (cs3_cons (c3_if (b3_val (e3_ix (e3_v 0) e3_int)) (cs3_one (c3_ret (e3_op o_add (e3_op o_sub (e3_op o_sub (e3_call F_sum_of_ends hr (a3_cons (e3_v 0) a3_nil)) (e3_v 1)) (e3_v 2)) e3_int))) cs3_nil)
    (show PCs3 _ _ r_led_back_1 from (cs3_cons (c3_set 3 sc_led_back.nd (e3_call F_shift_of hr (a3_cons (e3_v 0) a3_nil)))
    (cs3_one (c3_ret (e3_op o_sub (e3_v 1) (e3_op o_mul (e3_op o_div (e3_op o_sub (e3_v 1) (e3_ix (e3_v 0) e3_int)) (e3_v 3)) (e3_v 3))))))))
theorem d_carried {f : Addr} (F_paired : Fn3 P w K mg base "paired" 1 ["one", "other", "long", "turned"] sp_paired) (F_led_back : Fn3 P w K mg base "led_back" 2 ["lead", "begin", "long"] sp_led_back) (cdv : Value) (A : Around) (outer : List Env) (s : Shared) (H : Hp) (E : XK) (hr : Room 2 (A.deeper (envOfC "carried" (defScope s_carried) s.heap.objs.size f cdv))) :
    PCs3 (cxOf CX0 P w K mg base N_carried "carried" (defScope s_carried) f cdv A outer s H E).nox (defBody s_carried) t_carried :=
  (cs3_cons (c3_asg (e3_v 1) (g3_tup rfl (gs3_cons (g3_n 3 sc_carried.nd) (gs3_cons (g3_n 4 sc_carried.nd) (gs3_cons (g3_n 5 sc_carried.nd) (gs3_cons (g3_n 6 sc_carried.nd) gs3_nil))))))
    (cs3_cons (c3_set 6 sc_carried.nd (e3_cmp (o_ne hr.units) (e3_v 6) (e3_ix (e3_v 0) e3_int)))
    (cs3_cons (c3_if (b3_cmp (o_eq hr.units) (e3_v 2) e3_str) (cs3_one (c3_ret (e3_call F_paired hr (a3_cons (e3_call F_led_back hr (a3_cons (e3_v 0) (a3_cons (e3_v 3) (a3_cons (e3_v 5) a3_nil)))) (a3_cons (e3_v 4) (a3_cons (e3_v 5) (a3_cons (e3_v 6) a3_nil))))))) cs3_nil)
    (show PCs3 _ _ r_carried_1 from (cs3_one (c3_ret (e3_call F_paired hr (a3_cons (e3_v 3) (a3_cons (e3_call F_led_back hr (a3_cons (e3_v 0) (a3_cons (e3_v 4) (a3_cons (e3_v 5) a3_nil)))) (a3_cons (e3_v 5) (a3_cons (e3_v 6) a3_nil)))))))))))
theorem d_without {f : Addr} (cdv : Value) (A : Around) (outer : List Env) (s : Shared) (H : Hp) (E : XK) (hr : Room 0 (A.deeper (envOfC "without" (defScope s_without) s.heap.objs.size f cdv))) :
    PCs3 (cxOf CX0 P w K mg base N_without "without" (defScope s_without) f cdv A outer s H E).nox (defBody s_without) t_without :=
  (cs3_one (c3_ret (e3_op o_add (e3_sl (e3_v 0) o3_no (o3_so (e3_v 1))) (e3_sl (e3_v 0) (o3_so (e3_op o_add (e3_v 1) e3_int)) o3_no))))
theorem d_instead {f : Addr} (cdv : Value) (A : Around) (outer : List Env) (s : Shared) (H : Hp) (E : XK) (hr : Room 0 (A.deeper (envOfC "instead" (defScope s_instead) s.heap.objs.size f cdv))) :
    PCs3 (cxOf CX0 P w K mg base N_instead "instead" (defScope s_instead) f cdv A outer s H E).nox (defBody s_instead) t_instead :=
  (cs3_one (c3_ret (e3_op o_add (e3_op o_add (e3_sl (e3_v 0) o3_no (o3_so (e3_v 1))) (e3_v 2)) (e3_sl (e3_v 0) (o3_so (e3_op o_add (e3_v 1) e3_int)) o3_no))))
theorem d_is_number {f : Addr} (m_int : mg "int" = none) (m_isinstance : mg "isinstance" = none) (m_bool : mg "bool" = none) (m_len : mg "len" = none) (cdv : Value) (A : Around) (outer : List Env) (s : Shared) (H : Hp) (E : XK) (hr : Room 0 (A.deeper (envOfC "is_number" (defScope s_is_number) s.heap.objs.size f cdv))) :
    PCs3 (cxOf CX0 P w K mg base N_is_number "is_number" (defScope s_is_number) f cdv A outer s H E).nox (defBody s_is_number) t_is_number :=
  (cs3_one (c3_ret (e3_and (e3_cb k_isi m_isinstance (a3_cons (e3_v 1) (a3_cons (e3_ty rfl m_int (by decide +kernel)) a3_nil))) (e3_and (e3_not (e3_cb k_isi m_isinstance (a3_cons (e3_v 1) (a3_cons (e3_ty rfl m_bool (by decide +kernel)) a3_nil)))) (e3_one (e3_chain o_le o_lt e3_int (e3_v 1) (e3_cb k_len m_len (a3_cons (e3_ix (e3_v 0) e3_int) a3_nil))))))))
theorem d_is_end {f : Addr} (m_int : mg "int" = none) (m_isinstance : mg "isinstance" = none) (m_bool : mg "bool" = none) (cdv : Value) (A : Around) (outer : List Env) (s : Shared) (H : Hp) (E : XK) (hr : Room 0 (A.deeper (envOfC "is_end" (defScope s_is_end) s.heap.objs.size f cdv))) :
    PCs3 (cxOf CX0 P w K mg base N_is_end "is_end" (defScope s_is_end) f cdv A outer s H E).nox (defBody s_is_end) t_is_end :=
  (cs3_one (c3_ret (e3_and (e3_cb k_isi m_isinstance (a3_cons (e3_v 1) (a3_cons (e3_ty rfl m_int (by decide +kernel)) a3_nil))) (e3_and (e3_not (e3_cb k_isi m_isinstance (a3_cons (e3_v 1) (a3_cons (e3_ty rfl m_bool (by decide +kernel)) a3_nil)))) (e3_one (e3_chain o_le o_lt e3_int (e3_v 1) (e3_ix (e3_v 0) e3_int)))))))
theorem d_ends_by {f : Addr} (m_all : mg "all" = none) (F_reach_end : Fn3 P w K mg base "reach_end" 1 ["pairing"] sp_reach_end) (cdv : Value) (A : Around) (outer : List Env) (s : Shared) (H : Hp) (E : XK) (hr : Room 1 (A.deeper (envOfC "ends_by" (defScope s_ends_by) s.heap.objs.size f cdv))) :
    PCs3 (cxOf CX0 P w K mg base N_ends_by "ends_by" (defScope s_ends_by) f cdv A outer s H E).nox (defBody s_ends_by) t_ends_by :=
  (cs3_one (c3_ret (e3_cbx (kx_all rfl) m_all (x3_lc (own := [("pairing", 2)]) rfl sc_ends_by.nd (i3_seq (e3_v 0)) (blkOk_by (own := [("pairing", 2)]) (N := N_ends_by) (sc := defScope s_ends_by) (by decide +kernel)) cg_n gm_n (fun _ _ _ _ _ => (pg_name (i := 2) sc_ends_by.nd rfl (Or.inl rfl))) (fun _ _ _ _ _ => pts3_nil) (fun _ _ _ _ _ => (show PE3 _ _ e_ends_by_1 from (e3_cmp o_le (e3_call F_reach_end hr (a3_cons (e3_v 2) a3_nil)) (e3_v 1))))))))
theorem d_gone_in {f : Addr} (m_len : mg "len" = none) (m_list : mg "list" = none) (F_look : Fn3X P w K mg base bk "look" 1 ["right"] sp_look) (F_is_number : Fn3 P w K mg base "is_number" 1 ["hall", "thing"] sp_is_number) (F_is_still : Fn3 P w K mg base "is_still" 1 ["pairing"] sp_is_still) (F_without : Fn3 P w K mg base "without" 1 ["pairings", "k"] sp_without) (cdv : Value) (A : Around) (outer : List Env) (s : Shared) (H : Hp) (E : XK) (m0 : List Addr) (E4 : X4) (hr : Room 1 (A.deeper (envOfC "gone_in" (defScope s_gone_in) s.heap.objs.size f cdv))) (hE : ∀ c ρ h', E4 c ρ h' → UpW K bk m0 H (fun cls d _ H' => E cls d H') c ρ h') (tk : Takes (cxOf (L2.CX P w) P w K mg base N_gone_in "gone_in" (defScope s_gone_in) f cdv A outer s H E) (fun cls d _ H' => E cls d H')) :
    PCsb (cxOf (L2.CX P w) P w K mg base N_gone_in "gone_in" (defScope s_gone_in) f cdv A outer s H E) m0 H (defBody s_gone_in) (t_gone_in E4) :=
  (csb_cons (PC3.b (c3_asg (e3_v 0) (g3_tup rfl (gs3_cons (g3_n 2 sc_gone_in.nd) (gs3_cons (g3_n 3 sc_gone_in.nd) (gs3_cons (g3_n 4 sc_gone_in.nd) gs3_nil))))))
    (csb_cons (cb_expr (eb_call F_look hr tk hE (a3_cons (e3_and (e3_cmp (o_eq hr.units) (e3_cb k_len m_len (a3_cons (e3_v 1) a3_nil)) e3_int) (e3_and (e3_call F_is_number hr (a3_cons (e3_v 0) (a3_cons (e3_ix (e3_v 1) e3_int) a3_nil))) (e3_one (e3_call F_is_still hr (a3_cons (e3_ix (e3_v 3) (e3_ix (e3_v 1) e3_int)) a3_nil))))) a3_nil)))
    (csb_one (PC3.b (c3_ret (e3_tup (a3_cons (e3_v 2) (a3_cons (e3_call F_without hr (a3_cons (e3_v 3) (a3_cons (e3_ix (e3_v 1) e3_int) a3_nil))) (a3_cons (e3_new (x3_ct kl_list m_list (a3_cons (e3_v 4) a3_nil))) a3_nil)))))))))
theorem d_folded_in {f : Addr} (m_len : mg "len" = none) (m_list : mg "list" = none) (F_look : Fn3X P w K mg base bk "look" 1 ["right"] sp_look) (F_is_number : Fn3 P w K mg base "is_number" 1 ["hall", "thing"] sp_is_number) (F_is_bent : Fn3 P w K mg base "is_bent" 2 ["pairing"] sp_is_bent) (F_instead : Fn3 P w K mg base "instead" 1 ["pairings", "k", "made"] sp_instead) (F_folded : Fn3 P w K mg base "folded" 2 ["pairing"] sp_folded) (cdv : Value) (A : Around) (outer : List Env) (s : Shared) (H : Hp) (E : XK) (m0 : List Addr) (E4 : X4) (hr : Room 2 (A.deeper (envOfC "folded_in" (defScope s_folded_in) s.heap.objs.size f cdv))) (hE : ∀ c ρ h', E4 c ρ h' → UpW K bk m0 H (fun cls d _ H' => E cls d H') c ρ h') (tk : Takes (cxOf (L2.CX P w) P w K mg base N_folded_in "folded_in" (defScope s_folded_in) f cdv A outer s H E) (fun cls d _ H' => E cls d H')) :
    PCsb (cxOf (L2.CX P w) P w K mg base N_folded_in "folded_in" (defScope s_folded_in) f cdv A outer s H E) m0 H (defBody s_folded_in) (t_folded_in E4) :=
  (csb_cons (PC3.b (c3_asg (e3_v 0) (g3_tup rfl (gs3_cons (g3_n 2 sc_folded_in.nd) (gs3_cons (g3_n 3 sc_folded_in.nd) (gs3_cons (g3_n 4 sc_folded_in.nd) gs3_nil))))))
    (csb_cons (cb_expr (eb_call F_look hr tk hE (a3_cons (e3_and (e3_cmp (o_eq hr.units) (e3_cb k_len m_len (a3_cons (e3_v 1) a3_nil)) e3_int) (e3_and (e3_call F_is_number hr (a3_cons (e3_v 0) (a3_cons (e3_ix (e3_v 1) e3_int) a3_nil))) (e3_one (e3_call F_is_bent hr (a3_cons (e3_ix (e3_v 3) (e3_ix (e3_v 1) e3_int)) a3_nil))))) a3_nil)))
    (csb_one (PC3.b (c3_ret (e3_tup (a3_cons (e3_v 2) (a3_cons (e3_call F_instead hr (a3_cons (e3_v 3) (a3_cons (e3_ix (e3_v 1) e3_int) (a3_cons (e3_new (x3_lst (a3_cons (e3_call F_folded hr (a3_cons (e3_ix (e3_v 3) (e3_ix (e3_v 1) e3_int)) a3_nil)) a3_nil))) a3_nil)))) (a3_cons (e3_new (x3_ct kl_list m_list (a3_cons (e3_v 4) a3_nil))) a3_nil)))))))))
theorem d_joined_in {f : Addr} (m_len : mg "len" = none) (m_list : mg "list" = none) (F_look : Fn3X P w K mg base bk "look" 1 ["right"] sp_look) (F_is_number : Fn3 P w K mg base "is_number" 1 ["hall", "thing"] sp_is_number) (F_can_join : Fn3 P w K mg base "can_join" 2 ["one", "other"] sp_can_join) (F_instead : Fn3 P w K mg base "instead" 1 ["pairings", "k", "made"] sp_instead) (F_without : Fn3 P w K mg base "without" 1 ["pairings", "k"] sp_without) (F_joined : Fn3 P w K mg base "joined" 2 ["one", "other"] sp_joined) (cdv : Value) (A : Around) (outer : List Env) (s : Shared) (H : Hp) (E : XK) (m0 : List Addr) (E4 : X4) (hr : Room 2 (A.deeper (envOfC "joined_in" (defScope s_joined_in) s.heap.objs.size f cdv))) (hE : ∀ c ρ h', E4 c ρ h' → UpW K bk m0 H (fun cls d _ H' => E cls d H') c ρ h') (tk : Takes (cxOf (L2.CX P w) P w K mg base N_joined_in "joined_in" (defScope s_joined_in) f cdv A outer s H E) (fun cls d _ H' => E cls d H')) :
    PCsb (cxOf (L2.CX P w) P w K mg base N_joined_in "joined_in" (defScope s_joined_in) f cdv A outer s H E) m0 H (defBody s_joined_in) (t_joined_in E4) :=
  (csb_cons (PC3.b (c3_asg (e3_v 0) (g3_tup rfl (gs3_cons (g3_n 2 sc_joined_in.nd) (gs3_cons (g3_n 3 sc_joined_in.nd) (gs3_cons (g3_n 4 sc_joined_in.nd) gs3_nil))))))
    (csb_cons (cb_expr (eb_call F_look hr tk hE (a3_cons (e3_and (e3_cmp (o_eq hr.units) (e3_cb k_len m_len (a3_cons (e3_v 1) a3_nil)) e3_int) (e3_and (e3_call F_is_number hr (a3_cons (e3_v 0) (a3_cons (e3_ix (e3_v 1) e3_int) a3_nil))) (e3_and (e3_call F_is_number hr (a3_cons (e3_v 0) (a3_cons (e3_ix (e3_v 1) e3_int) a3_nil))) (e3_one (e3_cmp o_lt (e3_ix (e3_v 1) e3_int) (e3_ix (e3_v 1) e3_int)))))) a3_nil)))
    (csb_cons (PC3.b (c3_par 5 6 rfl sc_joined_in.nd (a3_cons (e3_ix (e3_v 3) (e3_ix (e3_v 1) e3_int)) (a3_cons (e3_ix (e3_v 3) (e3_ix (e3_v 1) e3_int)) a3_nil))))
    (csb_cons (cb_expr (eb_call F_look hr tk hE (a3_cons (e3_call F_can_join hr (a3_cons (e3_v 5) (a3_cons (e3_v 6) a3_nil))) a3_nil)))
    (csb_one (PC3.b (c3_ret (e3_tup (a3_cons (e3_v 2) (a3_cons (e3_call F_instead hr (a3_cons (e3_call F_without hr (a3_cons (e3_v 3) (a3_cons (e3_ix (e3_v 1) e3_int) a3_nil))) (a3_cons (e3_ix (e3_v 1) e3_int) (a3_cons (e3_new (x3_lst (a3_cons (e3_call F_joined hr (a3_cons (e3_v 5) (a3_cons (e3_v 6) a3_nil))) a3_nil))) a3_nil)))) (a3_cons (e3_new (x3_ct kl_list m_list (a3_cons (e3_v 4) a3_nil))) a3_nil)))))))))))
theorem d_carried_in {f : Addr} (m_len : mg "len" = none) (m_str : mg "str" = none) (m_isinstance : mg "isinstance" = none) (m_int : mg "int" = none) (m_list : mg "list" = none) (F_look : Fn3X P w K mg base bk "look" 1 ["right"] sp_look) (F_is_number : Fn3 P w K mg base "is_number" 1 ["hall", "thing"] sp_is_number) (F_is_lead : Fn3 P w K mg base "is_lead" 1 ["pairing"] sp_is_lead) (F_is_within : Fn3 P w K mg base "is_within" 2 ["lead", "begin", "long"] sp_is_within) (F_instead : Fn3 P w K mg base "instead" 1 ["pairings", "k", "made"] sp_instead) (F_carried : Fn3 P w K mg base "carried" 3 ["lead", "pairing", "side"] sp_carried) (cdv : Value) (A : Around) (outer : List Env) (s : Shared) (H : Hp) (E : XK) (m0 : List Addr) (E4 : X4) (hr : Room 3 (A.deeper (envOfC "carried_in" (defScope s_carried_in) s.heap.objs.size f cdv))) (hE : ∀ c ρ h', E4 c ρ h' → UpW K bk m0 H (fun cls d _ H' => E cls d H') c ρ h') (tk : Takes (cxOf (L2.CX P w) P w K mg base N_carried_in "carried_in" (defScope s_carried_in) f cdv A outer s H E) (fun cls d _ H' => E cls d H')) :
    PCsb (cxOf (L2.CX P w) P w K mg base N_carried_in "carried_in" (defScope s_carried_in) f cdv A outer s H E) m0 H (defBody s_carried_in) (t_carried_in E4) :=
  (csb_cons (PC3.b (c3_asg (e3_v 0) (g3_tup rfl (gs3_cons (g3_n 2 sc_carried_in.nd) (gs3_cons (g3_n 3 sc_carried_in.nd) (gs3_cons (g3_n 4 sc_carried_in.nd) gs3_nil))))))
    (csb_cons (cb_expr (eb_call F_look hr tk hE (a3_cons (e3_and (e3_cmp (o_eq hr.units) (e3_cb k_len m_len (a3_cons (e3_v 1) a3_nil)) e3_int) (e3_and (e3_call F_is_number hr (a3_cons (e3_v 0) (a3_cons (e3_ix (e3_v 1) e3_int) a3_nil))) (e3_and (e3_call F_is_number hr (a3_cons (e3_v 0) (a3_cons (e3_ix (e3_v 1) e3_int) a3_nil))) (e3_one (e3_cmp (o_ne hr.units) (e3_ix (e3_v 1) e3_int) (e3_ix (e3_v 1) e3_int)))))) a3_nil)))
    (csb_cons (PC3.b (c3_par3 5 6 7 rfl sc_carried_in.nd (a3_cons (e3_ix (e3_v 3) (e3_ix (e3_v 1) e3_int)) (a3_cons (e3_ix (e3_v 3) (e3_ix (e3_v 1) e3_int)) (a3_cons (e3_ix (e3_v 1) e3_int) a3_nil)))))
    (csb_cons (cb_expr (eb_call F_look hr tk hE (a3_cons (e3_and (e3_call F_is_lead hr (a3_cons (e3_v 5) a3_nil)) (e3_and (e3_cb k_isi m_isinstance (a3_cons (e3_v 7) (a3_cons (e3_ty rfl m_str (by decide +kernel)) a3_nil))) (e3_one (e3_cmpx ox_in (e3_v 7) (x3_lst (a3_cons e3_str (a3_cons e3_str a3_nil))))))) a3_nil)))
    (csb_cons (cb_expr (eb_call F_look hr tk hE (a3_cons (e3_call F_is_within hr (a3_cons (e3_v 5) (a3_cons (e3_ix (e3_v 6) (e3_ct k_int m_int (a3_cons (e3_cmp (o_eq hr.units) (e3_v 7) e3_str) a3_nil))) (a3_cons (e3_ix (e3_v 6) e3_int) a3_nil)))) a3_nil)))
    (csb_one (PC3.b (c3_ret (e3_tup (a3_cons (e3_v 2) (a3_cons (e3_call F_instead hr (a3_cons (e3_v 3) (a3_cons (e3_ix (e3_v 1) e3_int) (a3_cons (e3_new (x3_lst (a3_cons (e3_call F_carried hr (a3_cons (e3_v 5) (a3_cons (e3_v 6) (a3_cons (e3_v 7) a3_nil)))) a3_nil))) a3_nil)))) (a3_cons (e3_new (x3_ct kl_list m_list (a3_cons (e3_v 4) a3_nil))) a3_nil))))))))))))
theorem d_cut_in {f : Addr} (m_len : mg "len" = none) (F_look : Fn3X P w K mg base bk "look" 1 ["right"] sp_look) (F_is_number : Fn3 P w K mg base "is_number" 1 ["hall", "thing"] sp_is_number) (F_is_end : Fn3 P w K mg base "is_end" 1 ["hall", "thing"] sp_is_end) (F_is_lead : Fn3 P w K mg base "is_lead" 1 ["pairing"] sp_is_lead) (F_reach_end : Fn3 P w K mg base "reach_end" 1 ["pairing"] sp_reach_end) (F_ends_by : Fn3 P w K mg base "ends_by" 2 ["pairings", "end"] sp_ends_by) (F_without : Fn3 P w K mg base "without" 1 ["pairings", "k"] sp_without) (cdv : Value) (A : Around) (outer : List Env) (s : Shared) (H : Hp) (E : XK) (m0 : List Addr) (E4 : X4) (hr : Room 5 (A.deeper (envOfC "cut_in" (defScope s_cut_in) s.heap.objs.size f cdv))) (hE : ∀ c ρ h', E4 c ρ h' → UpW K bk m0 H (fun cls d _ H' => E cls d H') c ρ h') (tk : Takes (cxOf (L2.CX P w) P w K mg base N_cut_in "cut_in" (defScope s_cut_in) f cdv A outer s H E) (fun cls d _ H' => E cls d H')) :
    PCsb (cxOf (L2.CX P w) P w K mg base N_cut_in "cut_in" (defScope s_cut_in) f cdv A outer s H E) m0 H (defBody s_cut_in) (t_cut_in E4) :=
  (csb_cons (PC3.b (c3_asg (e3_v 0) (g3_tup rfl (gs3_cons (g3_n 2 sc_cut_in.nd) (gs3_cons (g3_n 3 sc_cut_in.nd) (gs3_cons (g3_n 4 sc_cut_in.nd) gs3_nil))))))
    (csb_cons (cb_expr (eb_call F_look hr tk hE (a3_cons (e3_and (e3_cmp (o_eq hr.units) (e3_cb k_len m_len (a3_cons (e3_v 1) a3_nil)) e3_int) (e3_and (e3_call F_is_number hr (a3_cons (e3_v 0) (a3_cons (e3_ix (e3_v 1) e3_int) a3_nil))) (e3_one (e3_call F_is_end hr (a3_cons (e3_v 0) (a3_cons (e3_ix (e3_v 1) e3_int) a3_nil)))))) a3_nil)))
    (csb_cons (PC3.b (c3_par 5 6 rfl sc_cut_in.nd (a3_cons (e3_ix (e3_v 3) (e3_ix (e3_v 1) e3_int)) (a3_cons (e3_ix (e3_v 1) e3_int) a3_nil))))
    (csb_cons (cb_expr (eb_call F_look hr tk hE (a3_cons (e3_and (e3_call F_is_lead hr (a3_cons (e3_v 5) a3_nil)) (e3_and (e3_cmp (o_eq hr.units) (e3_call F_reach_end hr (a3_cons (e3_v 5) a3_nil)) (e3_v 2)) (e3_and (e3_cmp o_le (e3_ix (e3_v 5) e3_int) (e3_v 6)) (e3_one (e3_call F_ends_by hr (a3_cons (e3_call F_without hr (a3_cons (e3_v 3) (a3_cons (e3_ix (e3_v 1) e3_int) a3_nil))) (a3_cons (e3_v 6) a3_nil))))))) a3_nil)))
    (csb_one (PC3.b c3_off))))))
theorem d_freed_in {f : Addr} (m_len : mg "len" = none) (m_list : mg "list" = none) (F_look : Fn3X P w K mg base bk "look" 1 ["right"] sp_look) (F_is_end : Fn3 P w K mg base "is_end" 1 ["hall", "thing"] sp_is_end) (F_ends_by : Fn3 P w K mg base "ends_by" 2 ["pairings", "end"] sp_ends_by) (F_part : Fn3 P w K mg base "part" 1 ["weighing", "begin", "end"] sp_part) (cdv : Value) (A : Around) (outer : List Env) (s : Shared) (H : Hp) (E : XK) (m0 : List Addr) (E4 : X4) (hr : Room 2 (A.deeper (envOfC "freed_in" (defScope s_freed_in) s.heap.objs.size f cdv))) (hE : ∀ c ρ h', E4 c ρ h' → UpW K bk m0 H (fun cls d _ H' => E cls d H') c ρ h') (tk : Takes (cxOf (L2.CX P w) P w K mg base N_freed_in "freed_in" (defScope s_freed_in) f cdv A outer s H E) (fun cls d _ H' => E cls d H')) :
    PCsb (cxOf (L2.CX P w) P w K mg base N_freed_in "freed_in" (defScope s_freed_in) f cdv A outer s H E) m0 H (defBody s_freed_in) (t_freed_in E4) :=
  (csb_cons (PC3.b (c3_asg (e3_v 0) (g3_tup rfl (gs3_cons (g3_n 2 sc_freed_in.nd) (gs3_cons (g3_n 3 sc_freed_in.nd) (gs3_cons (g3_n 4 sc_freed_in.nd) gs3_nil))))))
    (csb_cons (cb_expr (eb_call F_look hr tk hE (a3_cons (e3_and (e3_cmp (o_eq hr.units) (e3_cb k_len m_len (a3_cons (e3_v 1) a3_nil)) e3_int) (e3_and (e3_call F_is_end hr (a3_cons (e3_v 0) (a3_cons (e3_ix (e3_v 1) e3_int) a3_nil))) (e3_one (e3_call F_ends_by hr (a3_cons (e3_v 3) (a3_cons (e3_ix (e3_v 1) e3_int) a3_nil)))))) a3_nil)))
    (csb_one (PC3.b (c3_ret (e3_tup (a3_cons (e3_ix (e3_v 1) e3_int) (a3_cons (e3_new (x3_ct kl_list m_list (a3_cons (e3_v 3) a3_nil))) (a3_cons (e3_call F_part hr (a3_cons (e3_v 4) (a3_cons e3_int (a3_cons (e3_ix (e3_v 1) e3_int) a3_nil)))) a3_nil)))))))))
theorem d_hall_behind {f : Addr} (F_gone_in : Fn3X P w K mg base bk "gone_in" 2 ["hall", "deed"] sp_gone_in) (F_folded_in : Fn3X P w K mg base bk "folded_in" 3 ["hall", "deed"] sp_folded_in) (F_joined_in : Fn3X P w K mg base bk "joined_in" 3 ["hall", "deed"] sp_joined_in) (F_carried_in : Fn3X P w K mg base bk "carried_in" 4 ["hall", "deed"] sp_carried_in) (F_cut_in : Fn3X P w K mg base bk "cut_in" 6 ["hall", "deed"] sp_cut_in) (F_freed_in : Fn3X P w K mg base bk "freed_in" 3 ["hall", "deed"] sp_freed_in) (cdv : Value) (A : Around) (outer : List Env) (s : Shared) (H : Hp) (E : XK) (m0 : List Addr) (E4 : X4) (hr : Room 6 (A.deeper (envOfC "hall_behind" (defScope s_hall_behind) s.heap.objs.size f cdv))) (hE : ∀ c ρ h', E4 c ρ h' → UpW K bk m0 H (fun cls d _ H' => E cls d H') c ρ h') (tk : Takes (cxOf (L2.CX P w) P w K mg base N_hall_behind "hall_behind" (defScope s_hall_behind) f cdv A outer s H E) (fun cls d _ H' => E cls d H')) :
    PCsb (cxOf (L2.CX P w) P w K mg base N_hall_behind "hall_behind" (defScope s_hall_behind) f cdv A outer s H E) m0 H (defBody s_hall_behind) (t_hall_behind E4) :=
  (csb_cons (cb_if (b3_cmp (o_eq hr.units) (e3_ix (e3_v 1) e3_int) e3_str) (csb_one (cb_ret (eb_call F_gone_in hr tk hE (a3_cons (e3_v 0) (a3_cons (e3_v 1) a3_nil))))) (PCs3.b cs3_nil))
    (show PCsb _ _ _ _ (r_hall_behind_1 E4) from (csb_cons (cb_if (b3_cmp (o_eq hr.units) (e3_ix (e3_v 1) e3_int) e3_str) (csb_one (cb_ret (eb_call F_folded_in hr tk hE (a3_cons (e3_v 0) (a3_cons (e3_v 1) a3_nil))))) (PCs3.b cs3_nil))
    (show PCsb _ _ _ _ (r_hall_behind_2 E4) from (csb_cons (cb_if (b3_cmp (o_eq hr.units) (e3_ix (e3_v 1) e3_int) e3_str) (csb_one (cb_ret (eb_call F_joined_in hr tk hE (a3_cons (e3_v 0) (a3_cons (e3_v 1) a3_nil))))) (PCs3.b cs3_nil))
    (show PCsb _ _ _ _ (r_hall_behind_3 E4) from (csb_cons (cb_if (b3_cmp (o_eq hr.units) (e3_ix (e3_v 1) e3_int) e3_str) (csb_one (cb_ret (eb_call F_carried_in hr tk hE (a3_cons (e3_v 0) (a3_cons (e3_v 1) a3_nil))))) (PCs3.b cs3_nil))
    (show PCsb _ _ _ _ (r_hall_behind_4 E4) from (csb_cons (cb_if (b3_cmp (o_eq hr.units) (e3_ix (e3_v 1) e3_int) e3_str) (csb_one (cb_ret (eb_call F_cut_in hr tk hE (a3_cons (e3_v 0) (a3_cons (e3_v 1) a3_nil))))) (PCs3.b cs3_nil))
    (show PCsb _ _ _ _ (r_hall_behind_5 E4) from (csb_one (cb_ret (eb_call F_freed_in hr tk hE (a3_cons (e3_v 0) (a3_cons (e3_v 1) a3_nil)))))))))))))))
theorem d_deed_done {f : Addr} (m_tuple : mg "tuple" = none) (m_isinstance : mg "isinstance" = none) (m_str : mg "str" = none) (F_look : Fn3X P w K mg base bk "look" 1 ["right"] sp_look) (F_hall_behind : Fn3X P w K mg base bk "hall_behind" 7 ["hall", "deed"] sp_hall_behind) (F_sorts : Fn3 P w K mg base "sorts" 1 ["weighing"] sp_sorts) (F_part : Fn3 P w K mg base "part" 1 ["weighing", "begin", "end"] sp_part) (cdv : Value) (A : Around) (outer : List Env) (s : Shared) (H : Hp) (E : XK) (m0 : List Addr) (E4 : X4) (hr : Room 7 (A.deeper (envOfC "deed_done" (defScope s_deed_done) s.heap.objs.size f cdv))) (hE : ∀ c ρ h', E4 c ρ h' → UpW K bk m0 H (fun cls d _ H' => E cls d H') c ρ h') (tk : Takes (cxOf (L2.CX P w) P w K mg base N_deed_done "deed_done" (defScope s_deed_done) f cdv A outer s H E) (fun cls d _ H' => E cls d H')) :
    PCsb (cxOf (L2.CX P w) P w K mg base N_deed_done "deed_done" (defScope s_deed_done) f cdv A outer s H E) m0 H (defBody s_deed_done) (t_deed_done E4) :=
  (csb_cons (cb_expr (eb_call F_look hr tk hE (a3_cons (e3_and (e3_cb k_isi m_isinstance (a3_cons (e3_v 1) (a3_cons (e3_ty rfl m_tuple (by decide +kernel)) a3_nil))) (e3_and (e3_cmp (o_ne hr.units) (e3_v 1) (e3_tup a3_nil)) (e3_one (e3_cb k_isi m_isinstance (a3_cons (e3_ix (e3_v 1) e3_int) (a3_cons (e3_ty rfl m_str (by decide +kernel)) a3_nil)))))) a3_nil)))
    (csb_cons (cb_expr (eb_call F_look hr tk hE (a3_cons (e3_cmpx ox_in (e3_ix (e3_v 1) e3_int) (x3_lst (a3_cons e3_str (a3_cons e3_str (a3_cons e3_str (a3_cons e3_str (a3_cons e3_str (a3_cons e3_str a3_nil)))))))) a3_nil)))
    (csb_cons (cb_set 2 sc_deed_done.nd (eb_call F_hall_behind hr tk hE (a3_cons (e3_v 0) (a3_cons (e3_v 1) a3_nil))))
    (csb_cons (PC3.b (c3_if (b3_cmp (o_eq hr.units) (e3_ix (e3_v 1) e3_int) e3_str) (cs3_one (c3_ret (e3_tup (a3_cons (e3_v 2) (a3_cons (e3_call F_sorts hr (a3_cons (e3_call F_part hr (a3_cons (e3_ix (e3_v 0) e3_int) (a3_cons (e3_ix (e3_v 1) e3_int) (a3_cons (e3_ix (e3_v 0) e3_int) a3_nil)))) a3_nil)) a3_nil))))) cs3_nil))
    (show PCsb _ _ _ _ (r_deed_done_1 E4) from (csb_one (PC3.b (c3_ret (e3_tup (a3_cons (e3_v 2) (a3_cons (e3_new (x3_lst a3_nil)) a3_nil)))))))))))
theorem d_dcell {f : Addr} (m_len : mg "len" = none) (cdv : Value) (A : Around) (outer : List Env) (s : Shared) (H : Hp) (E : XK) (hr : Room 0 (A.deeper (envOfC "_law_cell_at" (defScope s_dcell) s.heap.objs.size f cdv))) :
    PCs3 (cxOf CX0 P w K mg base N_dcell "_law_cell_at" (defScope s_dcell) f cdv A outer s H E).nox (defBody s_dcell) t_dcell :=
  (cs3_cons (c3_if (b3_cmp o_lt (e3_v 1) (e3_cb k_len m_len (a3_cons (e3_v 0) a3_nil))) (cs3_one (c3_ret (e3_ix (e3_v 0) (e3_v 1)))) cs3_nil)
    (cs3_one (c3_ret e3_int)))
theorem d_big {f : Addr} (m_abs : mg "abs" = none) (m_range : mg "range" = none) (F_dcell : Fn3 P w K mg base "_law_cell_at" 1 ["_law_script", "_law_k"] sp_dcell) (cdv : Value) (A : Around) (outer : List Env) (s : Shared) (H : Hp) (E : XK) (hr : Room 1 (A.deeper (envOfC "_law_big" (defScope s_big) s.heap.objs.size f cdv))) :
    PCs3 (cxOf CX0 P w K mg base N_big "_law_big" (defScope s_big) f cdv A outer s H E).nox (defBody s_big) t_big :=
  (cs3_cons (c3_if (b3_cmp o_ge (e3_cb k_abs m_abs (a3_cons (e3_call F_dcell hr (a3_cons (e3_v 0) (a3_cons (e3_v 1) a3_nil))) a3_nil)) (e3_op o_pow e3_int e3_int)) (cs3_one (c3_ret (e3_op o_sub (e3_cb k_abs m_abs (a3_cons (e3_call F_dcell hr (a3_cons (e3_v 0) (a3_cons (e3_v 1) a3_nil))) a3_nil)) (e3_op o_pow e3_int e3_int)))) cs3_nil)
    (show PCs3 _ _ r_big_1 from (cs3_cons (c3_set 2 sc_big.nd (e3_op o_add (e3_op o_add (e3_op o_add (e3_op o_mod (e3_call F_dcell hr (a3_cons (e3_v 0) (a3_cons e3_int a3_nil))) e3_int) (e3_op o_mul e3_int (e3_v 1))) (e3_op o_mul e3_int (e3_call F_dcell hr (a3_cons (e3_v 0) (a3_cons (e3_v 1) a3_nil))))) e3_int))
    (cs3_cons (c3_set 2 sc_big.nd (e3_op o_add (e3_op o_mod (e3_v 2) e3_int) e3_int))
    (cs3_cons (c3_set 3 sc_big.nd e3_int)
    (cs3_cons (c3_for PassesOwn.never rfl (i3_range1 rfl m_range (a3_cons e3_int a3_nil)) (g3_n 4 sc_big.nd) (show PCs3 _ _ b_big_1 from (cs3_cons (c3_set 2 sc_big.nd (e3_op o_mod (e3_op o_add (e3_op o_add (e3_op o_add (e3_op o_mul (e3_v 2) e3_int) (e3_op o_div (e3_v 2) e3_int)) (e3_op o_mul (e3_op o_mul e3_int (e3_v 4)) (e3_v 4))) (e3_v 1)) e3_int))
    (cs3_one (c3_set 3 sc_big.nd (e3_op o_add (e3_op o_mul (e3_v 3) e3_int) (e3_op o_mod (e3_op o_mul (e3_v 2) e3_int) e3_int)))))))
    (cs3_one (c3_ret (e3_v 3)))))))))
theorem d_btake {f : Addr} (cdv : Value) (A : Around) (outer : List Env) (s : Shared) (H : Hp) (E : XK) (hr : Room 0 (A.deeper (envOfC "_law_take" (defScope s_btake) s.heap.objs.size f cdv))) :
    PCs3 (cxOf CX0 P w K mg base N_btake "_law_take" (defScope s_btake) f cdv A outer s H E).nox (defBody s_btake) t_btake :=
  (cs3_cons (c3_set 2 sc_btake.nd (e3_op o_mod (e3_ix (e3_v 0) e3_int) (e3_v 1)))
    (cs3_cons (c3_asg (e3_op o_div (e3_ix (e3_v 0) e3_int) (e3_v 1)) (g3_sub (e3_v 0) e3_int))
    (cs3_one (c3_ret (e3_v 2)))))
theorem d_bweighing {f : Addr} (m_range : mg "range" = none) (m_tuple : mg "tuple" = none) (F_btake : Fn3 P w K mg base "_law_take" 1 ["_law_bag", "_law_many"] sp_btake) (F_big : Fn3 P w K mg base "_law_big" 2 ["_law_script", "_law_k"] sp_big) (cdv : Value) (A : Around) (outer : List Env) (s : Shared) (H : Hp) (E : XK) (hr : Room 2 (A.deeper (envOfC "_law_weighing" (defScope s_bweighing) s.heap.objs.size f cdv))) :
    PCs3 (cxOf CX0 P w K mg base N_bweighing "_law_weighing" (defScope s_bweighing) f cdv A outer s H E).nox (defBody s_bweighing) t_bweighing :=
  (cs3_cons (c3_set 4 sc_bweighing.nd (e3_new (x3_lst (a3_cons (e3_v 1) a3_nil))))
    (cs3_cons (c3_set 5 sc_bweighing.nd (e3_ixx (x3_lst (a3_cons e3_int (a3_cons e3_int (a3_cons e3_int (a3_cons e3_int (a3_cons e3_int (a3_cons e3_int (a3_cons e3_int (a3_cons e3_int a3_nil))))))))) (e3_call F_btake hr (a3_cons (e3_v 4) (a3_cons e3_int a3_nil)))))
    (cs3_cons (c3_set 6 sc_bweighing.nd (e3_ixx (x3_lst (a3_cons e3_int (a3_cons e3_int (a3_cons e3_int (a3_cons (e3_op o_pow e3_int e3_int) a3_nil))))) (e3_call F_btake hr (a3_cons (e3_v 4) (a3_cons e3_int a3_nil)))))
    (cs3_cons (c3_set 7 sc_bweighing.nd (e3_new (x3_lst (a3_cons (e3_tup (a3_cons (e3_v 0) (a3_cons (e3_ctx kx_tuple m_tuple (x3_lc (own := [("_law_j", 13)]) rfl sc_bweighing.nd (i3_range1 rfl m_range (a3_cons (e3_v 5) a3_nil)) (blkOk_by (own := [("_law_j", 13)]) (N := N_bweighing) (sc := defScope s_bweighing) (by decide +kernel)) cg_n gm_n (fun _ _ _ _ _ => (pg_name (i := 13) sc_bweighing.nd rfl (Or.inl rfl))) (fun _ _ _ _ _ => pts3_nil) (fun _ _ _ _ _ => (show PE3 _ _ e_bweighing_1 from e3_int)))) a3_nil))) a3_nil))))
    (cs3_cons (c3_for PassesOwn.never rfl (i3_range1 rfl m_range (a3_cons (e3_call F_btake hr (a3_cons (e3_v 4) (a3_cons e3_int a3_nil))) a3_nil)) (g3_n 8 sc_bweighing.nd) (show PCs3 _ _ b_bweighing_1 from (cs3_cons (c3_set 9 sc_bweighing.nd (e3_new (x3_lst (a3_cons (e3_call F_big hr (a3_cons (e3_v 2) (a3_cons (e3_op o_add (e3_v 3) (e3_v 8)) a3_nil))) a3_nil))))
    (cs3_cons (c3_set 10 sc_bweighing.nd (e3_ctx kx_tuple m_tuple (x3_lc (own := [("_law_j", 13)]) rfl sc_bweighing.nd (i3_range1 rfl m_range (a3_cons (e3_v 5) a3_nil)) (blkOk_by (own := [("_law_j", 13)]) (N := N_bweighing) (sc := defScope s_bweighing) (by decide +kernel)) cg_n gm_n (fun _ _ _ _ _ => (pg_name (i := 13) sc_bweighing.nd rfl (Or.inl rfl))) (fun _ _ _ _ _ => pts3_nil) (fun _ _ _ _ _ => (show PE3 _ _ e_bweighing_2 from (e3_op o_sub (e3_call F_btake hr (a3_cons (e3_v 9) (a3_cons (e3_v 6) a3_nil))) (e3_op o_div (e3_v 6) e3_int)))))))
    (cs3_cons (c3_set 11 sc_bweighing.nd (e3_call F_btake hr (a3_cons (e3_v 9) (a3_cons (e3_op o_add (e3_ix (e3_ix (e3_v 7) (e3_un o_neg e3_int)) e3_int) e3_int) a3_nil))))
    (cs3_one (c3_set 7 sc_bweighing.nd (e3_op o_add (e3_sl (e3_v 7) o3_no (o3_so (e3_un o_neg e3_int))) (e3_new (x3_lst (a3_cons (e3_tup (a3_cons (e3_v 11) (a3_cons (e3_v 10) a3_nil))) (a3_cons (e3_tup (a3_cons (e3_op o_sub (e3_ix (e3_ix (e3_v 7) (e3_un o_neg e3_int)) e3_int) (e3_v 11)) (a3_cons (e3_ix (e3_ix (e3_v 7) (e3_un o_neg e3_int)) e3_int) a3_nil))) a3_nil))))))))))))
    (cs3_cons (c3_set 12 sc_bweighing.nd (e3_new (x3_lst a3_nil)))
    (cs3_cons (c3_for PassesOwn.never rfl (i3_seq (e3_v 7)) (g3_tup rfl (gs3_cons (g3_n 11 sc_bweighing.nd) (gs3_cons (g3_n 10 sc_bweighing.nd) gs3_nil))) (show PCs3 _ _ b_bweighing_2 from (cs3_one (c3_if (PW3.to (w3_and (b3_cmp o_gt (e3_v 11) e3_int) (w3_and (b3_cmpx (ox_ne hr.units) (e3_v 12) (x3_lst a3_nil)) (w3_and1 (b3_cmp (o_eq hr.units) (e3_ix (e3_ix (e3_v 12) (e3_un o_neg e3_int)) e3_int) (e3_v 10)))))) (cs3_one (c3_asg (e3_tup (a3_cons (e3_op o_add (e3_ix (e3_ix (e3_v 12) (e3_un o_neg e3_int)) e3_int) (e3_v 11)) (a3_cons (e3_v 10) a3_nil))) (g3_sub (e3_v 12) (e3_un o_neg e3_int)))) (cs3_one (c3_if (b3_cmp o_gt (e3_v 11) e3_int) (cs3_one (c3_expr (e3_lm m_append PySem.F.slot_list_append PySem.F.type_list_append (e3_v 12) (a3_cons (e3_tup (a3_cons (e3_v 11) (a3_cons (e3_v 10) a3_nil))) a3_nil)))) cs3_nil))))))
    (cs3_one (c3_ret (e3_v 12))))))))))
theorem d_bpairing {f : Addr} (m_max : mg "max" = none) (m_min : mg "min" = none) (F_btake : Fn3 P w K mg base "_law_take" 1 ["_law_bag", "_law_many"] sp_btake) (F_big : Fn3 P w K mg base "_law_big" 2 ["_law_script", "_law_k"] sp_big) (cdv : Value) (A : Around) (outer : List Env) (s : Shared) (H : Hp) (E : XK) (hr : Room 2 (A.deeper (envOfC "_law_pairing" (defScope s_bpairing) s.heap.objs.size f cdv))) :
    PCs3 (cxOf CX0 P w K mg base N_bpairing "_law_pairing" (defScope s_bpairing) f cdv A outer s H E).nox (defBody s_bpairing) t_bpairing :=
  (cs3_cons (c3_set 4 sc_bpairing.nd (e3_new (x3_lst (a3_cons (e3_v 1) a3_nil))))
    (cs3_cons (c3_set 5 sc_bpairing.nd (e3_call F_btake hr (a3_cons (e3_v 4) (a3_cons e3_int a3_nil))))
    (cs3_cons (c3_set 6 sc_bpairing.nd (e3_op o_add e3_int (e3_op o_mod (e3_call F_big hr (a3_cons (e3_v 2) (a3_cons (e3_v 3) a3_nil))) (e3_ixx (x3_lst (a3_cons (e3_v 0) (a3_cons (e3_v 0) (a3_cons (e3_v 0) (a3_cons (e3_cb (k_max rfl) m_max (a3_cons e3_int (a3_cons (e3_op o_div (e3_v 0) e3_int) a3_nil))) (a3_cons (e3_cb (k_max rfl) m_max (a3_cons e3_int (a3_cons (e3_op o_div (e3_v 0) e3_int) a3_nil))) (a3_cons (e3_cb (k_min rfl) m_min (a3_cons (e3_v 0) (a3_cons e3_int a3_nil))) (a3_cons (e3_v 0) (a3_cons (e3_cb (k_min rfl) m_min (a3_cons (e3_v 0) (a3_cons e3_int a3_nil))) a3_nil))))))))) (e3_v 5)))))
    (cs3_cons (c3_set 7 sc_bpairing.nd (e3_op o_mod (e3_call F_big hr (a3_cons (e3_v 2) (a3_cons (e3_op o_add (e3_v 3) e3_int) a3_nil))) (e3_op o_add (e3_op o_sub (e3_v 0) (e3_v 6)) e3_int)))
    (cs3_cons (c3_set 8 sc_bpairing.nd (e3_op o_mod (e3_call F_big hr (a3_cons (e3_v 2) (a3_cons (e3_op o_add (e3_v 3) e3_int) a3_nil))) (e3_op o_add (e3_op o_sub (e3_v 0) (e3_v 6)) e3_int)))
    (cs3_cons (c3_if (PW3.to (w3_or (b3_cmp (o_eq hr.units) (e3_v 5) e3_int) (w3_or1 (b3_cmp (o_eq hr.units) (e3_v 5) e3_int)))) (cs3_one (c3_set 8 sc_bpairing.nd (e3_cb (k_min rfl) m_min (a3_cons (e3_op o_sub (e3_v 0) (e3_v 6)) (a3_cons (e3_op o_add (e3_op o_add (e3_v 7) e3_int) (e3_op o_mod (e3_v 8) (e3_v 6))) a3_nil))))) cs3_nil)
    (show PCs3 _ _ r_bpairing_1 from (cs3_cons (c3_if (PW3.to (w3_or (b3_cmp (o_eq hr.units) (e3_v 5) e3_int) (w3_or1 (b3_cmp (o_eq hr.units) (e3_v 5) e3_int)))) (cs3_one (c3_set 8 sc_bpairing.nd (e3_op o_sub (e3_v 0) (e3_v 6)))) cs3_nil)
    (show PCs3 _ _ r_bpairing_2 from (cs3_one (c3_ret (e3_tup (a3_cons (e3_cb (k_min rfl) m_min (a3_cons (e3_v 7) (a3_cons (e3_v 8) a3_nil))) (a3_cons (e3_cb (k_max rfl) m_max (a3_cons (e3_v 7) (a3_cons (e3_v 8) a3_nil))) (a3_cons (e3_v 6) (a3_cons (e3_cmp (o_eq hr.units) (e3_call F_btake hr (a3_cons (e3_v 4) (a3_cons e3_int a3_nil))) e3_int) a3_nil))))))))))))))))
theorem d_bhall {f : Addr} (m_int : mg "int" = none) (m_range : mg "range" = none) (F_big : Fn3 P w K mg base "_law_big" 2 ["_law_script", "_law_k"] sp_big) (F_btake : Fn3 P w K mg base "_law_take" 1 ["_law_bag", "_law_many"] sp_btake) (F_bweighing : Fn3 P w K mg base "_law_weighing" 3 ["_law_n", "_law_head", "_law_script", "_law_at"] sp_bweighing) (F_bpairing : Fn3 P w K mg base "_law_pairing" 3 ["_law_n", "_law_head", "_law_script", "_law_at"] sp_bpairing) (cdv : Value) (A : Around) (outer : List Env) (s : Shared) (H : Hp) (E : XK) (hr : Room 3 (A.deeper (envOfC "_law_hall" (defScope s_bhall) s.heap.objs.size f cdv))) :
    PCs3 (cxOf CX0 P w K mg base N_bhall "_law_hall" (defScope s_bhall) f cdv A outer s H E).nox (defBody s_bhall) t_bhall :=
  (cs3_cons (c3_set 2 sc_bhall.nd (e3_new (x3_lst (a3_cons (e3_call F_big hr (a3_cons (e3_v 0) (a3_cons (e3_v 1) a3_nil))) a3_nil))))
    (cs3_cons (c3_set 3 sc_bhall.nd (e3_call F_btake hr (a3_cons (e3_v 2) (a3_cons e3_int a3_nil))))
    (cs3_cons (c3_set 4 sc_bhall.nd (e3_op o_mod (e3_call F_big hr (a3_cons (e3_v 0) (a3_cons (e3_op o_add (e3_v 1) e3_int) a3_nil))) (e3_ixx (x3_lst (a3_cons e3_int (a3_cons e3_int (a3_cons e3_int (a3_cons e3_int (a3_cons e3_int (a3_cons e3_int (a3_cons (e3_op o_pow e3_int e3_int) (a3_cons (e3_op o_pow e3_int e3_int) a3_nil))))))))) (e3_v 3))))
    (cs3_cons (c3_set 5 sc_bhall.nd (e3_ixx (x3_lst (a3_cons (e3_call F_btake hr (a3_cons (e3_v 2) (a3_cons e3_int a3_nil))) (a3_cons (e3_call F_btake hr (a3_cons (e3_v 2) (a3_cons e3_int a3_nil))) (a3_cons e3_int (a3_cons (e3_call F_btake hr (a3_cons (e3_v 2) (a3_cons e3_int a3_nil))) a3_nil))))) (e3_call F_btake hr (a3_cons (e3_v 2) (a3_cons e3_int a3_nil)))))
    (cs3_cons (c3_if (b3_cmp (o_eq hr.units) (e3_call F_btake hr (a3_cons (e3_v 2) (a3_cons e3_int a3_nil))) e3_int) (cs3_one (c3_set 5 sc_bhall.nd (e3_op o_add e3_int (e3_call F_btake hr (a3_cons (e3_v 2) (a3_cons e3_int a3_nil)))))) cs3_nil)
    (show PCs3 _ _ r_bhall_1 from (cs3_cons (c3_if (b3_cmp o_gt (e3_v 3) e3_int) (cs3_one (c3_set 5 sc_bhall.nd (e3_op o_mod (e3_v 5) e3_int))) cs3_nil)
    (show PCs3 _ _ r_bhall_2 from (cs3_cons (c3_set 6 sc_bhall.nd (e3_call F_bweighing hr (a3_cons (e3_v 4) (a3_cons (e3_call F_btake hr (a3_cons (e3_v 2) (a3_cons e3_int a3_nil))) (a3_cons (e3_v 0) (a3_cons (e3_op o_add (e3_v 1) e3_int) a3_nil))))))
    (cs3_cons (c3_set 7 sc_bhall.nd (e3_new (x3_lst a3_nil)))
    (cs3_cons (c3_for PassesOwn.never rfl (i3_range1 rfl m_range (a3_cons (e3_op o_mul (e3_v 5) (e3_ct k_int m_int (a3_cons (e3_cmp o_gt (e3_v 4) e3_int) a3_nil))) a3_nil)) (g3_n 8 sc_bhall.nd) (show PCs3 _ _ b_bhall_1 from (cs3_one (c3_expr (e3_lm m_append PySem.F.slot_list_append PySem.F.type_list_append (e3_v 7) (a3_cons (e3_call F_bpairing hr (a3_cons (e3_v 4) (a3_cons (e3_call F_btake hr (a3_cons (e3_v 2) (a3_cons e3_int a3_nil))) (a3_cons (e3_v 0) (a3_cons (e3_op o_add (e3_op o_add (e3_v 1) e3_int) (e3_op o_mod (e3_op o_mul (e3_v 8) e3_int) e3_int)) a3_nil))))) a3_nil))))))
    (cs3_one (c3_ret (e3_tup (a3_cons (e3_v 4) (a3_cons (e3_v 7) (a3_cons (e3_v 6) a3_nil)))))))))))))))))
theorem d_lbehind {f : Addr} (cdv : Value) (A : Around) (outer : List Env) (s : Shared) (H : Hp) (E : XK) (hr : Room 0 (A.deeper (envOfC "_law_behind" (defScope s_lbehind) s.heap.objs.size f cdv))) :
    PCs3 (cxOf CX0 P w K mg base N_lbehind "_law_behind" (defScope s_lbehind) f cdv A outer s H E).nox (defBody s_lbehind) t_lbehind :=
  (cs3_one (c3_ret (e3_op o_add (e3_ix (e3_v 0) e3_int) (e3_ix (e3_v 0) e3_int))))
theorem d_lpart {f : Addr} (m_min : mg "min" = none) (m_max : mg "max" = none) (cdv : Value) (A : Around) (outer : List Env) (s : Shared) (H : Hp) (E : XK) (hr : Room 0 (A.deeper (envOfC "_law_part" (defScope s_lpart) s.heap.objs.size f cdv))) :
    PCs3 (cxOf CX0 P w K mg base N_lpart "_law_part" (defScope s_lpart) f cdv A outer s H E).nox (defBody s_lpart) t_lpart :=
  (cs3_cons (c3_set 3 sc_lpart.nd (e3_new (x3_lst a3_nil)))
    (cs3_cons (c3_set 4 sc_lpart.nd e3_int)
    (cs3_cons (c3_for PassesOwn.never rfl (i3_seq (e3_v 0)) (g3_tup rfl (gs3_cons (g3_n 5 sc_lpart.nd) (gs3_cons (g3_n 6 sc_lpart.nd) gs3_nil))) (show PCs3 _ _ b_lpart_1 from (cs3_cons (c3_set 7 sc_lpart.nd (e3_op o_sub (e3_cb (k_min rfl) m_min (a3_cons (e3_op o_add (e3_v 4) (e3_v 5)) (a3_cons (e3_v 2) a3_nil))) (e3_cb (k_max rfl) m_max (a3_cons (e3_v 4) (a3_cons (e3_v 1) a3_nil)))))
    (cs3_cons (c3_if (b3_cmp o_gt (e3_v 7) e3_int) (cs3_one (c3_expr (e3_lm m_append PySem.F.slot_list_append PySem.F.type_list_append (e3_v 3) (a3_cons (e3_tup (a3_cons (e3_v 7) (a3_cons (e3_v 6) a3_nil))) a3_nil)))) cs3_nil)
    (show PCs3 _ _ r_lpart_1 from (cs3_one (c3_set 4 sc_lpart.nd (e3_op o_add (e3_v 4) (e3_v 5)))))))))
    (cs3_one (c3_ret (e3_v 3))))))
theorem d_lsorts {f : Addr} (m_sorted : mg "sorted" = none) (cdv : Value) (A : Around) (outer : List Env) (s : Shared) (H : Hp) (E : XK) (hr : Room 0 (A.deeper (envOfC "_law_sorts" (defScope s_lsorts) s.heap.objs.size f cdv))) :
    PCs3 (cxOf CX0 P w K mg base N_lsorts "_law_sorts" (defScope s_lsorts) f cdv A outer s H E).nox (defBody s_lsorts) t_lsorts :=
  (cs3_cons (c3_set 1 sc_lsorts.nd e3_dnewT)
    (cs3_cons (c3_for PassesOwn.never rfl (i3_seq (e3_v 0)) (g3_tup rfl (gs3_cons (g3_n 2 sc_lsorts.nd) (gs3_cons (g3_n 3 sc_lsorts.nd) gs3_nil))) (show PCs3 _ _ b_lsorts_1 from (cs3_one (c3_dputT hr.units (e3_v 1) (e3_v 3) (e3_op o_add (e3_dget2 hr.units (e3_v 1) (e3_v 3) e3_int ⟨rfl, rfl, rfl, rfl⟩) (e3_v 2))))))
    (cs3_one (c3_ret (e3_new (x3_sitems rfl hr.units m_sorted (e3_v 1)))))))
theorem d_lfree {f : Addr} (m_all : mg "all" = none) (m_list : mg "list" = none) (F_lbehind : Fn3 P w K mg base "_law_behind" 1 ["_law_pairing_here"] sp_lbehind) (F_lpart : Fn3 P w K mg base "_law_part" 1 ["_law_weighing_here", "_law_begin", "_law_end"] sp_lpart) (F_lsorts : Fn3 P w K mg base "_law_sorts" 1 ["_law_weighing_here"] sp_lsorts) (cdv : Value) (A : Around) (outer : List Env) (s : Shared) (H : Hp) (E : XK) (hr : Room 1 (A.deeper (envOfC "_law_free" (defScope s_lfree) s.heap.objs.size f cdv))) :
    PCs3 (cxOf CX0 P w K mg base N_lfree "_law_free" (defScope s_lfree) f cdv A outer s H E).nox (defBody s_lfree) t_lfree :=
  (cs3_cons (c3_asg (e3_v 0) (g3_tup rfl (gs3_cons (g3_n 2 sc_lfree.nd) (gs3_cons (g3_n 3 sc_lfree.nd) (gs3_cons (g3_n 4 sc_lfree.nd) gs3_nil)))))
    (cs3_cons (c3_if (PW3.to (w3_or (b3_not (b3_chain o_le o_lt e3_int (e3_v 1) (e3_v 2))) (w3_or1 (b3_not (b3_val (e3_cbx (kx_all rfl) m_all (x3_lc (own := [("_law_pairing_here", 5)]) rfl sc_lfree.nd (i3_seq (e3_v 3)) (blkOk_by (own := [("_law_pairing_here", 5)]) (N := N_lfree) (sc := defScope s_lfree) (by decide +kernel)) cg_n gm_n (fun _ _ _ _ _ => (pg_name (i := 5) sc_lfree.nd rfl (Or.inl rfl))) (fun _ _ _ _ _ => pts3_nil) (fun _ _ _ _ _ => (show PE3 _ _ e_lfree_1 from (e3_cmp o_le (e3_call F_lbehind hr (a3_cons (e3_v 5) a3_nil)) (e3_v 1))))))))))) (cs3_one (c3_ret e3_non)) cs3_nil)
    (show PCs3 _ _ r_lfree_1 from (cs3_one (c3_ret (e3_tup (a3_cons (e3_tup (a3_cons (e3_v 1) (a3_cons (e3_new (x3_ct kl_list m_list (a3_cons (e3_v 3) a3_nil))) (a3_cons (e3_call F_lpart hr (a3_cons (e3_v 4) (a3_cons e3_int (a3_cons (e3_v 1) a3_nil)))) a3_nil)))) (a3_cons (e3_call F_lsorts hr (a3_cons (e3_call F_lpart hr (a3_cons (e3_v 4) (a3_cons (e3_v 1) (a3_cons (e3_v 2) a3_nil)))) a3_nil)) a3_nil))))))))
theorem d_whole {f : Addr} (m_int : mg "int" = none) (m_isinstance : mg "isinstance" = none) (m_bool : mg "bool" = none) (cdv : Value) (A : Around) (outer : List Env) (s : Shared) (H : Hp) (E : XK) (hr : Room 0 (A.deeper (envOfC "_law_is_whole" (defScope s_whole) s.heap.objs.size f cdv))) :
    PCs3 (cxOf CX0 P w K mg base N_whole "_law_is_whole" (defScope s_whole) f cdv A outer s H E).nox (defBody s_whole) t_whole :=
  (cs3_one (c3_ret (e3_and (e3_cb k_isi m_isinstance (a3_cons (e3_v 0) (a3_cons (e3_ty rfl m_int (by decide +kernel)) a3_nil))) (e3_one (e3_not (e3_cb k_isi m_isinstance (a3_cons (e3_v 0) (a3_cons (e3_ty rfl m_bool (by decide +kernel)) a3_nil))))))))
theorem d_told_right {f : Addr} (m_tuple : mg "tuple" = none) (m_isinstance : mg "isinstance" = none) (m_len : mg "len" = none) (m_list : mg "list" = none) (m_bool : mg "bool" = none) (m_all : mg "all" = none) (F_whole : Fn3 P w K mg base "_law_is_whole" 1 ["_law_thing"] sp_whole) (cdv : Value) (A : Around) (outer : List Env) (s : Shared) (H : Hp) (E : XK) (hr : Room 1 (A.deeper (envOfC "_law_told_right" (defScope s_told_right) s.heap.objs.size f cdv))) :
    PCs3 (cxOf CX0 P w K mg base N_told_right "_law_told_right" (defScope s_told_right) f cdv A outer s H E).nox (defBody s_told_right) t_told_right :=
  (cs3_cons (c3_if (PW3.to (w3_or (b3_not (b3_val (e3_cb k_isi m_isinstance (a3_cons (e3_v 0) (a3_cons (e3_ty rfl m_tuple (by decide +kernel)) a3_nil))))) (w3_or (b3_cmp (o_ne hr.units) (e3_cb k_len m_len (a3_cons (e3_v 0) a3_nil)) e3_int) (w3_or (b3_not (b3_val (e3_cb k_isi m_isinstance (a3_cons (e3_ix (e3_v 0) e3_int) (a3_cons (e3_ty rfl m_tuple (by decide +kernel)) a3_nil))))) (w3_or1 (b3_cmp (o_ne hr.units) (e3_cb k_len m_len (a3_cons (e3_ix (e3_v 0) e3_int) a3_nil)) e3_int)))))) (cs3_one (c3_ret e3_bl)) cs3_nil)
    (show PCs3 _ _ r_told_right_1 from (cs3_cons (c3_if (PW3.to (w3_or (b3_not (b3_val (e3_cb k_isi m_isinstance (a3_cons (e3_ix (e3_ix (e3_v 0) e3_int) e3_int) (a3_cons (e3_ty rfl m_list (by decide +kernel)) a3_nil))))) (w3_or (b3_not (b3_val (e3_cb k_isi m_isinstance (a3_cons (e3_ix (e3_ix (e3_v 0) e3_int) e3_int) (a3_cons (e3_ty rfl m_list (by decide +kernel)) a3_nil))))) (w3_or1 (b3_not (b3_val (e3_cb k_isi m_isinstance (a3_cons (e3_ix (e3_v 0) e3_int) (a3_cons (e3_ty rfl m_list (by decide +kernel)) a3_nil))))))))) (cs3_one (c3_ret e3_bl)) cs3_nil)
    (show PCs3 _ _ r_told_right_2 from (cs3_cons (c3_set 1 sc_told_right.nd (e3_new (x3_lst (a3_cons (e3_ix (e3_ix (e3_v 0) e3_int) e3_int) a3_nil))))
    (cs3_cons (c3_for PassesOwn.never rfl (i3_seq (e3_ix (e3_ix (e3_v 0) e3_int) e3_int)) (g3_n 2 sc_told_right.nd) (show PCs3 _ _ b_told_right_1 from (cs3_cons (c3_if (PW3.to (w3_or (b3_not (b3_val (e3_cb k_isi m_isinstance (a3_cons (e3_v 2) (a3_cons (e3_ty rfl m_tuple (by decide +kernel)) a3_nil))))) (w3_or (b3_cmp (o_ne hr.units) (e3_cb k_len m_len (a3_cons (e3_v 2) a3_nil)) e3_int) (w3_or1 (b3_not (b3_val (e3_cb k_isi m_isinstance (a3_cons (e3_ix (e3_v 2) e3_int) (a3_cons (e3_ty rfl m_bool (by decide +kernel)) a3_nil))))))))) (cs3_one (c3_ret e3_bl)) cs3_nil)
    (show PCs3 _ _ r_told_right_3 from (cs3_one (c3_expr (e3_lm m_extendU PySem.F.slot_list_extend PySem.F.type_list_extend (e3_v 1) (a3_cons (e3_sl (e3_v 2) o3_no (o3_so e3_int)) a3_nil))))))))
    (cs3_cons (c3_for PassesOwn.never rfl (i3_seq (e3_ix (e3_ix (e3_v 0) e3_int) e3_int)) (g3_tup rfl (gs3_cons (g3_n 3 sc_told_right.nd) (gs3_cons (g3_n 4 sc_told_right.nd) gs3_nil))) (show PCs3 _ _ b_told_right_2 from (cs3_one (c3_expr (e3_lm m_extend PySem.F.slot_list_extend PySem.F.type_list_extend (e3_v 1) (a3_cons (e3_op o_add (e3_new (x3_ct kl_list m_list (a3_cons (e3_v 4) a3_nil))) (e3_new (x3_lst (a3_cons (e3_v 3) a3_nil)))) a3_nil))))))
    (cs3_cons (c3_for PassesOwn.never rfl (i3_seq (e3_ix (e3_v 0) e3_int)) (g3_tup rfl (gs3_cons (g3_n 3 sc_told_right.nd) (gs3_cons (g3_n 4 sc_told_right.nd) gs3_nil))) (show PCs3 _ _ b_told_right_3 from (cs3_one (c3_expr (e3_lm m_extend PySem.F.slot_list_extend PySem.F.type_list_extend (e3_v 1) (a3_cons (e3_op o_add (e3_new (x3_ct kl_list m_list (a3_cons (e3_v 3) a3_nil))) (e3_new (x3_lst (a3_cons (e3_v 4) a3_nil)))) a3_nil))))))
    (cs3_one (c3_ret (e3_cbx (kx_all rfl) m_all (x3_lc (own := [("_law_amount", 5)]) rfl sc_told_right.nd (i3_seq (e3_v 1)) (blkOk_by (own := [("_law_amount", 5)]) (N := N_told_right) (sc := defScope s_told_right) (by decide +kernel)) cg_n gm_n (fun _ _ _ _ _ => (pg_name (i := 5) sc_told_right.nd rfl (Or.inl rfl))) (fun _ _ _ _ _ => pts3_nil) (fun _ _ _ _ _ => (show PE3 _ _ e_told_right_1 from (e3_call F_whole hr (a3_cons (e3_v 5) a3_nil))))))))))))))))
theorem d_refused {f : Addr} (m_list : mg "list" = none) (m_isinstance : mg "isinstance" = none) (m_ValueError : mg "ValueError" = none) (BK : Book K mg bk ["NoDeed"] ["CordError", "TooMany", "NoDeed", "NoRow", "NoCord", "NoTurn", "NoText", "NoSheet", "NoName"]) (F_deed_done : Fn3X P w K mg base bk "deed_done" 8 ["hall", "deed"] sp_deed_done) (cdv : Value) (A : Around) (outer : List Env) (s : Shared) (H : Hp) (E : XK) (hr : Room 8 (A.deeper (envOfC "_law_refused" (defScope s_refused) s.heap.objs.size f cdv))) :
    PCs3 (cxOf CX0 P w K mg base N_refused "_law_refused" (defScope s_refused) f cdv A outer s H E).nox (defBody s_refused) t_refused :=
  (cs3_cons (c3_set 2 sc_refused.nd (e3_tup (a3_cons (e3_ix (e3_v 0) e3_int) (a3_cons (e3_new (x3_ct kl_list m_list (a3_cons (e3_ix (e3_v 0) e3_int) a3_nil))) (a3_cons (e3_new (x3_ct kl_list m_list (a3_cons (e3_ix (e3_v 0) e3_int) a3_nil))) a3_nil)))))
    (cs3_cons (c3_try (bk := bk) sc_refused.nd ⟨rfl, by decide, .inl (BK.mg "CordError" (by decide))⟩ BK.ctch (fun W pn xe m0 H0 E4 tk po hE => (show PCsb _ _ _ _ (y_refused_1 E4) from (csb_one (cb_expr (eb_call F_deed_done hr tk hE (a3_cons (e3_v 2) (a3_cons (e3_v 1) a3_nil))))))) (mx_drop (mx_call F_deed_done.mono (MonoA.c3 (MonoE.var 2) (MonoA.c3 (MonoE.var 1) MonoA.n3)))) (fun a oe c pn hc hz hf => (show PCs3 _ _ (u_refused_1 a c) from (cs3_cons (c3_set 4 sc_refused.nd (e3_new (x3_lst (a3_cons (e3_isC 3 (BK.exc c hc) hz hf m_isinstance (BK.mg "TooMany" (by decide)) (BK.kit c hc "TooMany" (by decide))) (a3_cons (e3_isC 3 (BK.exc c hc) hz hf m_isinstance (BK.mg "NoRow" (by decide)) (BK.kit c hc "NoRow" (by decide))) (a3_cons (e3_isC 3 (BK.exc c hc) hz hf m_isinstance (BK.mg "NoCord" (by decide)) (BK.kit c hc "NoCord" (by decide))) (a3_cons (e3_isC 3 (BK.exc c hc) hz hf m_isinstance (BK.mg "NoTurn" (by decide)) (BK.kit c hc "NoTurn" (by decide))) a3_nil)))))))
    (cs3_cons (c3_set 4 sc_refused.nd (e3_op o_add (e3_v 4) (e3_new (x3_lst (a3_cons (e3_isC 3 (BK.exc c hc) hz hf m_isinstance (BK.mg "NoText" (by decide)) (BK.kit c hc "NoText" (by decide))) (a3_cons (e3_isC 3 (BK.exc c hc) hz hf m_isinstance (BK.mg "NoSheet" (by decide)) (BK.kit c hc "NoSheet" (by decide))) (a3_cons (e3_isC 3 (BK.exc c hc) hz hf m_isinstance (BK.mg "NoName" (by decide)) (BK.kit c hc "NoName" (by decide))) a3_nil)))))))
    (cs3_one (c3_ret (e3_and (e3_isC 3 (BK.exc c hc) hz hf m_isinstance (BK.mg "NoDeed" (by decide)) (BK.kit c hc "NoDeed" (by decide))) (e3_and (e3_isT 3 (BK.exc c hc) hz hf m_isinstance m_ValueError (BK.kitV c hc)) (e3_and (e3_cmp o_nin e3_bl (e3_v 4)) (e3_one (e3_cmp (o_eq hr.units) (e3_v 2) (e3_v 0)))))))))))))
    (cs3_one (c3_ret e3_bl))))
theorem d_done_right {f : Addr} (m_list : mg "list" = none) (m_range : mg "range" = none) (F_deed_done : Fn3X P w K mg base bk "deed_done" 8 ["hall", "deed"] sp_deed_done) (F_told_right : Fn3 P w K mg base "_law_told_right" 2 ["_law_told"] sp_told_right) (cdv : Value) (A : Around) (outer : List Env) (s : Shared) (H : Hp) (E : XK) (hr : Room 8 (A.deeper (envOfC "_law_done_right" (defScope s_done_right) s.heap.objs.size f cdv))) :
    PCs3 (cxOf CX0 P w K mg base N_done_right "_law_done_right" (defScope s_done_right) f cdv A outer s H E).nox (defBody s_done_right) t_done_right :=
  (cs3_cons (c3_set 3 sc_done_right.nd (e3_tup (a3_cons (e3_ix (e3_v 0) e3_int) (a3_cons (e3_new (x3_ct kl_list m_list (a3_cons (e3_ix (e3_v 0) e3_int) a3_nil))) (a3_cons (e3_new (x3_ct kl_list m_list (a3_cons (e3_ix (e3_v 0) e3_int) a3_nil))) a3_nil)))))
    (cs3_cons (c3_for PassesOwn.never rfl (i3_range1 rfl m_range (a3_cons e3_int a3_nil)) (g3_n 4 sc_done_right.nd) (show PCs3 _ _ b_done_right_1 from (cs3_cons (c3_set 5 sc_done_right.nd (e3_callX F_deed_done hr (a3_cons (e3_v 3) (a3_cons (e3_v 1) a3_nil))))
    (cs3_cons (c3_if (PW3.to (w3_or (b3_not (b3_val (e3_call F_told_right hr (a3_cons (e3_v 5) a3_nil)))) (w3_or1 (b3_cmp (o_ne hr.units) (e3_v 5) (e3_v 2))))) (cs3_one (c3_ret e3_bl)) cs3_nil)
    (show PCs3 _ _ r_done_right_1 from (cs3_cons (c3_expr (e3_lm m_append PySem.F.slot_list_append PySem.F.type_list_append (e3_ix (e3_ix (e3_v 5) e3_int) e3_int) (a3_cons e3_non a3_nil)))
    (cs3_cons (c3_expr (e3_lm m_append PySem.F.slot_list_append PySem.F.type_list_append (e3_ix (e3_ix (e3_v 5) e3_int) e3_int) (a3_cons e3_non a3_nil)))
    (cs3_cons (c3_expr (e3_lm m_append PySem.F.slot_list_append PySem.F.type_list_append (e3_ix (e3_v 5) e3_int) (a3_cons e3_non a3_nil)))
    (cs3_one (c3_if (b3_cmp (o_ne hr.units) (e3_v 3) (e3_v 0)) (cs3_one (c3_ret e3_bl)) cs3_nil))))))))))
    (cs3_one (c3_ret e3_bl))))
theorem d_right {f : Addr} (F_refused : Fn3 P w K mg base "_law_refused" 9 ["_law_hall_here", "_law_deed"] sp_refused) (F_done_right : Fn3 P w K mg base "_law_done_right" 9 ["_law_hall_here", "_law_deed", "_law_due"] sp_done_right) (cdv : Value) (A : Around) (outer : List Env) (s : Shared) (H : Hp) (E : XK) (hr : Room 9 (A.deeper (envOfC "_law_right" (defScope s_right) s.heap.objs.size f cdv))) :
    PCs3 (cxOf CX0 P w K mg base N_right "_law_right" (defScope s_right) f cdv A outer s H E).nox (defBody s_right) t_right :=
  (cs3_cons (c3_if (b3_cmp o_is (e3_v 2) e3_non) (cs3_one (c3_ret (e3_call F_refused hr (a3_cons (e3_v 0) (a3_cons (e3_v 1) a3_nil))))) cs3_nil)
    (show PCs3 _ _ r_right_1 from (cs3_one (c3_ret (e3_call F_done_right hr (a3_cons (e3_v 0) (a3_cons (e3_v 1) (a3_cons (e3_v 2) a3_nil))))))))
theorem d_law {f : Addr} (m_range : mg "range" = none) (m_max : mg "max" = none) (F_bhall : Fn3 P w K mg base "_law_hall" 4 ["_law_script", "_law_at"] sp_bhall) (F_big : Fn3 P w K mg base "_law_big" 2 ["_law_script", "_law_k"] sp_big) (F_lbehind : Fn3 P w K mg base "_law_behind" 1 ["_law_pairing_here"] sp_lbehind) (F_right : Fn3 P w K mg base "_law_right" 10 ["_law_hall_here", "_law_deed", "_law_due"] sp_right) (F_lfree : Fn3 P w K mg base "_law_free" 2 ["_law_hall_here", "_law_end"] sp_lfree) (cdv : Value) (A : Around) (outer : List Env) (s : Shared) (H : Hp) (E : XK) (hr : Room 10 (A.deeper (envOfC "law" (defScope s_law) s.heap.objs.size f cdv))) :
    PCs3 (cxOf CX0 P w K mg base N_law "law" (defScope s_law) f cdv A outer s H E).nox (defBody s_law) t_law :=
  (cs3_cons (c3_set 1 sc_law.nd (e3_call F_bhall hr (a3_cons (e3_v 0) (a3_cons e3_int a3_nil))))
    (cs3_cons (c3_asg (e3_v 1) (g3_tup rfl (gs3_cons (g3_n 2 sc_law.nd) (gs3_cons (g3_n 3 sc_law.nd) (gs3_cons (g3_n 4 sc_law.nd) gs3_nil)))))
    (cs3_cons (c3_for PassesOwn.never rfl (i3_range1 rfl m_range (a3_cons e3_int a3_nil)) (g3_n 5 sc_law.nd) (show PCs3 _ _ b_law_1 from (cs3_cons (c3_set 6 sc_law.nd (e3_call F_big hr (a3_cons (e3_v 0) (a3_cons (e3_op o_add e3_int (e3_v 5)) a3_nil))))
    (cs3_cons (c3_set 7 sc_law.nd (e3_v 3))
    (cs3_cons (c3_if (b3_cmp o_gt (e3_v 5) e3_int) (cs3_one (c3_setLc (own := [("_law_pairing_here", 11)]) 7 rfl sc_law.nd (i3_seq (e3_v 3)) (blkOk_by (own := [("_law_pairing_here", 11)]) (N := N_law) (sc := defScope s_law) (by decide +kernel)) cg_n gm_n (fun _ _ _ _ _ => (pg_name (i := 11) sc_law.nd rfl (Or.inl rfl))) (fun _ _ _ _ _ => pts3_one (b3_cmp o_le (e3_call F_lbehind hr (a3_cons (e3_v 11) a3_nil)) (e3_op o_mod (e3_v 6) (e3_op o_add (e3_v 2) e3_int)))) (fun _ _ _ _ _ => (show PE3 _ _ e_law_1 from (e3_v 11))))) cs3_nil)
    (show PCs3 _ _ r_law_1 from (cs3_cons (c3_set 8 sc_law.nd (e3_tup (a3_cons (e3_v 2) (a3_cons (e3_v 7) (a3_cons (e3_v 4) a3_nil)))))
    (cs3_cons (c3_set 9 sc_law.nd (e3_cb (k_max1 rfl) m_max (a3_cons (e3_op o_add (e3_new (x3_lst (a3_cons e3_int a3_nil))) (e3_new (x3_lc (own := [("_law_pairing_here", 11)]) rfl sc_law.nd (i3_seq (e3_v 7)) (blkOk_by (own := [("_law_pairing_here", 11)]) (N := N_law) (sc := defScope s_law) (by decide +kernel)) cg_n gm_n (fun _ _ _ _ _ => (pg_name (i := 11) sc_law.nd rfl (Or.inl rfl))) (fun _ _ _ _ _ => pts3_nil) (fun _ _ _ _ _ => (show PE3 _ _ e_law_2 from (e3_call F_lbehind hr (a3_cons (e3_v 11) a3_nil))))))) a3_nil)))
    (cs3_one (c3_for PassesOwn.never rfl (i3_new (x3_lst (a3_cons (e3_v 9) (a3_cons (e3_op o_add (e3_v 9) e3_int) (a3_cons (e3_op o_sub (e3_v 9) e3_int) (a3_cons e3_int (a3_cons (e3_v 2) (a3_cons (e3_op o_sub (e3_v 2) e3_int) (a3_cons (e3_op o_mod (e3_op o_div (e3_v 6) e3_int) (e3_op o_add (e3_v 2) e3_int)) a3_nil))))))))) (g3_n 10 sc_law.nd) (show PCs3 _ _ b_law_2 from (cs3_one (c3_if (b3_not (b3_val (e3_call F_right hr (a3_cons (e3_v 8) (a3_cons (e3_tup (a3_cons e3_str (a3_cons (e3_v 10) a3_nil))) (a3_cons (e3_call F_lfree hr (a3_cons (e3_v 8) (a3_cons (e3_v 10) a3_nil))) a3_nil)))))) (cs3_one (c3_ret e3_bl)) cs3_nil)))))))))))))
    (cs3_one (c3_ret e3_bl)))))
end
theorem all_mk {l : PySem.W.OpenLaw} {w : World} {K : PySem.W.Frag} {h : Heap} {mg : Str → Option Value} {fa : Addr} (X : K.In h) (G : h.Ns mainGlobals mg) (hfa : mg "law" = some (.ref fa))
    {f0 : Addr} {od0 an0 : Option Addr} {sl0 : Array (Option Value)} {oc0 kV0 dc0 pm0 cd0 ct0 : Value}
    (a0 : PySem.W.nsIn K mainGlobals "part" = some (some (.ref f0))) (l0 : K.lookup f0 = some ⟨oc0, od0, .func (PySem.W.fnOf "part" "part" (defArgs s_part) (defBody s_part) (defScope s_part) .none kV0 dc0 pm0 an0 cd0 ct0), sl0⟩) (c0 : PySem.W.codeIn K cd0 "part" = true) (k0 : PySem.W.keepIn K (.ref f0) = true)
    {f1 : Addr} {od1 an1 : Option Addr} {sl1 : Array (Option Value)} {oc1 kV1 dc1 pm1 cd1 ct1 : Value}
    (a1 : PySem.W.nsIn K mainGlobals "sorts" = some (some (.ref f1))) (l1 : K.lookup f1 = some ⟨oc1, od1, .func (PySem.W.fnOf "sorts" "sorts" (defArgs s_sorts) (defBody s_sorts) (defScope s_sorts) .none kV1 dc1 pm1 an1 cd1 ct1), sl1⟩) (c1 : PySem.W.codeIn K cd1 "sorts" = true) (k1 : PySem.W.keepIn K (.ref f1) = true)
    {f2 : Addr} {od2 an2 : Option Addr} {sl2 : Array (Option Value)} {oc2 kV2 dc2 pm2 cd2 ct2 : Value}
    (a2 : PySem.W.nsIn K mainGlobals "paired" = some (some (.ref f2))) (l2 : K.lookup f2 = some ⟨oc2, od2, .func (PySem.W.fnOf "paired" "paired" (defArgs s_paired) (defBody s_paired) (defScope s_paired) .none kV2 dc2 pm2 an2 cd2 ct2), sl2⟩) (c2 : PySem.W.codeIn K cd2 "paired" = true) (k2 : PySem.W.keepIn K (.ref f2) = true)
    {f3 : Addr} {od3 an3 : Option Addr} {sl3 : Array (Option Value)} {oc3 kV3 dc3 pm3 cd3 ct3 : Value}
    (a3 : PySem.W.nsIn K mainGlobals "is_turn" = some (some (.ref f3))) (l3 : K.lookup f3 = some ⟨oc3, od3, .func (PySem.W.fnOf "is_turn" "is_turn" (defArgs s_is_turn) (defBody s_is_turn) (defScope s_is_turn) .none kV3 dc3 pm3 an3 cd3 ct3), sl3⟩) (c3 : PySem.W.codeIn K cd3 "is_turn" = true) (k3 : PySem.W.keepIn K (.ref f3) = true)
    {f4 : Addr} {od4 an4 : Option Addr} {sl4 : Array (Option Value)} {oc4 kV4 dc4 pm4 cd4 ct4 : Value}
    (a4 : PySem.W.nsIn K mainGlobals "look" = some (some (.ref f4))) (l4 : K.lookup f4 = some ⟨oc4, od4, .func (PySem.W.fnOf "look" "look" (defArgs s_look) (defBody s_look) (defScope s_look) .none kV4 dc4 pm4 an4 cd4 ct4), sl4⟩) (c4 : PySem.W.codeIn K cd4 "look" = true) (k4 : PySem.W.keepIn K (.ref f4) = true)
    {f5 : Addr} {od5 an5 : Option Addr} {sl5 : Array (Option Value)} {oc5 kV5 dc5 pm5 cd5 ct5 : Value}
    (a5 : PySem.W.nsIn K mainGlobals "is_still" = some (some (.ref f5))) (l5 : K.lookup f5 = some ⟨oc5, od5, .func (PySem.W.fnOf "is_still" "is_still" (defArgs s_is_still) (defBody s_is_still) (defScope s_is_still) .none kV5 dc5 pm5 an5 cd5 ct5), sl5⟩) (c5 : PySem.W.codeIn K cd5 "is_still" = true) (k5 : PySem.W.keepIn K (.ref f5) = true)
    {f6 : Addr} {od6 an6 : Option Addr} {sl6 : Array (Option Value)} {oc6 kV6 dc6 pm6 cd6 ct6 : Value}
    (a6 : PySem.W.nsIn K mainGlobals "is_bent" = some (some (.ref f6))) (l6 : K.lookup f6 = some ⟨oc6, od6, .func (PySem.W.fnOf "is_bent" "is_bent" (defArgs s_is_bent) (defBody s_is_bent) (defScope s_is_bent) .none kV6 dc6 pm6 an6 cd6 ct6), sl6⟩) (c6 : PySem.W.codeIn K cd6 "is_bent" = true) (k6 : PySem.W.keepIn K (.ref f6) = true)
    {f7 : Addr} {od7 an7 : Option Addr} {sl7 : Array (Option Value)} {oc7 kV7 dc7 pm7 cd7 ct7 : Value}
    (a7 : PySem.W.nsIn K mainGlobals "is_lead" = some (some (.ref f7))) (l7 : K.lookup f7 = some ⟨oc7, od7, .func (PySem.W.fnOf "is_lead" "is_lead" (defArgs s_is_lead) (defBody s_is_lead) (defScope s_is_lead) .none kV7 dc7 pm7 an7 cd7 ct7), sl7⟩) (c7 : PySem.W.codeIn K cd7 "is_lead" = true) (k7 : PySem.W.keepIn K (.ref f7) = true)
    {f8 : Addr} {od8 an8 : Option Addr} {sl8 : Array (Option Value)} {oc8 kV8 dc8 pm8 cd8 ct8 : Value}
    (a8 : PySem.W.nsIn K mainGlobals "sum_of_ends" = some (some (.ref f8))) (l8 : K.lookup f8 = some ⟨oc8, od8, .func (PySem.W.fnOf "sum_of_ends" "sum_of_ends" (defArgs s_sum_of_ends) (defBody s_sum_of_ends) (defScope s_sum_of_ends) .none kV8 dc8 pm8 an8 cd8 ct8), sl8⟩) (c8 : PySem.W.codeIn K cd8 "sum_of_ends" = true) (k8 : PySem.W.keepIn K (.ref f8) = true)
    {f9 : Addr} {od9 an9 : Option Addr} {sl9 : Array (Option Value)} {oc9 kV9 dc9 pm9 cd9 ct9 : Value}
    (a9 : PySem.W.nsIn K mainGlobals "folded" = some (some (.ref f9))) (l9 : K.lookup f9 = some ⟨oc9, od9, .func (PySem.W.fnOf "folded" "folded" (defArgs s_folded) (defBody s_folded) (defScope s_folded) .none kV9 dc9 pm9 an9 cd9 ct9), sl9⟩) (c9 : PySem.W.codeIn K cd9 "folded" = true) (k9 : PySem.W.keepIn K (.ref f9) = true)
    {f10 : Addr} {od10 an10 : Option Addr} {sl10 : Array (Option Value)} {oc10 kV10 dc10 pm10 cd10 ct10 : Value}
    (a10 : PySem.W.nsIn K mainGlobals "shift_of" = some (some (.ref f10))) (l10 : K.lookup f10 = some ⟨oc10, od10, .func (PySem.W.fnOf "shift_of" "shift_of" (defArgs s_shift_of) (defBody s_shift_of) (defScope s_shift_of) .none kV10 dc10 pm10 an10 cd10 ct10), sl10⟩) (c10 : PySem.W.codeIn K cd10 "shift_of" = true) (k10 : PySem.W.keepIn K (.ref f10) = true)
    {f11 : Addr} {od11 an11 : Option Addr} {sl11 : Array (Option Value)} {oc11 kV11 dc11 pm11 cd11 ct11 : Value}
    (a11 : PySem.W.nsIn K mainGlobals "reach_end" = some (some (.ref f11))) (l11 : K.lookup f11 = some ⟨oc11, od11, .func (PySem.W.fnOf "reach_end" "reach_end" (defArgs s_reach_end) (defBody s_reach_end) (defScope s_reach_end) .none kV11 dc11 pm11 an11 cd11 ct11), sl11⟩) (c11 : PySem.W.codeIn K cd11 "reach_end" = true) (k11 : PySem.W.keepIn K (.ref f11) = true)
    {f12 : Addr} {od12 an12 : Option Addr} {sl12 : Array (Option Value)} {oc12 kV12 dc12 pm12 cd12 ct12 : Value}
    (a12 : PySem.W.nsIn K mainGlobals "common_part" = some (some (.ref f12))) (l12 : K.lookup f12 = some ⟨oc12, od12, .func (PySem.W.fnOf "common_part" "common_part" (defArgs s_common_part) (defBody s_common_part) (defScope s_common_part) .none kV12 dc12 pm12 an12 cd12 ct12), sl12⟩) (c12 : PySem.W.codeIn K cd12 "common_part" = true) (k12 : PySem.W.keepIn K (.ref f12) = true)
    {f13 : Addr} {od13 an13 : Option Addr} {sl13 : Array (Option Value)} {oc13 kV13 dc13 pm13 cd13 ct13 : Value}
    (a13 : PySem.W.nsIn K mainGlobals "can_join" = some (some (.ref f13))) (l13 : K.lookup f13 = some ⟨oc13, od13, .func (PySem.W.fnOf "can_join" "can_join" (defArgs s_can_join) (defBody s_can_join) (defScope s_can_join) .none kV13 dc13 pm13 an13 cd13 ct13), sl13⟩) (c13 : PySem.W.codeIn K cd13 "can_join" = true) (k13 : PySem.W.keepIn K (.ref f13) = true)
    {f14 : Addr} {od14 an14 : Option Addr} {sl14 : Array (Option Value)} {oc14 kV14 dc14 pm14 cd14 ct14 : Value}
    (a14 : PySem.W.nsIn K mainGlobals "joined" = some (some (.ref f14))) (l14 : K.lookup f14 = some ⟨oc14, od14, .func (PySem.W.fnOf "joined" "joined" (defArgs s_joined) (defBody s_joined) (defScope s_joined) .none kV14 dc14 pm14 an14 cd14 ct14), sl14⟩) (c14 : PySem.W.codeIn K cd14 "joined" = true) (k14 : PySem.W.keepIn K (.ref f14) = true)
    {f15 : Addr} {od15 an15 : Option Addr} {sl15 : Array (Option Value)} {oc15 kV15 dc15 pm15 cd15 ct15 : Value}
    (a15 : PySem.W.nsIn K mainGlobals "is_within" = some (some (.ref f15))) (l15 : K.lookup f15 = some ⟨oc15, od15, .func (PySem.W.fnOf "is_within" "is_within" (defArgs s_is_within) (defBody s_is_within) (defScope s_is_within) .none kV15 dc15 pm15 an15 cd15 ct15), sl15⟩) (c15 : PySem.W.codeIn K cd15 "is_within" = true) (k15 : PySem.W.keepIn K (.ref f15) = true)
    {f16 : Addr} {od16 an16 : Option Addr} {sl16 : Array (Option Value)} {oc16 kV16 dc16 pm16 cd16 ct16 : Value}
    (a16 : PySem.W.nsIn K mainGlobals "led_back" = some (some (.ref f16))) (l16 : K.lookup f16 = some ⟨oc16, od16, .func (PySem.W.fnOf "led_back" "led_back" (defArgs s_led_back) (defBody s_led_back) (defScope s_led_back) .none kV16 dc16 pm16 an16 cd16 ct16), sl16⟩) (c16 : PySem.W.codeIn K cd16 "led_back" = true) (k16 : PySem.W.keepIn K (.ref f16) = true)
    {f17 : Addr} {od17 an17 : Option Addr} {sl17 : Array (Option Value)} {oc17 kV17 dc17 pm17 cd17 ct17 : Value}
    (a17 : PySem.W.nsIn K mainGlobals "carried" = some (some (.ref f17))) (l17 : K.lookup f17 = some ⟨oc17, od17, .func (PySem.W.fnOf "carried" "carried" (defArgs s_carried) (defBody s_carried) (defScope s_carried) .none kV17 dc17 pm17 an17 cd17 ct17), sl17⟩) (c17 : PySem.W.codeIn K cd17 "carried" = true) (k17 : PySem.W.keepIn K (.ref f17) = true)
    {f18 : Addr} {od18 an18 : Option Addr} {sl18 : Array (Option Value)} {oc18 kV18 dc18 pm18 cd18 ct18 : Value}
    (a18 : PySem.W.nsIn K mainGlobals "without" = some (some (.ref f18))) (l18 : K.lookup f18 = some ⟨oc18, od18, .func (PySem.W.fnOf "without" "without" (defArgs s_without) (defBody s_without) (defScope s_without) .none kV18 dc18 pm18 an18 cd18 ct18), sl18⟩) (c18 : PySem.W.codeIn K cd18 "without" = true) (k18 : PySem.W.keepIn K (.ref f18) = true)
    {f19 : Addr} {od19 an19 : Option Addr} {sl19 : Array (Option Value)} {oc19 kV19 dc19 pm19 cd19 ct19 : Value}
    (a19 : PySem.W.nsIn K mainGlobals "instead" = some (some (.ref f19))) (l19 : K.lookup f19 = some ⟨oc19, od19, .func (PySem.W.fnOf "instead" "instead" (defArgs s_instead) (defBody s_instead) (defScope s_instead) .none kV19 dc19 pm19 an19 cd19 ct19), sl19⟩) (c19 : PySem.W.codeIn K cd19 "instead" = true) (k19 : PySem.W.keepIn K (.ref f19) = true)
    {f20 : Addr} {od20 an20 : Option Addr} {sl20 : Array (Option Value)} {oc20 kV20 dc20 pm20 cd20 ct20 : Value}
    (a20 : PySem.W.nsIn K mainGlobals "is_number" = some (some (.ref f20))) (l20 : K.lookup f20 = some ⟨oc20, od20, .func (PySem.W.fnOf "is_number" "is_number" (defArgs s_is_number) (defBody s_is_number) (defScope s_is_number) .none kV20 dc20 pm20 an20 cd20 ct20), sl20⟩) (c20 : PySem.W.codeIn K cd20 "is_number" = true) (k20 : PySem.W.keepIn K (.ref f20) = true)
    {f21 : Addr} {od21 an21 : Option Addr} {sl21 : Array (Option Value)} {oc21 kV21 dc21 pm21 cd21 ct21 : Value}
    (a21 : PySem.W.nsIn K mainGlobals "is_end" = some (some (.ref f21))) (l21 : K.lookup f21 = some ⟨oc21, od21, .func (PySem.W.fnOf "is_end" "is_end" (defArgs s_is_end) (defBody s_is_end) (defScope s_is_end) .none kV21 dc21 pm21 an21 cd21 ct21), sl21⟩) (c21 : PySem.W.codeIn K cd21 "is_end" = true) (k21 : PySem.W.keepIn K (.ref f21) = true)
    {f22 : Addr} {od22 an22 : Option Addr} {sl22 : Array (Option Value)} {oc22 kV22 dc22 pm22 cd22 ct22 : Value}
    (a22 : PySem.W.nsIn K mainGlobals "ends_by" = some (some (.ref f22))) (l22 : K.lookup f22 = some ⟨oc22, od22, .func (PySem.W.fnOf "ends_by" "ends_by" (defArgs s_ends_by) (defBody s_ends_by) (defScope s_ends_by) .none kV22 dc22 pm22 an22 cd22 ct22), sl22⟩) (c22 : PySem.W.codeIn K cd22 "ends_by" = true) (k22 : PySem.W.keepIn K (.ref f22) = true)
    {f23 : Addr} {od23 an23 : Option Addr} {sl23 : Array (Option Value)} {oc23 kV23 dc23 pm23 cd23 ct23 : Value}
    (a23 : PySem.W.nsIn K mainGlobals "gone_in" = some (some (.ref f23))) (l23 : K.lookup f23 = some ⟨oc23, od23, .func (PySem.W.fnOf "gone_in" "gone_in" (defArgs s_gone_in) (defBody s_gone_in) (defScope s_gone_in) .none kV23 dc23 pm23 an23 cd23 ct23), sl23⟩) (c23 : PySem.W.codeIn K cd23 "gone_in" = true) (k23 : PySem.W.keepIn K (.ref f23) = true)
    {f24 : Addr} {od24 an24 : Option Addr} {sl24 : Array (Option Value)} {oc24 kV24 dc24 pm24 cd24 ct24 : Value}
    (a24 : PySem.W.nsIn K mainGlobals "folded_in" = some (some (.ref f24))) (l24 : K.lookup f24 = some ⟨oc24, od24, .func (PySem.W.fnOf "folded_in" "folded_in" (defArgs s_folded_in) (defBody s_folded_in) (defScope s_folded_in) .none kV24 dc24 pm24 an24 cd24 ct24), sl24⟩) (c24 : PySem.W.codeIn K cd24 "folded_in" = true) (k24 : PySem.W.keepIn K (.ref f24) = true)
    {f25 : Addr} {od25 an25 : Option Addr} {sl25 : Array (Option Value)} {oc25 kV25 dc25 pm25 cd25 ct25 : Value}
    (a25 : PySem.W.nsIn K mainGlobals "joined_in" = some (some (.ref f25))) (l25 : K.lookup f25 = some ⟨oc25, od25, .func (PySem.W.fnOf "joined_in" "joined_in" (defArgs s_joined_in) (defBody s_joined_in) (defScope s_joined_in) .none kV25 dc25 pm25 an25 cd25 ct25), sl25⟩) (c25 : PySem.W.codeIn K cd25 "joined_in" = true) (k25 : PySem.W.keepIn K (.ref f25) = true)
    {f26 : Addr} {od26 an26 : Option Addr} {sl26 : Array (Option Value)} {oc26 kV26 dc26 pm26 cd26 ct26 : Value}
    (a26 : PySem.W.nsIn K mainGlobals "carried_in" = some (some (.ref f26))) (l26 : K.lookup f26 = some ⟨oc26, od26, .func (PySem.W.fnOf "carried_in" "carried_in" (defArgs s_carried_in) (defBody s_carried_in) (defScope s_carried_in) .none kV26 dc26 pm26 an26 cd26 ct26), sl26⟩) (c26 : PySem.W.codeIn K cd26 "carried_in" = true) (k26 : PySem.W.keepIn K (.ref f26) = true)
    {f27 : Addr} {od27 an27 : Option Addr} {sl27 : Array (Option Value)} {oc27 kV27 dc27 pm27 cd27 ct27 : Value}
    (a27 : PySem.W.nsIn K mainGlobals "cut_in" = some (some (.ref f27))) (l27 : K.lookup f27 = some ⟨oc27, od27, .func (PySem.W.fnOf "cut_in" "cut_in" (defArgs s_cut_in) (defBody s_cut_in) (defScope s_cut_in) .none kV27 dc27 pm27 an27 cd27 ct27), sl27⟩) (c27 : PySem.W.codeIn K cd27 "cut_in" = true) (k27 : PySem.W.keepIn K (.ref f27) = true)
    {f28 : Addr} {od28 an28 : Option Addr} {sl28 : Array (Option Value)} {oc28 kV28 dc28 pm28 cd28 ct28 : Value}
    (a28 : PySem.W.nsIn K mainGlobals "freed_in" = some (some (.ref f28))) (l28 : K.lookup f28 = some ⟨oc28, od28, .func (PySem.W.fnOf "freed_in" "freed_in" (defArgs s_freed_in) (defBody s_freed_in) (defScope s_freed_in) .none kV28 dc28 pm28 an28 cd28 ct28), sl28⟩) (c28 : PySem.W.codeIn K cd28 "freed_in" = true) (k28 : PySem.W.keepIn K (.ref f28) = true)
    {f29 : Addr} {od29 an29 : Option Addr} {sl29 : Array (Option Value)} {oc29 kV29 dc29 pm29 cd29 ct29 : Value}
    (a29 : PySem.W.nsIn K mainGlobals "hall_behind" = some (some (.ref f29))) (l29 : K.lookup f29 = some ⟨oc29, od29, .func (PySem.W.fnOf "hall_behind" "hall_behind" (defArgs s_hall_behind) (defBody s_hall_behind) (defScope s_hall_behind) .none kV29 dc29 pm29 an29 cd29 ct29), sl29⟩) (c29 : PySem.W.codeIn K cd29 "hall_behind" = true) (k29 : PySem.W.keepIn K (.ref f29) = true)
    {f30 : Addr} {od30 an30 : Option Addr} {sl30 : Array (Option Value)} {oc30 kV30 dc30 pm30 cd30 ct30 : Value}
    (a30 : PySem.W.nsIn K mainGlobals "deed_done" = some (some (.ref f30))) (l30 : K.lookup f30 = some ⟨oc30, od30, .func (PySem.W.fnOf "deed_done" "deed_done" (defArgs s_deed_done) (defBody s_deed_done) (defScope s_deed_done) .none kV30 dc30 pm30 an30 cd30 ct30), sl30⟩) (c30 : PySem.W.codeIn K cd30 "deed_done" = true) (k30 : PySem.W.keepIn K (.ref f30) = true)
    {f31 : Addr} {od31 an31 : Option Addr} {sl31 : Array (Option Value)} {oc31 kV31 dc31 pm31 cd31 ct31 : Value}
    (a31 : PySem.W.nsIn K mainGlobals "_law_cell_at" = some (some (.ref f31))) (l31 : K.lookup f31 = some ⟨oc31, od31, .func (PySem.W.fnOf "_law_cell_at" "_law_cell_at" (defArgs s_dcell) (defBody s_dcell) (defScope s_dcell) .none kV31 dc31 pm31 an31 cd31 ct31), sl31⟩) (c31 : PySem.W.codeIn K cd31 "_law_cell_at" = true) (k31 : PySem.W.keepIn K (.ref f31) = true)
    {f32 : Addr} {od32 an32 : Option Addr} {sl32 : Array (Option Value)} {oc32 kV32 dc32 pm32 cd32 ct32 : Value}
    (a32 : PySem.W.nsIn K mainGlobals "_law_big" = some (some (.ref f32))) (l32 : K.lookup f32 = some ⟨oc32, od32, .func (PySem.W.fnOf "_law_big" "_law_big" (defArgs s_big) (defBody s_big) (defScope s_big) .none kV32 dc32 pm32 an32 cd32 ct32), sl32⟩) (c32 : PySem.W.codeIn K cd32 "_law_big" = true) (k32 : PySem.W.keepIn K (.ref f32) = true)
    {f33 : Addr} {od33 an33 : Option Addr} {sl33 : Array (Option Value)} {oc33 kV33 dc33 pm33 cd33 ct33 : Value}
    (a33 : PySem.W.nsIn K mainGlobals "_law_take" = some (some (.ref f33))) (l33 : K.lookup f33 = some ⟨oc33, od33, .func (PySem.W.fnOf "_law_take" "_law_take" (defArgs s_btake) (defBody s_btake) (defScope s_btake) .none kV33 dc33 pm33 an33 cd33 ct33), sl33⟩) (c33 : PySem.W.codeIn K cd33 "_law_take" = true) (k33 : PySem.W.keepIn K (.ref f33) = true)
    {f34 : Addr} {od34 an34 : Option Addr} {sl34 : Array (Option Value)} {oc34 kV34 dc34 pm34 cd34 ct34 : Value}
    (a34 : PySem.W.nsIn K mainGlobals "_law_weighing" = some (some (.ref f34))) (l34 : K.lookup f34 = some ⟨oc34, od34, .func (PySem.W.fnOf "_law_weighing" "_law_weighing" (defArgs s_bweighing) (defBody s_bweighing) (defScope s_bweighing) .none kV34 dc34 pm34 an34 cd34 ct34), sl34⟩) (c34 : PySem.W.codeIn K cd34 "_law_weighing" = true) (k34 : PySem.W.keepIn K (.ref f34) = true)
    {f35 : Addr} {od35 an35 : Option Addr} {sl35 : Array (Option Value)} {oc35 kV35 dc35 pm35 cd35 ct35 : Value}
    (a35 : PySem.W.nsIn K mainGlobals "_law_pairing" = some (some (.ref f35))) (l35 : K.lookup f35 = some ⟨oc35, od35, .func (PySem.W.fnOf "_law_pairing" "_law_pairing" (defArgs s_bpairing) (defBody s_bpairing) (defScope s_bpairing) .none kV35 dc35 pm35 an35 cd35 ct35), sl35⟩) (c35 : PySem.W.codeIn K cd35 "_law_pairing" = true) (k35 : PySem.W.keepIn K (.ref f35) = true)
    {f36 : Addr} {od36 an36 : Option Addr} {sl36 : Array (Option Value)} {oc36 kV36 dc36 pm36 cd36 ct36 : Value}
    (a36 : PySem.W.nsIn K mainGlobals "_law_hall" = some (some (.ref f36))) (l36 : K.lookup f36 = some ⟨oc36, od36, .func (PySem.W.fnOf "_law_hall" "_law_hall" (defArgs s_bhall) (defBody s_bhall) (defScope s_bhall) .none kV36 dc36 pm36 an36 cd36 ct36), sl36⟩) (c36 : PySem.W.codeIn K cd36 "_law_hall" = true) (k36 : PySem.W.keepIn K (.ref f36) = true)
    {f37 : Addr} {od37 an37 : Option Addr} {sl37 : Array (Option Value)} {oc37 kV37 dc37 pm37 cd37 ct37 : Value}
    (a37 : PySem.W.nsIn K mainGlobals "_law_behind" = some (some (.ref f37))) (l37 : K.lookup f37 = some ⟨oc37, od37, .func (PySem.W.fnOf "_law_behind" "_law_behind" (defArgs s_lbehind) (defBody s_lbehind) (defScope s_lbehind) .none kV37 dc37 pm37 an37 cd37 ct37), sl37⟩) (c37 : PySem.W.codeIn K cd37 "_law_behind" = true) (k37 : PySem.W.keepIn K (.ref f37) = true)
    {f38 : Addr} {od38 an38 : Option Addr} {sl38 : Array (Option Value)} {oc38 kV38 dc38 pm38 cd38 ct38 : Value}
    (a38 : PySem.W.nsIn K mainGlobals "_law_part" = some (some (.ref f38))) (l38 : K.lookup f38 = some ⟨oc38, od38, .func (PySem.W.fnOf "_law_part" "_law_part" (defArgs s_lpart) (defBody s_lpart) (defScope s_lpart) .none kV38 dc38 pm38 an38 cd38 ct38), sl38⟩) (c38 : PySem.W.codeIn K cd38 "_law_part" = true) (k38 : PySem.W.keepIn K (.ref f38) = true)
    {f39 : Addr} {od39 an39 : Option Addr} {sl39 : Array (Option Value)} {oc39 kV39 dc39 pm39 cd39 ct39 : Value}
    (a39 : PySem.W.nsIn K mainGlobals "_law_sorts" = some (some (.ref f39))) (l39 : K.lookup f39 = some ⟨oc39, od39, .func (PySem.W.fnOf "_law_sorts" "_law_sorts" (defArgs s_lsorts) (defBody s_lsorts) (defScope s_lsorts) .none kV39 dc39 pm39 an39 cd39 ct39), sl39⟩) (c39 : PySem.W.codeIn K cd39 "_law_sorts" = true) (k39 : PySem.W.keepIn K (.ref f39) = true)
    {f40 : Addr} {od40 an40 : Option Addr} {sl40 : Array (Option Value)} {oc40 kV40 dc40 pm40 cd40 ct40 : Value}
    (a40 : PySem.W.nsIn K mainGlobals "_law_free" = some (some (.ref f40))) (l40 : K.lookup f40 = some ⟨oc40, od40, .func (PySem.W.fnOf "_law_free" "_law_free" (defArgs s_lfree) (defBody s_lfree) (defScope s_lfree) .none kV40 dc40 pm40 an40 cd40 ct40), sl40⟩) (c40 : PySem.W.codeIn K cd40 "_law_free" = true) (k40 : PySem.W.keepIn K (.ref f40) = true)
    {f41 : Addr} {od41 an41 : Option Addr} {sl41 : Array (Option Value)} {oc41 kV41 dc41 pm41 cd41 ct41 : Value}
    (a41 : PySem.W.nsIn K mainGlobals "_law_is_whole" = some (some (.ref f41))) (l41 : K.lookup f41 = some ⟨oc41, od41, .func (PySem.W.fnOf "_law_is_whole" "_law_is_whole" (defArgs s_whole) (defBody s_whole) (defScope s_whole) .none kV41 dc41 pm41 an41 cd41 ct41), sl41⟩) (c41 : PySem.W.codeIn K cd41 "_law_is_whole" = true) (k41 : PySem.W.keepIn K (.ref f41) = true)
    {f42 : Addr} {od42 an42 : Option Addr} {sl42 : Array (Option Value)} {oc42 kV42 dc42 pm42 cd42 ct42 : Value}
    (a42 : PySem.W.nsIn K mainGlobals "_law_told_right" = some (some (.ref f42))) (l42 : K.lookup f42 = some ⟨oc42, od42, .func (PySem.W.fnOf "_law_told_right" "_law_told_right" (defArgs s_told_right) (defBody s_told_right) (defScope s_told_right) .none kV42 dc42 pm42 an42 cd42 ct42), sl42⟩) (c42 : PySem.W.codeIn K cd42 "_law_told_right" = true) (k42 : PySem.W.keepIn K (.ref f42) = true)
    {f43 : Addr} {od43 an43 : Option Addr} {sl43 : Array (Option Value)} {oc43 kV43 dc43 pm43 cd43 ct43 : Value}
    (a43 : PySem.W.nsIn K mainGlobals "_law_refused" = some (some (.ref f43))) (l43 : K.lookup f43 = some ⟨oc43, od43, .func (PySem.W.fnOf "_law_refused" "_law_refused" (defArgs s_refused) (defBody s_refused) (defScope s_refused) .none kV43 dc43 pm43 an43 cd43 ct43), sl43⟩) (c43 : PySem.W.codeIn K cd43 "_law_refused" = true) (k43 : PySem.W.keepIn K (.ref f43) = true)
    {f44 : Addr} {od44 an44 : Option Addr} {sl44 : Array (Option Value)} {oc44 kV44 dc44 pm44 cd44 ct44 : Value}
    (a44 : PySem.W.nsIn K mainGlobals "_law_done_right" = some (some (.ref f44))) (l44 : K.lookup f44 = some ⟨oc44, od44, .func (PySem.W.fnOf "_law_done_right" "_law_done_right" (defArgs s_done_right) (defBody s_done_right) (defScope s_done_right) .none kV44 dc44 pm44 an44 cd44 ct44), sl44⟩) (c44 : PySem.W.codeIn K cd44 "_law_done_right" = true) (k44 : PySem.W.keepIn K (.ref f44) = true)
    {f45 : Addr} {od45 an45 : Option Addr} {sl45 : Array (Option Value)} {oc45 kV45 dc45 pm45 cd45 ct45 : Value}
    (a45 : PySem.W.nsIn K mainGlobals "_law_right" = some (some (.ref f45))) (l45 : K.lookup f45 = some ⟨oc45, od45, .func (PySem.W.fnOf "_law_right" "_law_right" (defArgs s_right) (defBody s_right) (defScope s_right) .none kV45 dc45 pm45 an45 cd45 ct45), sl45⟩) (c45 : PySem.W.codeIn K cd45 "_law_right" = true) (k45 : PySem.W.keepIn K (.ref f45) = true)
    {f46 : Addr} {od46 an46 : Option Addr} {sl46 : Array (Option Value)} {oc46 kV46 dc46 pm46 cd46 ct46 : Value}
    (a46 : PySem.W.nsIn K mainGlobals "law" = some (some (.ref f46))) (l46 : K.lookup f46 = some ⟨oc46, od46, .func (PySem.W.fnOf "law" "law" (defArgs s_law) (defBody s_law) (defScope s_law) .none kV46 dc46 pm46 an46 cd46 ct46), sl46⟩) (c46 : PySem.W.codeIn K cd46 "law" = true) (k46 : PySem.W.keepIn K (.ref f46) = true)
    (z_max : PySem.W.nsIn K mainGlobals "max" = some none)
    (z_min : PySem.W.nsIn K mainGlobals "min" = some none)
    (z_sorted : PySem.W.nsIn K mainGlobals "sorted" = some none)
    (z_int : PySem.W.nsIn K mainGlobals "int" = some none)
    (z_isinstance : PySem.W.nsIn K mainGlobals "isinstance" = some none)
    (z_bool : PySem.W.nsIn K mainGlobals "bool" = some none)
    (z_len : PySem.W.nsIn K mainGlobals "len" = some none)
    (z_all : PySem.W.nsIn K mainGlobals "all" = some none)
    (z_list : PySem.W.nsIn K mainGlobals "list" = some none)
    (z_str : PySem.W.nsIn K mainGlobals "str" = some none)
    (z_tuple : PySem.W.nsIn K mainGlobals "tuple" = some none)
    (z_abs : PySem.W.nsIn K mainGlobals "abs" = some none)
    (z_range : PySem.W.nsIn K mainGlobals "range" = some none)
    (z_ValueError : PySem.W.nsIn K mainGlobals "ValueError" = some none)
    {A_CordError : Addr} (y_CordError : PySem.W.nsIn K mainGlobals "CordError" = some (some (.ref A_CordError)))
    {A_TooMany : Addr} (y_TooMany : PySem.W.nsIn K mainGlobals "TooMany" = some (some (.ref A_TooMany)))
    {A_NoDeed : Addr} (y_NoDeed : PySem.W.nsIn K mainGlobals "NoDeed" = some (some (.ref A_NoDeed)))
    {A_NoRow : Addr} (y_NoRow : PySem.W.nsIn K mainGlobals "NoRow" = some (some (.ref A_NoRow)))
    {A_NoCord : Addr} (y_NoCord : PySem.W.nsIn K mainGlobals "NoCord" = some (some (.ref A_NoCord)))
    {A_NoTurn : Addr} (y_NoTurn : PySem.W.nsIn K mainGlobals "NoTurn" = some (some (.ref A_NoTurn)))
    {A_NoText : Addr} (y_NoText : PySem.W.nsIn K mainGlobals "NoText" = some (some (.ref A_NoText)))
    {A_NoSheet : Addr} (y_NoSheet : PySem.W.nsIn K mainGlobals "NoSheet" = some (some (.ref A_NoSheet)))
    {A_NoName : Addr} (y_NoName : PySem.W.nsIn K mainGlobals "NoName" = some (some (.ref A_NoName)))
    (o0_NoDeed : PySem.W.excIn K A_NoDeed [.type "ValueError", .type "Exception", .type "BaseException", .type "object"] "ValueError.__new__" = true)
    (o1_NoDeed : PySem.W.keepIn K (.ref A_NoDeed) = true)
    (o2_NoDeed : PySem.W.subIn K (.ref A_NoDeed) (.type "BaseException") = some true)
    (o3_NoDeed : PySem.W.typeIn K (.ref A_NoDeed) = some (.type "type"))
    (e0_NoDeed : PySem.W.findIn K (.ref A_NoDeed) "__getattribute__" = some (some (.builtin "BaseException.__getattribute__")))
    (e1_NoDeed : PySem.W.findIn K (.ref A_NoDeed) "__getattr__" = some none)
    (e3_NoDeed : PySem.W.hasDictIn K A_NoDeed = true)
    (e4_NoDeed : PySem.W.findIn K (.ref A_NoDeed) "__class__" = some (some (.builtin "object.__class__")))
    (e7_NoDeed : PySem.W.mroIn K A_NoDeed (.type "object") = some true)
    (x0_NoDeed : PySem.W.exmOne K (.ref A_NoDeed) (.ref A_CordError) = some true)
    (v0_NoDeed : PySem.W.kitOne K (.ref A_NoDeed) (.type "ValueError") = some true)
    (t_CordError_NoDeed : PySem.W.kitOne K (.ref A_NoDeed) (.ref A_CordError) = some (subE "NoDeed" "CordError"))
    (t_TooMany_NoDeed : PySem.W.kitOne K (.ref A_NoDeed) (.ref A_TooMany) = some (subE "NoDeed" "TooMany"))
    (t_NoDeed_NoDeed : PySem.W.kitOne K (.ref A_NoDeed) (.ref A_NoDeed) = some (subE "NoDeed" "NoDeed"))
    (t_NoRow_NoDeed : PySem.W.kitOne K (.ref A_NoDeed) (.ref A_NoRow) = some (subE "NoDeed" "NoRow"))
    (t_NoCord_NoDeed : PySem.W.kitOne K (.ref A_NoDeed) (.ref A_NoCord) = some (subE "NoDeed" "NoCord"))
    (t_NoTurn_NoDeed : PySem.W.kitOne K (.ref A_NoDeed) (.ref A_NoTurn) = some (subE "NoDeed" "NoTurn"))
    (t_NoText_NoDeed : PySem.W.kitOne K (.ref A_NoDeed) (.ref A_NoText) = some (subE "NoDeed" "NoText"))
    (t_NoSheet_NoDeed : PySem.W.kitOne K (.ref A_NoDeed) (.ref A_NoSheet) = some (subE "NoDeed" "NoSheet"))
    (t_NoName_NoDeed : PySem.W.kitOne K (.ref A_NoDeed) (.ref A_NoName) = some (subE "NoDeed" "NoName"))
    (e5_all : PySem.W.specialIn K (.builtin "object.__class__") "__get__" = some (some (.builtin "getset_descriptor.__get__"))) (e6_all : PySem.W.takesIn K (.builtin "object.__class__") = some true)
    : ∃ fd : FuncData, (∀ (s : Shared) (v : Value), BindsTo s fd ⟨[v], []⟩ [("_law_script", v)]) ∧ ∀ base : Heap, K.In base → base.Ns mainGlobals mg → FnOk l.prog w K mg base CX0 11 fa fd ["_law_script"] (LSp K sp_law) := by
  have e := hfa.symm.trans (PySem.W.mg_of X G a46)
  cases e
  have m_max := PySem.W.mg_none_of X G z_max
  have m_min := PySem.W.mg_none_of X G z_min
  have m_sorted := PySem.W.mg_none_of X G z_sorted
  have m_int := PySem.W.mg_none_of X G z_int
  have m_isinstance := PySem.W.mg_none_of X G z_isinstance
  have m_bool := PySem.W.mg_none_of X G z_bool
  have m_len := PySem.W.mg_none_of X G z_len
  have m_all := PySem.W.mg_none_of X G z_all
  have m_list := PySem.W.mg_none_of X G z_list
  have m_str := PySem.W.mg_none_of X G z_str
  have m_tuple := PySem.W.mg_none_of X G z_tuple
  have m_abs := PySem.W.mg_none_of X G z_abs
  have m_range := PySem.W.mg_none_of X G z_range
  have m_ValueError := PySem.W.mg_none_of X G z_ValueError
  refine ⟨PySem.W.fnOf "law" "law" (defArgs s_law) (defBody s_law) (defScope s_law) .none kV46 dc46 pm46 an46 cd46 ct46, fun s v => .of_eq rfl, fun base _ _ => ?_⟩
  let bk : String → Addr := fun s => if s = "TooMany" then A_TooMany else if s = "NoDeed" then A_NoDeed else if s = "NoRow" then A_NoRow else if s = "NoCord" then A_NoCord else if s = "NoTurn" then A_NoTurn else if s = "NoText" then A_NoText else if s = "NoSheet" then A_NoSheet else if s = "NoName" then A_NoName else A_CordError
  have BK : Book K mg bk ["NoDeed"] ["CordError", "TooMany", "NoDeed", "NoRow", "NoCord", "NoTurn", "NoText", "NoSheet", "NoName"] := by
    refine ⟨fun c hc => ?_, fun c hc => ?_, fun c hc => ?_, fun c hc y hy => ?_, fun c hc => ?_, fun y hy => ?_⟩
    · simp only [List.mem_cons, List.not_mem_nil, or_false] at hc
      rcases hc with rfl
      · exact ⟨o0_NoDeed, o1_NoDeed, o2_NoDeed, o3_NoDeed⟩
    · simp only [List.mem_cons, List.not_mem_nil, or_false] at hc
      rcases hc with rfl
      · exact ⟨e0_NoDeed, e1_NoDeed, o2_NoDeed, e3_NoDeed, e4_NoDeed, e5_all, e6_all, e7_NoDeed⟩
    · simp only [List.mem_cons, List.not_mem_nil, or_false] at hc
      rcases hc with rfl
      · exact x0_NoDeed
    · simp only [List.mem_cons, List.not_mem_nil, or_false] at hc hy
      rcases hc with rfl
      · rcases hy with rfl | rfl | rfl | rfl | rfl | rfl | rfl | rfl | rfl
        · exact t_CordError_NoDeed
        · exact t_TooMany_NoDeed
        · exact t_NoDeed_NoDeed
        · exact t_NoRow_NoDeed
        · exact t_NoCord_NoDeed
        · exact t_NoTurn_NoDeed
        · exact t_NoText_NoDeed
        · exact t_NoSheet_NoDeed
        · exact t_NoName_NoDeed
    · simp only [List.mem_cons, List.not_mem_nil, or_false] at hc
      rcases hc with rfl
      · exact v0_NoDeed
    · simp only [List.mem_cons, List.not_mem_nil, or_false] at hy
      rcases hy with rfl | rfl | rfl | rfl | rfl | rfl | rfl | rfl | rfl
      · exact PySem.W.mg_of X G y_CordError
      · exact PySem.W.mg_of X G y_TooMany
      · exact PySem.W.mg_of X G y_NoDeed
      · exact PySem.W.mg_of X G y_NoRow
      · exact PySem.W.mg_of X G y_NoCord
      · exact PySem.W.mg_of X G y_NoTurn
      · exact PySem.W.mg_of X G y_NoText
      · exact PySem.W.mg_of X G y_NoSheet
      · exact PySem.W.mg_of X G y_NoName
  have U31 := fun_mk (st := s_dcell) l31 c31 k31
  have F_dcell : Fn3 l.prog w K mg base "_law_cell_at" 1 ["_law_script", "_law_k"] sp_dcell := ⟨⟨f31, _, PySem.W.mg_of X G a31, U31.kp, U31.binds (fun _ _ _ _ _ _ us hl => match us, hl with | [_, _], _ => rfl), fn3 U31 sc_dcell (len_dcell) (fun cdv A outer s H E hr => d_dcell m_len cdv A outer s H E hr) rd_dcell⟩, mono_dcell⟩
  have U32 := fun_mk (st := s_big) l32 c32 k32
  have F_big : Fn3 l.prog w K mg base "_law_big" 2 ["_law_script", "_law_k"] sp_big := ⟨⟨f32, _, PySem.W.mg_of X G a32, U32.kp, U32.binds (fun _ _ _ _ _ _ us hl => match us, hl with | [_, _], _ => rfl), fn3 U32 sc_big (len_big) (fun cdv A outer s H E hr => d_big m_abs m_range F_dcell cdv A outer s H E hr) rd_big⟩, mono_big⟩
  have U33 := fun_mk (st := s_btake) l33 c33 k33
  have F_btake : Fn3 l.prog w K mg base "_law_take" 1 ["_law_bag", "_law_many"] sp_btake := ⟨⟨f33, _, PySem.W.mg_of X G a33, U33.kp, U33.binds (fun _ _ _ _ _ _ us hl => match us, hl with | [_, _], _ => rfl), fn3 U33 sc_btake (len_btake) (fun cdv A outer s H E hr => d_btake  cdv A outer s H E hr) rd_btake⟩, mono_btake⟩
  have U34 := fun_mk (st := s_bweighing) l34 c34 k34
  have F_bweighing : Fn3 l.prog w K mg base "_law_weighing" 3 ["_law_n", "_law_head", "_law_script", "_law_at"] sp_bweighing := ⟨⟨f34, _, PySem.W.mg_of X G a34, U34.kp, U34.binds (fun _ _ _ _ _ _ us hl => match us, hl with | [_, _, _, _], _ => rfl), fn3 U34 sc_bweighing (len_bweighing) (fun cdv A outer s H E hr => d_bweighing m_range m_tuple F_btake F_big cdv A outer s H E hr) rd_bweighing⟩, mono_bweighing⟩
  have U35 := fun_mk (st := s_bpairing) l35 c35 k35
  have F_bpairing : Fn3 l.prog w K mg base "_law_pairing" 3 ["_law_n", "_law_head", "_law_script", "_law_at"] sp_bpairing := ⟨⟨f35, _, PySem.W.mg_of X G a35, U35.kp, U35.binds (fun _ _ _ _ _ _ us hl => match us, hl with | [_, _, _, _], _ => rfl), fn3 U35 sc_bpairing (len_bpairing) (fun cdv A outer s H E hr => d_bpairing m_max m_min F_btake F_big cdv A outer s H E hr) rd_bpairing⟩, mono_bpairing⟩
  have U36 := fun_mk (st := s_bhall) l36 c36 k36
  have F_bhall : Fn3 l.prog w K mg base "_law_hall" 4 ["_law_script", "_law_at"] sp_bhall := ⟨⟨f36, _, PySem.W.mg_of X G a36, U36.kp, U36.binds (fun _ _ _ _ _ _ us hl => match us, hl with | [_, _], _ => rfl), fn3 U36 sc_bhall (len_bhall) (fun cdv A outer s H E hr => d_bhall m_int m_range F_big F_btake F_bweighing F_bpairing cdv A outer s H E hr) rd_bhall⟩, mono_bhall⟩
  have U37 := fun_mk (st := s_lbehind) l37 c37 k37
  have F_lbehind : Fn3 l.prog w K mg base "_law_behind" 1 ["_law_pairing_here"] sp_lbehind := ⟨⟨f37, _, PySem.W.mg_of X G a37, U37.kp, U37.binds (fun _ _ _ _ _ _ us hl => match us, hl with | [_], _ => rfl), fn3 U37 sc_lbehind (len_lbehind) (fun cdv A outer s H E hr => d_lbehind  cdv A outer s H E hr) rd_lbehind⟩, mono_lbehind⟩
  have U4 := fun_mk (st := s_look) l4 c4 k4
  have F_look : Fn3X l.prog w K mg base bk "look" 1 ["right"] sp_look := ⟨⟨f4, _, PySem.W.mg_of X G a4, U4.kp, U4.binds (fun _ _ _ _ _ _ us hl => match us, hl with | [_], _ => rfl), fn3X U4 sc_look (len_look) (fun cdv A outer s H E m0 E4 hr hE tk => d_look BK cdv A outer s H E m0 E4 hr hE tk) rd_look⟩, mono_look⟩
  have U20 := fun_mk (st := s_is_number) l20 c20 k20
  have F_is_number : Fn3 l.prog w K mg base "is_number" 1 ["hall", "thing"] sp_is_number := ⟨⟨f20, _, PySem.W.mg_of X G a20, U20.kp, U20.binds (fun _ _ _ _ _ _ us hl => match us, hl with | [_, _], _ => rfl), fn3 U20 sc_is_number (len_is_number) (fun cdv A outer s H E hr => d_is_number m_int m_isinstance m_bool m_len cdv A outer s H E hr) rd_is_number⟩, mono_is_number⟩
  have U5 := fun_mk (st := s_is_still) l5 c5 k5
  have F_is_still : Fn3 l.prog w K mg base "is_still" 1 ["pairing"] sp_is_still := ⟨⟨f5, _, PySem.W.mg_of X G a5, U5.kp, U5.binds (fun _ _ _ _ _ _ us hl => match us, hl with | [_], _ => rfl), fn3 U5 sc_is_still (len_is_still) (fun cdv A outer s H E hr => d_is_still  cdv A outer s H E hr) rd_is_still⟩, mono_is_still⟩
  have U18 := fun_mk (st := s_without) l18 c18 k18
  have F_without : Fn3 l.prog w K mg base "without" 1 ["pairings", "k"] sp_without := ⟨⟨f18, _, PySem.W.mg_of X G a18, U18.kp, U18.binds (fun _ _ _ _ _ _ us hl => match us, hl with | [_, _], _ => rfl), fn3 U18 sc_without (len_without) (fun cdv A outer s H E hr => d_without  cdv A outer s H E hr) rd_without⟩, mono_without⟩
  have U23 := fun_mk (st := s_gone_in) l23 c23 k23
  have F_gone_in : Fn3X l.prog w K mg base bk "gone_in" 2 ["hall", "deed"] sp_gone_in := ⟨⟨f23, _, PySem.W.mg_of X G a23, U23.kp, U23.binds (fun _ _ _ _ _ _ us hl => match us, hl with | [_, _], _ => rfl), fn3X U23 sc_gone_in (len_gone_in) (fun cdv A outer s H E m0 E4 hr hE tk => d_gone_in m_len m_list F_look F_is_number F_is_still F_without cdv A outer s H E m0 E4 hr hE tk) rd_gone_in⟩, mono_gone_in⟩
  have U6 := fun_mk (st := s_is_bent) l6 c6 k6
  have F_is_bent : Fn3 l.prog w K mg base "is_bent" 2 ["pairing"] sp_is_bent := ⟨⟨f6, _, PySem.W.mg_of X G a6, U6.kp, U6.binds (fun _ _ _ _ _ _ us hl => match us, hl with | [_], _ => rfl), fn3 U6 sc_is_bent (len_is_bent) (fun cdv A outer s H E hr => d_is_bent F_is_still cdv A outer s H E hr) rd_is_bent⟩, mono_is_bent⟩
  have U19 := fun_mk (st := s_instead) l19 c19 k19
  have F_instead : Fn3 l.prog w K mg base "instead" 1 ["pairings", "k", "made"] sp_instead := ⟨⟨f19, _, PySem.W.mg_of X G a19, U19.kp, U19.binds (fun _ _ _ _ _ _ us hl => match us, hl with | [_, _, _], _ => rfl), fn3 U19 sc_instead (len_instead) (fun cdv A outer s H E hr => d_instead  cdv A outer s H E hr) rd_instead⟩, mono_instead⟩
  have U8 := fun_mk (st := s_sum_of_ends) l8 c8 k8
  have F_sum_of_ends : Fn3 l.prog w K mg base "sum_of_ends" 1 ["pairing"] sp_sum_of_ends := ⟨⟨f8, _, PySem.W.mg_of X G a8, U8.kp, U8.binds (fun _ _ _ _ _ _ us hl => match us, hl with | [_], _ => rfl), fn3 U8 sc_sum_of_ends (len_sum_of_ends) (fun cdv A outer s H E hr => d_sum_of_ends  cdv A outer s H E hr) rd_sum_of_ends⟩, mono_sum_of_ends⟩
  have U9 := fun_mk (st := s_folded) l9 c9 k9
  have F_folded : Fn3 l.prog w K mg base "folded" 2 ["pairing"] sp_folded := ⟨⟨f9, _, PySem.W.mg_of X G a9, U9.kp, U9.binds (fun _ _ _ _ _ _ us hl => match us, hl with | [_], _ => rfl), fn3 U9 sc_folded (len_folded) (fun cdv A outer s H E hr => d_folded F_sum_of_ends cdv A outer s H E hr) rd_folded⟩, mono_folded⟩
  have U24 := fun_mk (st := s_folded_in) l24 c24 k24
  have F_folded_in : Fn3X l.prog w K mg base bk "folded_in" 3 ["hall", "deed"] sp_folded_in := ⟨⟨f24, _, PySem.W.mg_of X G a24, U24.kp, U24.binds (fun _ _ _ _ _ _ us hl => match us, hl with | [_, _], _ => rfl), fn3X U24 sc_folded_in (len_folded_in) (fun cdv A outer s H E m0 E4 hr hE tk => d_folded_in m_len m_list F_look F_is_number F_is_bent F_instead F_folded cdv A outer s H E m0 E4 hr hE tk) rd_folded_in⟩, mono_folded_in⟩
  have U3 := fun_mk (st := s_is_turn) l3 c3 k3
  have F_is_turn : Fn3 l.prog w K mg base "is_turn" 1 ["pairing"] sp_is_turn := ⟨⟨f3, _, PySem.W.mg_of X G a3, U3.kp, U3.binds (fun _ _ _ _ _ _ us hl => match us, hl with | [_], _ => rfl), fn3 U3 sc_is_turn (len_is_turn) (fun cdv A outer s H E hr => d_is_turn  cdv A outer s H E hr) rd_is_turn⟩, mono_is_turn⟩
  have U11 := fun_mk (st := s_reach_end) l11 c11 k11
  have F_reach_end : Fn3 l.prog w K mg base "reach_end" 1 ["pairing"] sp_reach_end := ⟨⟨f11, _, PySem.W.mg_of X G a11, U11.kp, U11.binds (fun _ _ _ _ _ _ us hl => match us, hl with | [_], _ => rfl), fn3 U11 sc_reach_end (len_reach_end) (fun cdv A outer s H E hr => d_reach_end  cdv A outer s H E hr) rd_reach_end⟩, mono_reach_end⟩
  have U10 := fun_mk (st := s_shift_of) l10 c10 k10
  have F_shift_of : Fn3 l.prog w K mg base "shift_of" 1 ["pairing"] sp_shift_of := ⟨⟨f10, _, PySem.W.mg_of X G a10, U10.kp, U10.binds (fun _ _ _ _ _ _ us hl => match us, hl with | [_], _ => rfl), fn3 U10 sc_shift_of (len_shift_of) (fun cdv A outer s H E hr => d_shift_of  cdv A outer s H E hr) rd_shift_of⟩, mono_shift_of⟩
  have U13 := fun_mk (st := s_can_join) l13 c13 k13
  have F_can_join : Fn3 l.prog w K mg base "can_join" 2 ["one", "other"] sp_can_join := ⟨⟨f13, _, PySem.W.mg_of X G a13, U13.kp, U13.binds (fun _ _ _ _ _ _ us hl => match us, hl with | [_, _], _ => rfl), fn3 U13 sc_can_join (len_can_join) (fun cdv A outer s H E hr => d_can_join m_min m_max F_is_turn F_reach_end F_shift_of cdv A outer s H E hr) rd_can_join⟩, mono_can_join⟩
  have U12 := fun_mk (st := s_common_part) l12 c12 k12
  have F_common_part : Fn3 l.prog w K mg base "common_part" 1 ["one", "other"] sp_common_part := ⟨⟨f12, _, PySem.W.mg_of X G a12, U12.kp, U12.binds (fun _ _ _ _ _ _ us hl => match us, hl with | [_, _], _ => rfl), fn3 U12 sc_common_part (len_common_part) (fun cdv A outer s H E hr => d_common_part  cdv A outer s H E hr) rd_common_part⟩, mono_common_part⟩
  have U14 := fun_mk (st := s_joined) l14 c14 k14
  have F_joined : Fn3 l.prog w K mg base "joined" 2 ["one", "other"] sp_joined := ⟨⟨f14, _, PySem.W.mg_of X G a14, U14.kp, U14.binds (fun _ _ _ _ _ _ us hl => match us, hl with | [_, _], _ => rfl), fn3 U14 sc_joined (len_joined) (fun cdv A outer s H E hr => d_joined m_min m_max F_common_part F_shift_of F_reach_end cdv A outer s H E hr) rd_joined⟩, mono_joined⟩
  have U25 := fun_mk (st := s_joined_in) l25 c25 k25
  have F_joined_in : Fn3X l.prog w K mg base bk "joined_in" 3 ["hall", "deed"] sp_joined_in := ⟨⟨f25, _, PySem.W.mg_of X G a25, U25.kp, U25.binds (fun _ _ _ _ _ _ us hl => match us, hl with | [_, _], _ => rfl), fn3X U25 sc_joined_in (len_joined_in) (fun cdv A outer s H E m0 E4 hr hE tk => d_joined_in m_len m_list F_look F_is_number F_can_join F_instead F_without F_joined cdv A outer s H E m0 E4 hr hE tk) rd_joined_in⟩, mono_joined_in⟩
  have U7 := fun_mk (st := s_is_lead) l7 c7 k7
  have F_is_lead : Fn3 l.prog w K mg base "is_lead" 1 ["pairing"] sp_is_lead := ⟨⟨f7, _, PySem.W.mg_of X G a7, U7.kp, U7.binds (fun _ _ _ _ _ _ us hl => match us, hl with | [_], _ => rfl), fn3 U7 sc_is_lead (len_is_lead) (fun cdv A outer s H E hr => d_is_lead  cdv A outer s H E hr) rd_is_lead⟩, mono_is_lead⟩
  have U15 := fun_mk (st := s_is_within) l15 c15 k15
  have F_is_within : Fn3 l.prog w K mg base "is_within" 2 ["lead", "begin", "long"] sp_is_within := ⟨⟨f15, _, PySem.W.mg_of X G a15, U15.kp, U15.binds (fun _ _ _ _ _ _ us hl => match us, hl with | [_, _, _], _ => rfl), fn3 U15 sc_is_within (len_is_within) (fun cdv A outer s H E hr => d_is_within F_reach_end cdv A outer s H E hr) rd_is_within⟩, mono_is_within⟩
  have U2 := fun_mk (st := s_paired) l2 c2 k2
  have F_paired : Fn3 l.prog w K mg base "paired" 1 ["one", "other", "long", "turned"] sp_paired := ⟨⟨f2, _, PySem.W.mg_of X G a2, U2.kp, U2.binds (fun _ _ _ _ _ _ us hl => match us, hl with | [_, _, _, _], _ => rfl), fn3 U2 sc_paired (len_paired) (fun cdv A outer s H E hr => d_paired m_min m_max cdv A outer s H E hr) rd_paired⟩, mono_paired⟩
  have U16 := fun_mk (st := s_led_back) l16 c16 k16
  have F_led_back : Fn3 l.prog w K mg base "led_back" 2 ["lead", "begin", "long"] sp_led_back := ⟨⟨f16, _, PySem.W.mg_of X G a16, U16.kp, U16.binds (fun _ _ _ _ _ _ us hl => match us, hl with | [_, _, _], _ => rfl), fn3 U16 sc_led_back (len_led_back) (fun cdv A outer s H E hr => d_led_back F_sum_of_ends F_shift_of cdv A outer s H E hr) rd_led_back⟩, mono_led_back⟩
  have U17 := fun_mk (st := s_carried) l17 c17 k17
  have F_carried : Fn3 l.prog w K mg base "carried" 3 ["lead", "pairing", "side"] sp_carried := ⟨⟨f17, _, PySem.W.mg_of X G a17, U17.kp, U17.binds (fun _ _ _ _ _ _ us hl => match us, hl with | [_, _, _], _ => rfl), fn3 U17 sc_carried (len_carried) (fun cdv A outer s H E hr => d_carried F_paired F_led_back cdv A outer s H E hr) rd_carried⟩, mono_carried⟩
  have U26 := fun_mk (st := s_carried_in) l26 c26 k26
  have F_carried_in : Fn3X l.prog w K mg base bk "carried_in" 4 ["hall", "deed"] sp_carried_in := ⟨⟨f26, _, PySem.W.mg_of X G a26, U26.kp, U26.binds (fun _ _ _ _ _ _ us hl => match us, hl with | [_, _], _ => rfl), fn3X U26 sc_carried_in (len_carried_in) (fun cdv A outer s H E m0 E4 hr hE tk => d_carried_in m_len m_str m_isinstance m_int m_list F_look F_is_number F_is_lead F_is_within F_instead F_carried cdv A outer s H E m0 E4 hr hE tk) rd_carried_in⟩, mono_carried_in⟩
  have U21 := fun_mk (st := s_is_end) l21 c21 k21
  have F_is_end : Fn3 l.prog w K mg base "is_end" 1 ["hall", "thing"] sp_is_end := ⟨⟨f21, _, PySem.W.mg_of X G a21, U21.kp, U21.binds (fun _ _ _ _ _ _ us hl => match us, hl with | [_, _], _ => rfl), fn3 U21 sc_is_end (len_is_end) (fun cdv A outer s H E hr => d_is_end m_int m_isinstance m_bool cdv A outer s H E hr) rd_is_end⟩, mono_is_end⟩
  have U22 := fun_mk (st := s_ends_by) l22 c22 k22
  have F_ends_by : Fn3 l.prog w K mg base "ends_by" 2 ["pairings", "end"] sp_ends_by := ⟨⟨f22, _, PySem.W.mg_of X G a22, U22.kp, U22.binds (fun _ _ _ _ _ _ us hl => match us, hl with | [_, _], _ => rfl), fn3 U22 sc_ends_by (len_ends_by) (fun cdv A outer s H E hr => d_ends_by m_all F_reach_end cdv A outer s H E hr) rd_ends_by⟩, mono_ends_by⟩
  have U27 := fun_mk (st := s_cut_in) l27 c27 k27
  have F_cut_in : Fn3X l.prog w K mg base bk "cut_in" 6 ["hall", "deed"] sp_cut_in := ⟨⟨f27, _, PySem.W.mg_of X G a27, U27.kp, U27.binds (fun _ _ _ _ _ _ us hl => match us, hl with | [_, _], _ => rfl), fn3X U27 sc_cut_in (len_cut_in) (fun cdv A outer s H E m0 E4 hr hE tk => d_cut_in m_len F_look F_is_number F_is_end F_is_lead F_reach_end F_ends_by F_without cdv A outer s H E m0 E4 hr hE tk) rd_cut_in⟩, mono_cut_in⟩
  have U0 := fun_mk (st := s_part) l0 c0 k0
  have F_part : Fn3 l.prog w K mg base "part" 1 ["weighing", "begin", "end"] sp_part := ⟨⟨f0, _, PySem.W.mg_of X G a0, U0.kp, U0.binds (fun _ _ _ _ _ _ us hl => match us, hl with | [_, _, _], _ => rfl), fn3 U0 sc_part (len_part) (fun cdv A outer s H E hr => d_part m_max m_min cdv A outer s H E hr) rd_part⟩, mono_part⟩
  have U28 := fun_mk (st := s_freed_in) l28 c28 k28
  have F_freed_in : Fn3X l.prog w K mg base bk "freed_in" 3 ["hall", "deed"] sp_freed_in := ⟨⟨f28, _, PySem.W.mg_of X G a28, U28.kp, U28.binds (fun _ _ _ _ _ _ us hl => match us, hl with | [_, _], _ => rfl), fn3X U28 sc_freed_in (len_freed_in) (fun cdv A outer s H E m0 E4 hr hE tk => d_freed_in m_len m_list F_look F_is_end F_ends_by F_part cdv A outer s H E m0 E4 hr hE tk) rd_freed_in⟩, mono_freed_in⟩
  have U29 := fun_mk (st := s_hall_behind) l29 c29 k29
  have F_hall_behind : Fn3X l.prog w K mg base bk "hall_behind" 7 ["hall", "deed"] sp_hall_behind := ⟨⟨f29, _, PySem.W.mg_of X G a29, U29.kp, U29.binds (fun _ _ _ _ _ _ us hl => match us, hl with | [_, _], _ => rfl), fn3X U29 sc_hall_behind (len_hall_behind) (fun cdv A outer s H E m0 E4 hr hE tk => d_hall_behind F_gone_in F_folded_in F_joined_in F_carried_in F_cut_in F_freed_in cdv A outer s H E m0 E4 hr hE tk) rd_hall_behind⟩, mono_hall_behind⟩
  have U1 := fun_mk (st := s_sorts) l1 c1 k1
  have F_sorts : Fn3 l.prog w K mg base "sorts" 1 ["weighing"] sp_sorts := ⟨⟨f1, _, PySem.W.mg_of X G a1, U1.kp, U1.binds (fun _ _ _ _ _ _ us hl => match us, hl with | [_], _ => rfl), fn3 U1 sc_sorts (len_sorts) (fun cdv A outer s H E hr => d_sorts m_sorted cdv A outer s H E hr) rd_sorts⟩, mono_sorts⟩
  have U30 := fun_mk (st := s_deed_done) l30 c30 k30
  have F_deed_done : Fn3X l.prog w K mg base bk "deed_done" 8 ["hall", "deed"] sp_deed_done := ⟨⟨f30, _, PySem.W.mg_of X G a30, U30.kp, U30.binds (fun _ _ _ _ _ _ us hl => match us, hl with | [_, _], _ => rfl), fn3X U30 sc_deed_done (len_deed_done) (fun cdv A outer s H E m0 E4 hr hE tk => d_deed_done m_tuple m_isinstance m_str F_look F_hall_behind F_sorts F_part cdv A outer s H E m0 E4 hr hE tk) rd_deed_done⟩, mono_deed_done⟩
  have U43 := fun_mk (st := s_refused) l43 c43 k43
  have F_refused : Fn3 l.prog w K mg base "_law_refused" 9 ["_law_hall_here", "_law_deed"] sp_refused := ⟨⟨f43, _, PySem.W.mg_of X G a43, U43.kp, U43.binds (fun _ _ _ _ _ _ us hl => match us, hl with | [_, _], _ => rfl), fn3 U43 sc_refused (len_refused) (fun cdv A outer s H E hr => d_refused m_list m_isinstance m_ValueError BK F_deed_done cdv A outer s H E hr) rd_refused⟩, mono_refused⟩
  have U41 := fun_mk (st := s_whole) l41 c41 k41
  have F_whole : Fn3 l.prog w K mg base "_law_is_whole" 1 ["_law_thing"] sp_whole := ⟨⟨f41, _, PySem.W.mg_of X G a41, U41.kp, U41.binds (fun _ _ _ _ _ _ us hl => match us, hl with | [_], _ => rfl), fn3 U41 sc_whole (len_whole) (fun cdv A outer s H E hr => d_whole m_int m_isinstance m_bool cdv A outer s H E hr) rd_whole⟩, mono_whole⟩
  have U42 := fun_mk (st := s_told_right) l42 c42 k42
  have F_told_right : Fn3 l.prog w K mg base "_law_told_right" 2 ["_law_told"] sp_told_right := ⟨⟨f42, _, PySem.W.mg_of X G a42, U42.kp, U42.binds (fun _ _ _ _ _ _ us hl => match us, hl with | [_], _ => rfl), fn3 U42 sc_told_right (len_told_right) (fun cdv A outer s H E hr => d_told_right m_tuple m_isinstance m_len m_list m_bool m_all F_whole cdv A outer s H E hr) rd_told_right⟩, mono_told_right⟩
  have U44 := fun_mk (st := s_done_right) l44 c44 k44
  have F_done_right : Fn3 l.prog w K mg base "_law_done_right" 9 ["_law_hall_here", "_law_deed", "_law_due"] sp_done_right := ⟨⟨f44, _, PySem.W.mg_of X G a44, U44.kp, U44.binds (fun _ _ _ _ _ _ us hl => match us, hl with | [_, _, _], _ => rfl), fn3 U44 sc_done_right (len_done_right) (fun cdv A outer s H E hr => d_done_right m_list m_range F_deed_done F_told_right cdv A outer s H E hr) rd_done_right⟩, mono_done_right⟩
  have U45 := fun_mk (st := s_right) l45 c45 k45
  have F_right : Fn3 l.prog w K mg base "_law_right" 10 ["_law_hall_here", "_law_deed", "_law_due"] sp_right := ⟨⟨f45, _, PySem.W.mg_of X G a45, U45.kp, U45.binds (fun _ _ _ _ _ _ us hl => match us, hl with | [_, _, _], _ => rfl), fn3 U45 sc_right (len_right) (fun cdv A outer s H E hr => d_right F_refused F_done_right cdv A outer s H E hr) rd_right⟩, mono_right⟩
  have U38 := fun_mk (st := s_lpart) l38 c38 k38
  have F_lpart : Fn3 l.prog w K mg base "_law_part" 1 ["_law_weighing_here", "_law_begin", "_law_end"] sp_lpart := ⟨⟨f38, _, PySem.W.mg_of X G a38, U38.kp, U38.binds (fun _ _ _ _ _ _ us hl => match us, hl with | [_, _, _], _ => rfl), fn3 U38 sc_lpart (len_lpart) (fun cdv A outer s H E hr => d_lpart m_min m_max cdv A outer s H E hr) rd_lpart⟩, mono_lpart⟩
  have U39 := fun_mk (st := s_lsorts) l39 c39 k39
  have F_lsorts : Fn3 l.prog w K mg base "_law_sorts" 1 ["_law_weighing_here"] sp_lsorts := ⟨⟨f39, _, PySem.W.mg_of X G a39, U39.kp, U39.binds (fun _ _ _ _ _ _ us hl => match us, hl with | [_], _ => rfl), fn3 U39 sc_lsorts (len_lsorts) (fun cdv A outer s H E hr => d_lsorts m_sorted cdv A outer s H E hr) rd_lsorts⟩, mono_lsorts⟩
  have U40 := fun_mk (st := s_lfree) l40 c40 k40
  have F_lfree : Fn3 l.prog w K mg base "_law_free" 2 ["_law_hall_here", "_law_end"] sp_lfree := ⟨⟨f40, _, PySem.W.mg_of X G a40, U40.kp, U40.binds (fun _ _ _ _ _ _ us hl => match us, hl with | [_, _], _ => rfl), fn3 U40 sc_lfree (len_lfree) (fun cdv A outer s H E hr => d_lfree m_all m_list F_lbehind F_lpart F_lsorts cdv A outer s H E hr) rd_lfree⟩, mono_lfree⟩
  have U46 := fun_mk (st := s_law) l46 c46 k46
  exact fn3 U46 sc_law (len_law) (fun cdv A outer s H E hr => d_law m_range m_max F_bhall F_big F_lbehind F_right F_lfree cdv A outer s H E hr) rd_law

end F3
open PySem PySem.W PyProof.Rows
set_option maxHeartbeats 0 in
theorem PySem.Challenge.cw_farcords_k30_free_holds : PySem.Challenge.rw_farcords_k30_free.Holds := by
  w_on; o_law; k_head; (case hw => w_witness2)
  k_fill
  refine L2.walk_of (l := PySem.Challenge.rw_farcords_k30_free) (n := 63) (k := 11) (x := "_law_script") (CX := fun _ => L2.CX0) (sp := fun w => F3.LSp _ F3.sp_law) rfl (by decide) rfl ⟨rfl, by decide, by decide⟩ (fun w h Y => PySem.W.kIn_of Y) ?F (fun _ _ a ns hl o hS => F3.law_start hl o hS F3.start_law) (fun _ _ _ _ _ h => h)
  case F =>
    intro w mg fa h KX G hmg
    refine' F3.all_mk KX G hmg ?a0 ?l0 ?c0 ?k0 ?a1 ?l1 ?c1 ?k1 ?a2 ?l2 ?c2 ?k2 ?a3 ?l3 ?c3 ?k3 ?a4 ?l4 ?c4 ?k4 ?a5 ?l5 ?c5 ?k5 ?a6 ?l6 ?c6 ?k6 ?a7 ?l7 ?c7 ?k7 ?a8 ?l8 ?c8 ?k8 ?a9 ?l9 ?c9 ?k9 ?a10 ?l10 ?c10 ?k10 ?a11 ?l11 ?c11 ?k11 ?a12 ?l12 ?c12 ?k12 ?a13 ?l13 ?c13 ?k13 ?a14 ?l14 ?c14 ?k14 ?a15 ?l15 ?c15 ?k15 ?a16 ?l16 ?c16 ?k16 ?a17 ?l17 ?c17 ?k17 ?a18 ?l18 ?c18 ?k18 ?a19 ?l19 ?c19 ?k19 ?a20 ?l20 ?c20 ?k20 ?a21 ?l21 ?c21 ?k21 ?a22 ?l22 ?c22 ?k22 ?a23 ?l23 ?c23 ?k23 ?a24 ?l24 ?c24 ?k24 ?a25 ?l25 ?c25 ?k25 ?a26 ?l26 ?c26 ?k26 ?a27 ?l27 ?c27 ?k27 ?a28 ?l28 ?c28 ?k28 ?a29 ?l29 ?c29 ?k29 ?a30 ?l30 ?c30 ?k30 ?a31 ?l31 ?c31 ?k31 ?a32 ?l32 ?c32 ?k32 ?a33 ?l33 ?c33 ?k33 ?a34 ?l34 ?c34 ?k34 ?a35 ?l35 ?c35 ?k35 ?a36 ?l36 ?c36 ?k36 ?a37 ?l37 ?c37 ?k37 ?a38 ?l38 ?c38 ?k38 ?a39 ?l39 ?c39 ?k39 ?a40 ?l40 ?c40 ?k40 ?a41 ?l41 ?c41 ?k41 ?a42 ?l42 ?c42 ?k42 ?a43 ?l43 ?c43 ?k43 ?a44 ?l44 ?c44 ?k44 ?a45 ?l45 ?c45 ?k45 ?a46 ?l46 ?c46 ?k46 ?z_max ?z_min ?z_sorted ?z_int ?z_isinstance ?z_bool ?z_len ?z_all ?z_list ?z_str ?z_tuple ?z_abs ?z_range ?z_ValueError ?y_CordError ?y_TooMany ?y_NoDeed ?y_NoRow ?y_NoCord ?y_NoTurn ?y_NoText ?y_NoSheet ?y_NoName ?o0_NoDeed ?o1_NoDeed ?o2_NoDeed ?o3_NoDeed ?e0_NoDeed ?e1_NoDeed ?e3_NoDeed ?e4_NoDeed ?e7_NoDeed ?x0_NoDeed ?v0_NoDeed ?t_CordError_NoDeed ?t_TooMany_NoDeed ?t_NoDeed_NoDeed ?t_NoRow_NoDeed ?t_NoCord_NoDeed ?t_NoTurn_NoDeed ?t_NoText_NoDeed ?t_NoSheet_NoDeed ?t_NoName_NoDeed ?e5_all ?e6_all
    (case a0 => k_is)
    (case l0 => k_is)
    (case c0 => k_is)
    (case k0 => k_is)
    (case a1 => k_is)
    (case l1 => k_is)
    (case c1 => k_is)
    (case k1 => k_is)
    (case a2 => k_is)
    (case l2 => k_is)
    (case c2 => k_is)
    (case k2 => k_is)
    (case a3 => k_is)
    (case l3 => k_is)
    (case c3 => k_is)
    (case k3 => k_is)
    (case a4 => k_is)
    (case l4 => k_is)
    (case c4 => k_is)
    (case k4 => k_is)
    (case a5 => k_is)
    (case l5 => k_is)
    (case c5 => k_is)
    (case k5 => k_is)
    (case a6 => k_is)
    (case l6 => k_is)
    (case c6 => k_is)
    (case k6 => k_is)
    (case a7 => k_is)
    (case l7 => k_is)
    (case c7 => k_is)
    (case k7 => k_is)
    (case a8 => k_is)
    (case l8 => k_is)
    (case c8 => k_is)
    (case k8 => k_is)
    (case a9 => k_is)
    (case l9 => k_is)
    (case c9 => k_is)
    (case k9 => k_is)
    (case a10 => k_is)
    (case l10 => k_is)
    (case c10 => k_is)
    (case k10 => k_is)
    (case a11 => k_is)
    (case l11 => k_is)
    (case c11 => k_is)
    (case k11 => k_is)
    (case a12 => k_is)
    (case l12 => k_is)
    (case c12 => k_is)
    (case k12 => k_is)
    (case a13 => k_is)
    (case l13 => k_is)
    (case c13 => k_is)
    (case k13 => k_is)
    (case a14 => k_is)
    (case l14 => k_is)
    (case c14 => k_is)
    (case k14 => k_is)
    (case a15 => k_is)
    (case l15 => k_is)
    (case c15 => k_is)
    (case k15 => k_is)
    (case a16 => k_is)
    (case l16 => k_is)
    (case c16 => k_is)
    (case k16 => k_is)
    (case a17 => k_is)
    (case l17 => k_is)
    (case c17 => k_is)
    (case k17 => k_is)
    (case a18 => k_is)
    (case l18 => k_is)
    (case c18 => k_is)
    (case k18 => k_is)
    (case a19 => k_is)
    (case l19 => k_is)
    (case c19 => k_is)
    (case k19 => k_is)
    (case a20 => k_is)
    (case l20 => k_is)
    (case c20 => k_is)
    (case k20 => k_is)
    (case a21 => k_is)
    (case l21 => k_is)
    (case c21 => k_is)
    (case k21 => k_is)
    (case a22 => k_is)
    (case l22 => k_is)
    (case c22 => k_is)
    (case k22 => k_is)
    (case a23 => k_is)
    (case l23 => k_is)
    (case c23 => k_is)
    (case k23 => k_is)
    (case a24 => k_is)
    (case l24 => k_is)
    (case c24 => k_is)
    (case k24 => k_is)
    (case a25 => k_is)
    (case l25 => k_is)
    (case c25 => k_is)
    (case k25 => k_is)
    (case a26 => k_is)
    (case l26 => k_is)
    (case c26 => k_is)
    (case k26 => k_is)
    (case a27 => k_is)
    (case l27 => k_is)
    (case c27 => k_is)
    (case k27 => k_is)
    (case a28 => k_is)
    (case l28 => k_is)
    (case c28 => k_is)
    (case k28 => k_is)
    (case a29 => k_is)
    (case l29 => k_is)
    (case c29 => k_is)
    (case k29 => k_is)
    (case a30 => k_is)
    (case l30 => k_is)
    (case c30 => k_is)
    (case k30 => k_is)
    (case a31 => k_is)
    (case l31 => k_is)
    (case c31 => k_is)
    (case k31 => k_is)
    (case a32 => k_is)
    (case l32 => k_is)
    (case c32 => k_is)
    (case k32 => k_is)
    (case a33 => k_is)
    (case l33 => k_is)
    (case c33 => k_is)
    (case k33 => k_is)
    (case a34 => k_is)
    (case l34 => k_is)
    (case c34 => k_is)
    (case k34 => k_is)
    (case a35 => k_is)
    (case l35 => k_is)
    (case c35 => k_is)
    (case k35 => k_is)
    (case a36 => k_is)
    (case l36 => k_is)
    (case c36 => k_is)
    (case k36 => k_is)
    (case a37 => k_is)
    (case l37 => k_is)
    (case c37 => k_is)
    (case k37 => k_is)
    (case a38 => k_is)
    (case l38 => k_is)
    (case c38 => k_is)
    (case k38 => k_is)
    (case a39 => k_is)
    (case l39 => k_is)
    (case c39 => k_is)
    (case k39 => k_is)
    (case a40 => k_is)
    (case l40 => k_is)
    (case c40 => k_is)
    (case k40 => k_is)
    (case a41 => k_is)
    (case l41 => k_is)
    (case c41 => k_is)
    (case k41 => k_is)
    (case a42 => k_is)
    (case l42 => k_is)
    (case c42 => k_is)
    (case k42 => k_is)
    (case a43 => k_is)
    (case l43 => k_is)
    (case c43 => k_is)
    (case k43 => k_is)
    (case a44 => k_is)
    (case l44 => k_is)
    (case c44 => k_is)
    (case k44 => k_is)
    (case a45 => k_is)
    (case l45 => k_is)
    (case c45 => k_is)
    (case k45 => k_is)
    (case a46 => k_is)
    (case l46 => k_is)
    (case c46 => k_is)
    (case k46 => k_is)
    (case z_max => k_is)
    (case z_min => k_is)
    (case z_sorted => k_is)
    (case z_int => k_is)
    (case z_isinstance => k_is)
    (case z_bool => k_is)
    (case z_len => k_is)
    (case z_all => k_is)
    (case z_list => k_is)
    (case z_str => k_is)
    (case z_tuple => k_is)
    (case z_abs => k_is)
    (case z_range => k_is)
    (case z_ValueError => k_is)
    (case y_CordError => k_is)
    (case y_TooMany => k_is)
    (case y_NoDeed => k_is)
    (case y_NoRow => k_is)
    (case y_NoCord => k_is)
    (case y_NoTurn => k_is)
    (case y_NoText => k_is)
    (case y_NoSheet => k_is)
    (case y_NoName => k_is)
    (case o0_NoDeed => k_exc)
    (case o1_NoDeed => k_is)
    (case o2_NoDeed => k_is)
    (case o3_NoDeed => k_is)
    (case e0_NoDeed => k_is)
    (case e1_NoDeed => k_is)
    (case e3_NoDeed => k_is)
    (case e4_NoDeed => k_is)
    (case e7_NoDeed => k_is)
    (case x0_NoDeed => kts_exm)
    (case v0_NoDeed => kit_is)
    (case t_CordError_NoDeed => kit_is)
    (case t_TooMany_NoDeed => kit_is)
    (case t_NoDeed_NoDeed => kit_is)
    (case t_NoRow_NoDeed => kit_is)
    (case t_NoCord_NoDeed => kit_is)
    (case t_NoTurn_NoDeed => kit_is)
    (case t_NoText_NoDeed => kit_is)
    (case t_NoSheet_NoDeed => kit_is)
    (case t_NoName_NoDeed => kit_is)
    (case e5_all => k_is)
    (case e6_all => k_is)
