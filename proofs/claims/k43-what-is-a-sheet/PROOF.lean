import PyProof.Rows.All
import Wide.All
import OpenK.AllK
import Wide.FinOn
import HandS.ForMost
import HandS.Wide
import HandS.IsInst
import HandS.Flow
import HandS.Zip
import HandS.Style
import HandS.WideBits
import HandS.SortInts
import HandS.Conv
import HandS.SetFor
import HandS.Strs
import HandS.TupSets
import KE.SortData
import HandS.Rev
import HandS.NoneIn
import HandS.TupMul
import HandS.Text
import PyProof.StrOps2
import PyProof.ReprRoads
import PyProof.CallStr
import PyProof.StrLawsRepr
import HandS.Dict
import HandS.Iter
import HandS.TupAny
import HandS.SetKeys
import HandS.Deep
import KE.DataFind
import PyProof.Rows.ListMulArg
import PySem.Challenge.RW_farcords_k43_what_is_a_sheet
set_option Elab.async false
set_option linter.all false
set_option maxRecDepth 100000
set_option maxHeartbeats 4000000
/-! FA: plain values and a plain store over the hand layer: tuples are values, lists are cells of a store that grows at its end. -/
namespace F3
open PySem PySem.Spec PyProof.Rows L2

/-- a value: tuples are told by their items, a list that may change by its number in the store, a list that never changes by its items -/
inductive D where
  | non
  | bl (b : Bool)
  | int (i : Int)
  | str (x : Str)
  | tup (xs : List D)
  | fl (xs : List D)
  | ref (n : Nat)
  | ty (n : String)
  | adr (a : Addr)

inductive Cell where
  | lst (xs : List D)
  | dK (kvs : List (Key × D))
  | dT (kvs : List (List Key × D))
  | zK (o : Obj) (ws : List (Key × V)) (kvs : List (Key × D))
  | zT (o : Obj) (ws : List (List Key × V)) (kvs : List (List Key × D))
  | ins (C : Addr) (fs : List (Str × D))

abbrev Sto := List Cell
abbrev S3 := List (Option D)
abbrev DK := D → Sto → Prop

/-- a list that never changes -/
def SqF (K : PySem.W.Frag) (H : Hp) (a : Addr) (xs : List V) : Prop :=
  (∃ o, H a = some (.frz o (.lst xs))) ∨
    ∃ (o : Obj) (its : Array Value) (n : Nat), K.lookup a = some o ∧ o.cls = .type "list" ∧ o.dict = none ∧ o.data = .seq its n ∧ its.size ≤ sizeLine ∧ Vals xs its.toList
theorem SqF.sq {K : PySem.W.Frag} {H : Hp} {a : Addr} {xs : List V} (h : SqF K H a xs) : SqL K H a xs := h.elim (fun q => .inl (.inr q)) .inr
mutual
inductive RelD (K : PySem.W.Frag) (m : List Addr) (H : Hp) : D → V → Prop
  | non : RelD K m H .non .non
  | bl (b : Bool) : RelD K m H (.bl b) (.bl b)
  | int (i : Int) : RelD K m H (.int i) (.int i)
  | str (x : Str) : RelD K m H (.str x) (.str x)
  | ty (n : String) : RelD K m H (.ty n) (.ty n)
  | adr (a : Addr) : RelD K m H (.adr a) (.ref a)
  | ref {n : Nat} {a : Addr} : m[n]? = some a → RelD K m H (.ref n) (.ref a)
  | tup {xs : List D} {a : Addr} {vs : List V} : H a = some (.tup vs) → RelDs K m H xs vs → RelD K m H (.tup xs) (.ref a)
  | fl {xs : List D} {a : Addr} {vs : List V} : SqF K H a vs → RelDs K m H xs vs → RelD K m H (.fl xs) (.ref a)
inductive RelDs (K : PySem.W.Frag) (m : List Addr) (H : Hp) : List D → List V → Prop
  | nil : RelDs K m H [] []
  | cons {d : D} {v : V} {ds : List D} {vs : List V} : RelD K m H d v → RelDs K m H ds vs → RelDs K m H (d :: ds) (v :: vs)
end

section
variable {K : PySem.W.Frag} {m m' : List Addr} {H H' : Hp}
mutual
theorem RelD.mono (hm : ∀ (n : Nat) (a : Addr), m[n]? = some a → m'[n]? = some a) (ht : ∀ (a : Addr) (xs : List V), H a = some (.tup xs) → H' a = some (.tup xs)) (hf : ∀ (a : Addr) (xs : List V), SqF K H a xs → SqF K H' a xs) : ∀ {d : D} {v : V}, RelD K m H d v → RelD K m' H' d v
  | _, _, .non => .non
  | _, _, .bl b => .bl b
  | _, _, .int b => .int b
  | _, _, .str b => .str b
  | _, _, .ty b => .ty b
  | _, _, .adr b => .adr b
  | _, _, .ref e => .ref (hm _ _ e)
  | _, _, .tup s r => .tup (ht _ _ s) (RelDs.mono hm ht hf r)
  | _, _, .fl s r => .fl (hf _ _ s) (RelDs.mono hm ht hf r)
theorem RelDs.mono (hm : ∀ (n : Nat) (a : Addr), m[n]? = some a → m'[n]? = some a) (ht : ∀ (a : Addr) (xs : List V), H a = some (.tup xs) → H' a = some (.tup xs)) (hf : ∀ (a : Addr) (xs : List V), SqF K H a xs → SqF K H' a xs) : ∀ {d : List D} {v : List V}, RelDs K m H d v → RelDs K m' H' d v
  | _, _, .nil => .nil
  | _, _, .cons r t => .cons (RelD.mono hm ht hf r) (RelDs.mono hm ht hf t)
end
theorem RelDs.length : ∀ {ds : List D} {vs : List V}, RelDs K m H ds vs → ds.length = vs.length
  | _, _, .nil => rfl
  | _, _, .cons _ t => by rw [List.length_cons, List.length_cons, RelDs.length t]
theorem RelDs.get : ∀ {ds : List D} {vs : List V} {i : Nat} {d : D}, RelDs K m H ds vs → ds[i]? = some d → ∃ v, vs[i]? = some v ∧ RelD K m H d v
  | _, _, _, _, .nil, e => by simp at e
  | _, _, 0, _, .cons r _, e => by simp at e; subst e; exact ⟨_, rfl, r⟩
  | _, _, i + 1, d, .cons _ t, e => by
    obtain ⟨u, h1, h2⟩ := RelDs.get (i := i) (d := d) t (by simpa using e)
    exact ⟨u, by simpa using h1, h2⟩
theorem RelDs.getV : ∀ {ds : List D} {vs : List V} {i : Nat} {v : V}, RelDs K m H ds vs → vs[i]? = some v → ∃ d, ds[i]? = some d ∧ RelD K m H d v
  | _, _, _, _, .nil, e => by simp at e
  | _, _, 0, _, .cons r _, e => by simp at e; subst e; exact ⟨_, rfl, r⟩
  | _, _, i + 1, d, .cons _ t, e => by
    obtain ⟨u, h1, h2⟩ := RelDs.getV (i := i) (v := d) t (by simpa using e)
    exact ⟨u, by simpa using h1, h2⟩
theorem RelDs.append : ∀ {xs ys : List D} {us ws : List V}, RelDs K m H xs us → RelDs K m H ys ws → RelDs K m H (xs ++ ys) (us ++ ws)
  | _, _, _, _, .nil, s => s
  | _, _, _, _, .cons r t, s => .cons r (RelDs.append t s)
theorem RelDs.set {x : D} {u : V} (r : RelD K m H x u) : ∀ {xs : List D} {us : List V} (i : Nat), RelDs K m H xs us → RelDs K m H (xs.set i x) (us.set i u)
  | _, _, _, .nil => .nil
  | _, _, 0, .cons _ t => .cons r t
  | _, _, i + 1, .cons q t => .cons q (RelDs.set r i t)
theorem RelDs.take : ∀ {xs : List D} {us : List V} (n : Nat), RelDs K m H xs us → RelDs K m H (xs.take n) (us.take n)
  | _, _, 0, _ => .nil
  | _, _, _ + 1, .nil => .nil
  | _, _, n + 1, .cons r t => .cons r (RelDs.take n t)
theorem RelDs.drop : ∀ {xs : List D} {us : List V} (n : Nat), RelDs K m H xs us → RelDs K m H (xs.drop n) (us.drop n)
  | _, _, 0, r => r
  | _, _, _ + 1, .nil => .nil
  | _, _, n + 1, .cons _ t => RelDs.drop n t
theorem RelDs.reverse {xs : List D} {us : List V} (h : RelDs K m H xs us) : RelDs K m H xs.reverse us.reverse := by
  induction xs generalizing us with
  | nil => cases h; exact .nil
  | cons x r ih =>
    cases h with
    | cons h1 h2 =>
      rw [List.reverse_cons, List.reverse_cons]
      exact (ih h2).append (.cons h1 .nil)
theorem RelDs.erase : ∀ {xs : List D} {us : List V} (n : Nat), RelDs K m H xs us → RelDs K m H (xs.eraseIdx n) (us.eraseIdx n)
  | _, _, _, .nil => .nil
  | _, _, 0, .cons _ t => t
  | _, _, n + 1, .cons q t => .cons q (RelDs.erase n t)
theorem RelDs.dropLast {xs : List D} {us : List V} (h : RelDs K m H xs us) : RelDs K m H xs.dropLast us.dropLast := by
  rw [List.dropLast_eq_take, List.dropLast_eq_take, h.length]
  exact h.take _
theorem RelDs.ints : ∀ {ns : List Int} {us : List V}, RelDs K m H (ns.map D.int) us → us = ns.map V.int
  | [], _, h => by cases h; rfl
  | n :: ns, _, h => by
    cases h with
    | cons a b => cases a; rw [RelDs.ints b]; rfl
theorem RelDs.bls : ∀ {ns : List Bool} {us : List V}, RelDs K m H (ns.map D.bl) us → us = ns.map V.bl
  | [], _, h => by cases h; rfl
  | n :: ns, _, h => by
    cases h with
    | cons a b => cases a; rw [RelDs.bls b]; rfl
theorem RelDs.strs : ∀ {ns : List Str} {us : List V}, RelDs K m H (ns.map D.str) us → us = ns.map V.str
  | [], _, h => by cases h; rfl
  | n :: ns, _, h => by
    cases h with
    | cons a b => cases a; rw [RelDs.strs b]; rfl
end

/-- what stands at a cell -/
def CellOk (K : PySem.W.Frag) (m : List Addr) (H : Hp) (a : Addr) : Cell → Prop
  | .lst xs => ∃ vs, H a = some (.lst vs) ∧ RelDs K m H xs vs
  | .dK kvs => ∃ vs : List (Key × V), H a = some (.dK vs) ∧ vs.map (·.1) = kvs.map (·.1) ∧ RelDs K m H (kvs.map (·.2)) (vs.map (·.2))
  | .dT kvs => ∃ vs : List (List Key × V), H a = some (.dT vs) ∧ vs.map (·.1) = kvs.map (·.1) ∧ RelDs K m H (kvs.map (·.2)) (vs.map (·.2))
  | .zK o vs kvs => H a = some (.frz o (.dK vs)) ∧ vs.map (·.1) = kvs.map (·.1) ∧ RelDs K m H (kvs.map (·.2)) (vs.map (·.2))
  | .zT o vs kvs => H a = some (.frz o (.dT vs)) ∧ vs.map (·.1) = kvs.map (·.1) ∧ RelDs K m H (kvs.map (·.2)) (vs.map (·.2))
  | .ins C fs => ∃ dx, ∃ vs : List (Str × V), H a = some (.ins C dx vs) ∧ vs.map (·.1) = fs.map (·.1) ∧ RelDs K m H (fs.map (·.2)) (vs.map (·.2))

structure Rep (K : PySem.W.Frag) (m : List Addr) (h : Sto) (H : Hp) : Prop where
  len : m.length = h.length
  nd : m.Nodup
  at_ : ∀ (n : Nat) (a : Addr) (c : Cell), m[n]? = some a → h[n]? = some c → CellOk K m H a c
structure Step (m : List Addr) (H : Hp) (m' : List Addr) (H' : Hp) : Prop where
  pre : ∃ r, m' = m ++ r
  keep : ∀ a o, a ∉ m → H a = some o → H' a = some o
  new : ∀ a, a ∈ m' → a ∉ m → H a = none
def RelS (K : PySem.W.Frag) (m : List Addr) (H : Hp) (ρ : S3) (σ : L2.St) : Prop := ρ.length = σ.length ∧ ∀ (i : Nat) (d : D), ρ[i]? = some (some d) → ∃ v, σ[i]? = some (some v) ∧ RelD K m H d v

section
variable {K : PySem.W.Frag} {m m' m2 : List Addr} {H H' H2 : Hp} {h h' : Sto}
theorem nodup_ix' {N : List Addr} (hN : N.Nodup) {i j : Nat} {x : Addr} (a : N[i]? = some x) (b : N[j]? = some x) : i = j := by
  obtain ⟨h1, e1⟩ := List.getElem?_eq_some_iff.mp a
  obtain ⟨h2, e2⟩ := List.getElem?_eq_some_iff.mp b
  exact (List.getElem_inj hN).mp (e1.trans e2.symm)
theorem Step.refl : Step m H m H := ⟨⟨[], by simp⟩, fun _ _ _ e => e, fun a h1 h2 => absurd h1 h2⟩
theorem Step.trans (a : Step m H m' H') (b : Step m' H' m2 H2) : Step m H m2 H2 := by
  obtain ⟨r, hr⟩ := a.pre
  obtain ⟨q, hq⟩ := b.pre
  refine ⟨⟨r ++ q, by rw [hq, hr, List.append_assoc]⟩, fun c o hc e => ?_, fun c hc hn => ?_⟩
  · refine b.keep c o (fun z => ?_) (a.keep c o hc e)
    have := a.new c z hc
    rw [this] at e; cases e
  · by_cases z : c ∈ m'
    · exact a.new c z hn
    · have e := b.new c hc z
      cases q : H c with
      | none => rfl
      | some o => rw [a.keep c o hn q] at e; cases e
theorem Step.get (s : Step m H m' H') {n : Nat} {a : Addr} (e : m[n]? = some a) : m'[n]? = some a := by
  obtain ⟨r, hr⟩ := s.pre
  have hl : n < m.length := (List.getElem?_eq_some_iff.mp e).1
  rw [hr, List.getElem?_append_left hl]
  exact e
theorem Rep.cell (R : Rep K m h H) {a : Addr} (ha : a ∈ m) : ∃ (n : Nat) (c : Cell), m[n]? = some a ∧ h[n]? = some c ∧ CellOk K m H a c := by
  obtain ⟨n, hn⟩ := List.mem_iff_getElem?.mp ha
  have hl : n < m.length := (List.getElem?_eq_some_iff.mp hn).1
  have hc : h[n]? = some (h[n]'(by rw [← R.len]; exact hl)) := List.getElem?_eq_getElem _
  exact ⟨n, _, hn, hc, R.at_ n a _ hn hc⟩
theorem Rep.got (R : Rep K m h H) {a : Addr} (ha : a ∈ m) : ∃ o, H a = some o ∧ (∀ xs, o ≠ .tup xs) ∧ (∀ b xs, o ≠ .frz b (.lst xs)) ∧ ∀ b xs, o ≠ .frz b (.tup xs) := by
  obtain ⟨n, c, _, _, ok⟩ := R.cell ha
  cases c with
  | lst xs => obtain ⟨vs, e, _⟩ := ok; exact ⟨_, e, by simp, by simp, by simp⟩
  | dK xs => obtain ⟨vs, e, _⟩ := ok; exact ⟨_, e, by simp, by simp, by simp⟩
  | dT xs => obtain ⟨vs, e, _⟩ := ok; exact ⟨_, e, by simp, by simp, by simp⟩
  | zK o vs xs => obtain ⟨e, _⟩ := ok; exact ⟨_, e, by simp, by simp, by simp⟩
  | zT o vs xs => obtain ⟨e, _⟩ := ok; exact ⟨_, e, by simp, by simp, by simp⟩
  | ins C xs => obtain ⟨dx, vs, e, _⟩ := ok; exact ⟨_, e, by simp, by simp, by simp⟩
theorem Rep.notup (R : Rep K m h H) {a : Addr} {xs : List V} (e : H a = some (.tup xs)) : a ∉ m := fun z => by
  obtain ⟨o, e', n, _⟩ := R.got z
  rw [e] at e'; cases e'; exact n xs rfl
theorem Rep.nofrz (R : Rep K m h H) {a : Addr} {b : Obj} {xs : List V} (e : H a = some (.frz b (.lst xs))) : a ∉ m := fun z => by
  obtain ⟨o, e', _, n, _⟩ := R.got z
  rw [e] at e'; cases e'; exact n b xs rfl
theorem Rep.nofrzT (R : Rep K m h H) {a : Addr} {b : Obj} {xs : List V} (e : H a = some (.frz b (.tup xs))) : a ∉ m := fun z => by
  obtain ⟨o, e', _, _, n⟩ := R.got z
  rw [e] at e'; cases e'; exact n b xs rfl
theorem Rep.nonone (R : Rep K m h H) {a : Addr} (e : H a = none) : a ∉ m := fun z => by
  obtain ⟨o, e', _⟩ := R.got z
  rw [e] at e'; cases e'
theorem TH {a : Addr} {xs : List V} (q : H a = some (.tup xs)) : SqT K H a xs := .inl (.inl q)
theorem SqT.step (R : Rep K m h H) (s : Step m H m' H') {a : Addr} {xs : List V} (q : SqT K H a xs) : SqT K H' a xs := by
  rcases q with (q | ⟨o, q⟩) | q
  · exact .inl (.inl (s.keep _ _ (R.notup q) q))
  · exact .inl (.inr ⟨o, s.keep _ _ (R.nofrzT q) q⟩)
  · exact .inr q
theorem SqF.step (R : Rep K m h H) (s : Step m H m' H') {a : Addr} {xs : List V} (q : SqF K H a xs) : SqF K H' a xs := by
  rcases q with ⟨o, q⟩ | q
  · exact .inl ⟨o, s.keep _ _ (R.nofrz q) q⟩
  · exact .inr q
theorem RelD.step (R : Rep K m h H) (s : Step m H m' H') {d : D} {v : V} (r : RelD K m H d v) : RelD K m' H' d v :=
  r.mono (fun _ _ e => s.get e) (fun _ _ q => s.keep _ _ (R.notup q) q) fun _ _ q => SqF.step R s q
theorem RelDs.step (R : Rep K m h H) (s : Step m H m' H') {d : List D} {v : List V} (r : RelDs K m H d v) : RelDs K m' H' d v :=
  r.mono (fun _ _ e => s.get e) (fun _ _ q => s.keep _ _ (R.notup q) q) fun _ _ q => SqF.step R s q
theorem RelS.step (R : Rep K m h H) (s : Step m H m' H') {ρ : S3} {σ : L2.St} (r : RelS K m H ρ σ) : RelS K m' H' ρ σ :=
  ⟨r.1, fun i d e => let ⟨v, h1, h2⟩ := r.2 i d e; ⟨v, h1, h2.step R s⟩⟩
theorem RelS.set {ρ : S3} {σ : L2.St} (r : RelS K m H ρ σ) {d : D} {v : V} (q : RelD K m H d v) (i : Nat) : RelS K m H (ρ.set i (some d)) (σ.set i (some v)) := by
  refine ⟨by simpa using r.1, fun j e hj => ?_⟩
  by_cases hij : i = j
  · subst hij
    have hl : i < ρ.length := by
      have := (List.getElem?_eq_some_iff.mp hj).1
      simpa using this
    rw [List.getElem?_set_self hl] at hj
    cases hj
    exact ⟨v, List.getElem?_set_self (by rw [← r.1]; exact hl), q⟩
  · rw [List.getElem?_set_ne hij] at hj ⊢
    exact r.2 j e hj
theorem RelS.wipe {ρ : S3} {σ : L2.St} (r : RelS K m H ρ σ) (i : Nat) (x : Option V) : RelS K m H (ρ.set i none) (σ.set i x) := by
  refine ⟨by simpa using r.1, fun j e hj => ?_⟩
  by_cases hij : i = j
  · subst hij
    by_cases hl : i < ρ.length
    · rw [List.getElem?_set_self hl] at hj; cases hj
    · rw [List.getElem?_eq_none (by simpa using hl)] at hj; cases hj
  · rw [List.getElem?_set_ne hij] at hj ⊢
    exact r.2 j e hj
/-- cells that stand stay through a change elsewhere -/
theorem CellOk.step (R : Rep K m h H) (s : Step m H m' H') {a : Addr} {c : Cell} (e : H' a = H a) (ok : CellOk K m H a c) : CellOk K m' H' a c := by
  cases c with
  | lst xs => obtain ⟨vs, q, r⟩ := ok; exact ⟨vs, e.trans q, r.step R s⟩
  | dK xs => obtain ⟨vs, q, k, r⟩ := ok; exact ⟨vs, e.trans q, k, r.step R s⟩
  | dT xs => obtain ⟨vs, q, k, r⟩ := ok; exact ⟨vs, e.trans q, k, r.step R s⟩
  | zK o vs xs => obtain ⟨q, k, r⟩ := ok; exact ⟨e.trans q, k, r.step R s⟩
  | zT o vs xs => obtain ⟨q, k, r⟩ := ok; exact ⟨e.trans q, k, r.step R s⟩
  | ins C xs => obtain ⟨dx, vs, q, k, r⟩ := ok; exact ⟨dx, vs, e.trans q, k, r.step R s⟩
/-- a new object that is no cell -/
theorem Step.lay {p : Addr} {o : HO} (hp : H p = none) : Step m H m (upd H p o) :=
  ⟨⟨[], by simp⟩, fun a q _ e => by rw [upd_ne (ne_of_none e hp)]; exact e, fun a h1 h2 => absurd h1 h2⟩
theorem Rep.lay (R : Rep K m h H) {p : Addr} {o : HO} (hp : H p = none) : Rep K m h (upd H p o) :=
  ⟨R.len, R.nd, fun n a c h1 h2 => (R.at_ n a c h1 h2).step R (Step.lay hp) (upd_ne fun z => R.nonone hp (by rw [← z]; exact List.mem_of_getElem? h1))⟩
/-- a new cell -/
theorem Step.cell {p : Addr} {o : HO} (hp : H p = none) : Step m H (m ++ [p]) (upd H p o) :=
  ⟨⟨[p], rfl⟩, fun a q _ e => by rw [upd_ne (ne_of_none e hp)]; exact e, fun a h1 h2 => by
    rcases List.mem_append.mp h1 with z | z
    · exact absurd z h2
    · rw [List.mem_singleton.mp z]; exact hp⟩
theorem Rep.snoc (R : Rep K m h H) {p : Addr} {o : HO} {c : Cell} (hp : H p = none) (ok : CellOk K (m ++ [p]) (upd H p o) p c) : Rep K (m ++ [p]) (h ++ [c]) (upd H p o) := by
  refine ⟨by simp [R.len], ?_, fun n a d h1 h2 => ?_⟩
  · rw [List.nodup_append]
    refine ⟨R.nd, by simp, fun x hx y hy => ?_⟩
    have e : y = p := by simpa using hy
    rw [e]
    exact fun z => R.nonone hp (z ▸ hx)
  · by_cases hn : n < m.length
    · rw [List.getElem?_append_left hn] at h1
      rw [List.getElem?_append_left (by rw [← R.len]; exact hn)] at h2
      exact (R.at_ n a d h1 h2).step R (Step.cell hp) (upd_ne fun z => R.nonone hp (by rw [← z]; exact List.mem_of_getElem? h1))
    · rw [List.getElem?_append_right (by omega)] at h1
      rw [List.getElem?_append_right (by rw [← R.len]; omega)] at h2
      have z : n - m.length = 0 := by
        have := (List.getElem?_eq_some_iff.mp h1).1
        simp at this; omega
      rw [z] at h1
      rw [← R.len, z] at h2
      simp at h1 h2
      subst h1; subst h2
      exact ok
/-- a cell is changed -/
theorem Step.put {a : Addr} {o : HO} (ha : a ∈ m) : Step m H m (upd H a o) :=
  ⟨⟨[], by simp⟩, fun b q hb e => by rw [upd_ne (show b ≠ a from fun z => hb (by rw [z]; exact ha))]; exact e, fun a h1 h2 => absurd h1 h2⟩
theorem Rep.put (R : Rep K m h H) {n : Nat} {a : Addr} {o : HO} {c : Cell} (hn : m[n]? = some a) (ok : CellOk K m (upd H a o) a c) : Rep K m (h.set n c) (upd H a o) := by
  have ha : a ∈ m := List.mem_of_getElem? hn
  refine ⟨by simp [R.len], R.nd, fun k b d h1 h2 => ?_⟩
  by_cases hk : n = k
  · subst hk
    rw [hn] at h1; cases h1
    have hl : n < h.length := by rw [← R.len]; exact (List.getElem?_eq_some_iff.mp hn).1
    rw [List.getElem?_set_self hl] at h2
    cases h2
    exact ok
  · rw [List.getElem?_set_ne hk] at h2
    refine (R.at_ k b d h1 h2).step R (Step.put ha) (upd_ne fun z => hk ?_)
    subst z
    exact nodup_ix' R.nd hn h1
end
end F3
/-! FB: the judgements over plain values, and the rules for expressions and plain statements. -/
namespace F3
open PySem PySem.Spec PyProof.Rows L2

abbrev E3 := S3 → Sto → DK → Prop
abbrev B3 := S3 → Sto → (Bool → Sto → Prop) → Prop
abbrev A3 := S3 → Sto → (List D → Sto → Prop) → Prop
structure Ends3 where
  nx : S3 → Sto → Prop
  rt : DK
  bk : S3 → Sto → Prop
  ct : S3 → Sto → Prop
abbrev C3 := Ends3 → S3 → Sto → Prop

def Up (K : PySem.W.Frag) (m : List Addr) (H : Hp) (Q : VK) : DK := fun d h' => ∀ m' H' v, Step m H m' H' → Rep K m' h' H' → RelD K m' H' d v → Q v H'
def UpB (K : PySem.W.Frag) (m : List Addr) (H : Hp) (Q : Bool → Hp → Prop) : Bool → Sto → Prop := fun b h' => ∀ m' H', Step m H m' H' → Rep K m' h' H' → Q b H'
def UpA (K : PySem.W.Frag) (m : List Addr) (H : Hp) (Q : List V → Hp → Prop) : List D → Sto → Prop := fun ds h' => ∀ m' H' vs, Step m H m' H' → Rep K m' h' H' → RelDs K m' H' ds vs → Q vs H'
/-- a list that is nobody else's -/
def UpX (K : PySem.W.Frag) (m : List Addr) (H : Hp) (Q : VK) : List D → Sto → Prop := fun ds h' => ∀ m' H' a vs, Step m H m' H' → Rep K m' h' H' → H' a = some (.lst vs) → H a = none → a ∉ m' → RelDs K m' H' ds vs → Q (.ref a) H'
def UpS (K : PySem.W.Frag) (m : List Addr) (H : Hp) (Q : L2.St → Hp → Prop) : S3 → Sto → Prop := fun ρ' h' => ∀ m' H' σ', Step m H m' H' → Rep K m' h' H' → RelS K m' H' ρ' σ' → Q σ' H'
def UpC (K : PySem.W.Frag) (m : List Addr) (H : Hp) (D : Ends) : Ends3 := ⟨UpS K m H D.nx, Up K m H D.rt, UpS K m H D.bk, UpS K m H D.ct⟩
def LE (K : PySem.W.Frag) (t : E3) : TE := fun σ H Q => ∃ m h ρ, Rep K m h H ∧ RelS K m H ρ σ ∧ t ρ h (Up K m H Q)
def LB (K : PySem.W.Frag) (t : B3) : TT := fun σ H Q => ∃ m h ρ, Rep K m h H ∧ RelS K m H ρ σ ∧ t ρ h (UpB K m H Q)
def LA (K : PySem.W.Frag) (t : A3) : TA := fun σ H Q => ∃ m h ρ, Rep K m h H ∧ RelS K m H ρ σ ∧ t ρ h (UpA K m H Q)
def LX (K : PySem.W.Frag) (t : A3) : TE := fun σ H Q => ∃ m h ρ, Rep K m h H ∧ RelS K m H ρ σ ∧ t ρ h (UpX K m H Q)
def LC (K : PySem.W.Frag) (t : C3) : TS := fun D σ H => ∃ m h ρ, Rep K m h H ∧ RelS K m H ρ σ ∧ t (UpC K m H D) ρ h

def MonoE (t : E3) : Prop := ∀ ρ h (Q Q' : DK), (∀ d h', Q d h' → Q' d h') → t ρ h Q → t ρ h Q'
def MonoB (t : B3) : Prop := ∀ ρ h (Q Q' : Bool → Sto → Prop), (∀ d h', Q d h' → Q' d h') → t ρ h Q → t ρ h Q'
def MonoA (t : A3) : Prop := ∀ ρ h (Q Q' : List D → Sto → Prop), (∀ d h', Q d h' → Q' d h') → t ρ h Q → t ρ h Q'
structure EndsLe (D D' : Ends3) : Prop where
  nx : ∀ ρ h, D.nx ρ h → D'.nx ρ h
  rt : ∀ d h, D.rt d h → D'.rt d h
  bk : ∀ ρ h, D.bk ρ h → D'.bk ρ h
  ct : ∀ ρ h, D.ct ρ h → D'.ct ρ h
def MonoC (t : C3) : Prop := ∀ D D' ρ h, EndsLe D D' → t D ρ h → t D' ρ h

structure PE3 (X : Cx) (e : Expr) (t : E3) : Prop where
  pe : PE X e (LE X.K t)
  mono : MonoE t
structure PB3 (X : Cx) (e : Expr) (t : B3) : Prop where
  pe : PT X e (LB X.K t)
  mono : MonoB t
structure PW3 (X : Cx) (e : Expr) (t : B3) : Prop where
  pe : PW X e (LB X.K t)
  mono : MonoB t
structure PA3 (X : Cx) (es : List Expr) (t : A3) : Prop where
  pe : PA X es (LA X.K t)
  mono : MonoA t
  len : ∀ ρ h (Q : List D → Sto → Prop), t ρ h Q → t ρ h fun xs h' => xs.length = es.length ∧ Q xs h'
/-- an expression whose value is a new list -/
structure PX3 (X : Cx) (e : Expr) (t : A3) : Prop where
  pe : PE X e (LX X.K t)
  mono : MonoA t
structure PC3 (X : Cx) (st : Stmt) (t : C3) : Prop where
  pe : PS X st (LC X.K t)
  mono : MonoC t
structure PCs3 (X : Cx) (st : List Stmt) (t : C3) : Prop where
  pe : PSs X st (LC X.K t)
  mono : MonoC t

theorem PE.weak {X : Cx} {e : Expr} {t t' : TE} (p : PE X e t) (w : ∀ σ H Q, t' σ H Q → t σ H Q) : PE X e t' := ⟨fun pins s σ H Q I h => p.run pins s σ H Q I (w σ H Q h)⟩
theorem PT.weak {X : Cx} {e : Expr} {t t' : TT} (p : PT X e t) (w : ∀ σ H Q, t' σ H Q → t σ H Q) : PT X e t' := ⟨fun pins s σ H Q I h => p.run pins s σ H Q I (w σ H Q h)⟩
theorem PW.weak {X : Cx} {e : Expr} {t t' : TT} (p : PW X e t) (w : ∀ σ H Q, t' σ H Q → t σ H Q) : PW X e t' := ⟨fun wh pins s σ H Q I h => p.run wh pins s σ H Q I (w σ H Q h)⟩
theorem PA.weak {X : Cx} {e : List Expr} {t t' : TA} (p : PA X e t) (w : ∀ σ H Q, t' σ H Q → t σ H Q) : PA X e t' := ⟨fun pos pins s σ H Q I h => p.run pos pins s σ H Q I (w σ H Q h)⟩
theorem PS.weak {X : Cx} {e : Stmt} {t t' : TS} (p : PS X e t) (w : ∀ D σ H, t' D σ H → t D σ H) : PS X e t' := ⟨fun pins s σ H D I h => p.run pins s σ H D I (w D σ H h)⟩
theorem PSs.weak {X : Cx} {e : List Stmt} {t t' : TS} (p : PSs X e t) (w : ∀ D σ H, t' D σ H → t D σ H) : PSs X e t' := ⟨fun pins s σ H D I h => p.run pins s σ H D I (w D σ H h)⟩

section
variable {K : PySem.W.Frag} {m m' : List Addr} {H H' : Hp} {h h' : Sto} {ρ : S3} {σ : L2.St}
theorem LE.bind {t : E3} (mo : MonoE t) (R : Rep K m h H) (S : RelS K m H ρ σ) {Q3 : DK} (q : t ρ h Q3) {Q : VK}
    (k : ∀ m' H' v d h', Step m H m' H' → Rep K m' h' H' → RelD K m' H' d v → RelS K m' H' ρ σ → Q3 d h' → Q v H') : LE K t σ H Q :=
  ⟨m, h, ρ, R, S, mo ρ h _ _ (fun d h' q m' H' v st rp rd => k m' H' v d h' st rp rd (S.step R st) q) q⟩
theorem LB.bind {t : B3} (mo : MonoB t) (R : Rep K m h H) (S : RelS K m H ρ σ) {Q3 : Bool → Sto → Prop} (q : t ρ h Q3) {Q : Bool → Hp → Prop}
    (k : ∀ m' H' b h', Step m H m' H' → Rep K m' h' H' → RelS K m' H' ρ σ → Q3 b h' → Q b H') : LB K t σ H Q :=
  ⟨m, h, ρ, R, S, mo ρ h _ _ (fun d h' q m' H' st rp => k m' H' d h' st rp (S.step R st) q) q⟩
theorem LA.bind {t : A3} (mo : MonoA t) (R : Rep K m h H) (S : RelS K m H ρ σ) {Q3 : List D → Sto → Prop} (q : t ρ h Q3) {Q : List V → Hp → Prop}
    (k : ∀ m' H' v d h', Step m H m' H' → Rep K m' h' H' → RelDs K m' H' d v → RelS K m' H' ρ σ → Q3 d h' → Q v H') : LA K t σ H Q :=
  ⟨m, h, ρ, R, S, mo ρ h _ _ (fun d h' q m' H' v st rp rd => k m' H' v d h' st rp rd (S.step R st) q) q⟩
theorem LX.bind {t : A3} (mo : MonoA t) (R : Rep K m h H) (S : RelS K m H ρ σ) {Q3 : List D → Sto → Prop} (q : t ρ h Q3) {Q : VK}
    (k : ∀ m' H' a vs d h', Step m H m' H' → Rep K m' h' H' → H' a = some (.lst vs) → H a = none → a ∉ m' → RelDs K m' H' d vs → RelS K m' H' ρ σ → Q3 d h' → Q (.ref a) H') : LX K t σ H Q :=
  ⟨m, h, ρ, R, S, mo ρ h _ _ (fun d h' q m' H' a vs st rp e n na rd => k m' H' a vs d h' st rp e n na rd (S.step R st) q) q⟩
theorem Up.step (s : Step m H m' H') {Q : VK} {d : D} (u : Up K m H Q d h) : Up K m' H' Q d h := fun m2 H2 v st => u m2 H2 v (s.trans st)
theorem UpS.step (s : Step m H m' H') {Q : L2.St → Hp → Prop} {d : S3} (u : UpS K m H Q d h) : UpS K m' H' Q d h := fun m2 H2 v st => u m2 H2 v (s.trans st)
theorem UpC.step (s : Step m H m' H') {D : Ends} : EndsLe (UpC K m H D) (UpC K m' H' D) := ⟨fun _ _ u => UpS.step s u, fun _ _ u => Up.step s u, fun _ _ u => UpS.step s u, fun _ _ u => UpS.step s u⟩
end

/-! ### names, constants -/
section
variable {X : Cx}
def tV (i : Nat) : E3 := fun ρ h Q => match ρ[i]? with
  | some (some d) => Q d h
  | _ => False
def tK (d : D) : E3 := fun _ h Q => Q d h
theorem MonoE.var (i : Nat) : MonoE (tV i) := fun ρ h Q Q' w q => by
  unfold tV at q ⊢
  split at q
  · exact w _ _ q
  · exact q.elim
theorem MonoE.const (d : D) : MonoE (tK d) := fun ρ h Q Q' w q => w _ _ q
theorem e3_v (i : Nat) {x : Str} {pos : Pos} (hN : X.N[i]? = some x := by rfl) (hv : Vis X.env.scope x := by first | exact Or.inl rfl | exact Or.inr (Or.inl rfl) | exact Or.inr (Or.inr rfl)) (hd : (x == ("__debug__" : Str)) = false := by decide)
    (hcd : (x == ("__classdict__" : Str)) = false := by decide) : PE3 X (.Name x pos) (tV i) := by
  refine ⟨PE.weak (pe_var hN hv hd hcd) fun σ H Q ⟨m, h, ρ, R, S, q⟩ => ?_, MonoE.var i⟩
  unfold tV at q
  split at q
  next d e =>
    obtain ⟨v, e1, r⟩ := S.2 i d e
    exact ⟨v, e1, q m H v .refl R r⟩
  next => exact q.elim
theorem e3_k {e : Expr} {d : D} {v : V} (p : PE X e (tC v)) (r : ∀ K m H, RelD K m H d v) : PE3 X e (tK d) :=
  ⟨PE.weak p fun σ H Q ⟨m, h, ρ, R, S, q⟩ => q m H v .refl R (r _ _ _), MonoE.const d⟩
theorem e3_int {i j pos} : PE3 X (.Constant (.int i) j pos) (tK (.int i)) := e3_k pe_int fun _ _ _ => .int i
theorem e3_bl {i j pos} : PE3 X (.Constant (.bool i) j pos) (tK (.bl i)) := e3_k pe_bl fun _ _ _ => .bl i
theorem e3_non {j pos} : PE3 X (.Constant .none j pos) (tK .non) := e3_k pe_non fun _ _ _ => .non
theorem e3_str {i j pos} : PE3 X (.Constant (.str i) j pos) (tK (.str i)) := e3_k pe_str fun _ _ _ => .str i
theorem e3_gint {x : Str} {i : Int} {t : Tok} {pos : Pos} (hg : Gl X x) (hm : X.mg x = some (.int i t)) (hd : (x == ("__debug__" : Str)) = false := by decide) : PE3 X (.Name x pos) (tK (.int i)) := e3_k (pe_glob (v := .int i) hg hm ⟨t, rfl⟩ hd) fun _ _ _ => .int i
theorem e3_gstr {x : Str} {i : Str} {t : Tok} {pos : Pos} (hg : Gl X x) (hm : X.mg x = some (.str i t)) (hd : (x == ("__debug__" : Str)) = false := by decide) : PE3 X (.Name x pos) (tK (.str i)) := e3_k (pe_glob (v := .str i) hg hm ⟨t, rfl⟩ hd) fun _ _ _ => .str i
theorem e3_ty {x : Str} {T : String} {pos : Pos} (hg : Gl X x) (hm : X.mg x = none) (hv : bootBuiltins x = some (.type T)) (hn : x ≠ "__name__" := by decide) (hd : (x == ("__debug__" : Str)) = false := by decide) : PE3 X (.Name x pos) (tK (.ty T)) :=
  e3_k (v := .ty T) (pe_bltn hg hm hv rfl hn hd) fun _ _ _ => .ty T
/-- a class of the module -/
theorem e3_cls {x : Str} {C : Addr} {pos : Pos} (hg : Gl X x) (hm : X.mg x = some (.ref C)) (hd : (x == ("__debug__" : Str)) = false := by decide) : PE3 X (.Name x pos) (tK (.adr C)) := e3_k (v := .ref C) (pe_glob hg hm rfl hd) fun _ _ _ => .adr C
end

/-! ### operators -/
abbrev R3 := D → D → Sto → DK → Prop
abbrev U3 := D → Sto → DK → Prop
structure Op3 (X : Cx) (f : Value → Value → Sem Value) (r3 : R3) : Prop where
  mono : ∀ x y h (Q Q' : DK), (∀ d h', Q d h' → Q' d h') → r3 x y h Q → r3 x y h Q'
  ok : ∃ r : R2, OpR X f r ∧ ∀ m h H x y v u Q, Rep X.K m h H → RelD X.K m H x v → RelD X.K m H y u → r3 x y h (Up X.K m H Q) → r v u H Q
theorem OpR.or {X : Cx} {f : Value → Value → Sem Value} {r1 r2 : R2} (h1 : OpR X f r1) (h2 : OpR X f r2) : OpR X f (fun x y H Q => r1 x y H Q ∨ r2 x y H Q) := by
  intro pins s σ H x y v u Q I rx ry h
  rcases h with h | h
  · exact h1 pins s σ H x y v u Q I rx ry h
  · exact h2 pins s σ H x y v u Q I rx ry h
section
variable {X : Cx} {a b c : Expr} {ta tb tc : E3} {pos : Pos}
def tO (r : R3) (ta tb : E3) : E3 := fun ρ h Q => ta ρ h fun x h1 => tb ρ h1 fun y h2 => r x y h2 Q
def tU (r : U3) (ta : E3) : E3 := fun ρ h Q => ta ρ h fun x h1 => r x h1 Q
theorem MonoE.op {r : R3} (mr : ∀ x y h (Q Q' : DK), (∀ d h', Q d h' → Q' d h') → r x y h Q → r x y h Q') (ma : MonoE ta) (mb : MonoE tb) : MonoE (tO r ta tb) := fun ρ h Q Q' w q =>
  ma _ _ _ _ (fun x h1 q1 => mb _ _ _ _ (fun y h2 q2 => mr _ _ _ _ _ w q2) q1) q
theorem op_lift {r3 : R3} {r : R2} (w : ∀ m h H x y v u Q, Rep X.K m h H → RelD X.K m H x v → RelD X.K m H y u → r3 x y h (Up X.K m H Q) → r v u H Q)
    (mr : ∀ x y h (Q Q' : DK), (∀ d h', Q d h' → Q' d h') → r3 x y h Q → r3 x y h Q') (ma : MonoE ta) (mb : MonoE tb) {σ : L2.St} {H : Hp} {Q : VK} (q : LE X.K (tO r3 ta tb) σ H Q) : tOp r (LE X.K ta) (LE X.K tb) σ H Q := by
  obtain ⟨m, h, ρ, R, S, q⟩ := q
  refine LE.bind ma R S q fun m1 H1 v x h1 s1 R1 rx S1 q1 => ?_
  refine LE.bind mb R1 S1 q1 fun m2 H2 u y h2 s2 R2 ry S2 q2 => ?_
  exact w m2 h2 H2 x y v u Q R2 (rx.step R1 s2) ry (mr _ _ _ _ _ (fun d h' u => Up.step (s1.trans s2) u) q2)
theorem e3_op {op : Operator} {r3 : R3} (o : Op3 X (binaryOp op) r3) (ha : PE3 X a ta) (hb : PE3 X b tb) : PE3 X (.BinOp a op b pos) (tO r3 ta tb) := by
  obtain ⟨r, hr, w⟩ := o.ok
  exact ⟨PE.weak (pe_op hr ha.pe hb.pe) fun σ H Q q => op_lift w o.mono ha.mono hb.mono q, MonoE.op o.mono ha.mono hb.mono⟩
theorem e3_cmp {op : CmpOp} {r3 : R3} (o : Op3 X (compareOp op) r3) (ha : PE3 X a ta) (hb : PE3 X b tb) (hm : behindInMarks op b = false := by first | exact nomark _ | with_unfolding_all rfl) : PE3 X (.Compare a [op] [b] pos) (tO r3 ta tb) := by
  obtain ⟨r, hr, w⟩ := o.ok
  exact ⟨PE.weak (pe_cmpR hr ha.pe hb.pe hm) fun σ H Q q => op_lift w o.mono ha.mono hb.mono q, MonoE.op o.mono ha.mono hb.mono⟩
/-- a value that is a truth, as a test -/
def tT (t : E3) : B3 := fun ρ h Q => t ρ h fun d h' => match d with
  | .bl b => Q b h'
  | _ => False
theorem MonoB.tT {t : E3} (mo : MonoE t) : MonoB (tT t) := fun ρ h Q Q' w q => mo _ _ _ _ (fun d h' q => by
  cases d <;> first | exact w _ _ q | exact q) q
theorem tT_lift {t : E3} (mo : MonoE t) {K : PySem.W.Frag} {σ : L2.St} {H : Hp} {Q : Bool → Hp → Prop} (q : LB K (tT t) σ H Q) : LE K t σ H fun x H' => ∃ k, x = .bl k ∧ Q k H' := by
  obtain ⟨m, h, ρ, R, S, q⟩ := q
  refine LE.bind mo R S q fun m1 H1 v x h1 s1 R1 rx S1 q1 => ?_
  cases x with
  | bl b => cases rx; exact ⟨b, rfl, q1 m1 H1 s1 R1⟩
  | _ => exact q1.elim
theorem b3_cmp {op : CmpOp} {r3 : R3} (o : Op3 X (compareOp op) r3) (ha : PE3 X a ta) (hb : PE3 X b tb) (hm : behindInMarks op b = false := by first | exact nomark _ | with_unfolding_all rfl) : PB3 X (.Compare a [op] [b] pos) (tT (tO r3 ta tb)) := by
  obtain ⟨r, hr, w⟩ := o.ok
  have mo := MonoE.op o.mono ha.mono hb.mono
  exact ⟨PT.weak (pt_cmpR hr ha.pe hb.pe hm) fun σ H Q q => op_lift w o.mono ha.mono hb.mono (tT_lift mo q), MonoB.tT mo⟩
def tCh (r r' : R3) (ta tb tc : E3) : E3 := fun ρ h Q => ta ρ h fun x h1 => tb ρ h1 fun y h2 => r x y h2 fun z h3 => match z with
  | .bl true => tc ρ h3 fun w h4 => r' y w h4 Q
  | .bl false => Q (.bl false) h3
  | _ => False
theorem MonoE.ch {r r' : R3} (mr : ∀ x y h (Q Q' : DK), (∀ d h', Q d h' → Q' d h') → r x y h Q → r x y h Q') (mr' : ∀ x y h (Q Q' : DK), (∀ d h', Q d h' → Q' d h') → r' x y h Q → r' x y h Q')
    (ma : MonoE ta) (mb : MonoE tb) (mc : MonoE tc) : MonoE (tCh r r' ta tb tc) := fun ρ h Q Q' w q =>
  ma _ _ _ _ (fun x h1 q1 => mb _ _ _ _ (fun y h2 q2 => mr _ _ _ _ _ (fun d h3 q3 => by
    cases d with
    | bl b =>
      cases b with
      | true => exact mc _ _ _ _ (fun w' h4 q4 => mr' _ _ _ _ _ w q4) q3
      | false => exact w _ _ q3
    | _ => exact q3) q2) q1) q
theorem ch_lift {r3 r3' : R3} {r r' : R2} (w : ∀ m h H x y v u Q, Rep X.K m h H → RelD X.K m H x v → RelD X.K m H y u → r3 x y h (Up X.K m H Q) → r v u H Q) (w' : ∀ m h H x y v u Q, Rep X.K m h H → RelD X.K m H x v → RelD X.K m H y u → r3' x y h (Up X.K m H Q) → r' v u H Q)
    (mr : ∀ x y h (Q Q' : DK), (∀ d h', Q d h' → Q' d h') → r3 x y h Q → r3 x y h Q') (mr' : ∀ x y h (Q Q' : DK), (∀ d h', Q d h' → Q' d h') → r3' x y h Q → r3' x y h Q')
    (ma : MonoE ta) (mb : MonoE tb) (mc : MonoE tc) {σ : L2.St} {H : Hp} {Q : VK} (q : LE X.K (tCh r3 r3' ta tb tc) σ H Q) : tChain r r' (LE X.K ta) (LE X.K tb) (LE X.K tc) σ H Q := by
  obtain ⟨m, h, ρ, R, S, q⟩ := q
  refine LE.bind ma R S q fun m1 H1 v x h1 s1 R1 rx S1 q1 => ?_
  refine LE.bind mb R1 S1 q1 fun m2 H2 u y h2 s2 R2 ry S2 q2 => ?_
  refine w m2 h2 H2 x y v u _ R2 (rx.step R1 s2) ry (mr _ _ _ _ _ (fun d h3 q3 m3 H3 z s3 R3 rz => ?_) q2)
  cases d with
  | bl b =>
    cases rz
    refine ⟨b, rfl, ?_⟩
    cases b with
    | false =>
      rw [if_neg Bool.false_ne_true]
      exact q3 m3 H3 _ (s1.trans (s2.trans s3)) R3 (.bl false)
    | true =>
      rw [if_pos rfl]
      refine LE.bind mc R3 (S2.step R2 s3) q3 fun m4 H4 z w4 h4 s4 R4 rz S4 q4 => ?_
      exact w' m4 h4 H4 y w4 u z Q R4 ((ry.step R2 s3).step R3 s4) rz (mr' _ _ _ _ _ (fun d h' u => Up.step (s1.trans (s2.trans (s3.trans s4))) u) q4)
  | _ => exact q3.elim
theorem e3_chain {op op' : CmpOp} {r3 r3' : R3} (o : Op3 X (compareOp op) r3) (o' : Op3 X (compareOp op') r3') (ha : PE3 X a ta) (hb : PE3 X b tb) (hc : PE3 X c tc)
    (hm : lastMarks [op, op'] [b, c] = false := by with_unfolding_all rfl) : PE3 X (.Compare a [op, op'] [b, c] pos) (tCh r3 r3' ta tb tc) := by
  obtain ⟨r, hr, w⟩ := o.ok
  obtain ⟨r', hr', w'⟩ := o'.ok
  exact ⟨PE.weak (pe_chain hr hr' ha.pe hb.pe hc.pe hm) fun σ H Q q => ch_lift w w' o.mono o'.mono ha.mono hb.mono hc.mono q, MonoE.ch o.mono o'.mono ha.mono hb.mono hc.mono⟩
theorem b3_chain {op op' : CmpOp} {r3 r3' : R3} (o : Op3 X (compareOp op) r3) (o' : Op3 X (compareOp op') r3') (ha : PE3 X a ta) (hb : PE3 X b tb) (hc : PE3 X c tc)
    (hm : lastMarks [op, op'] [b, c] = false := by with_unfolding_all rfl) : PB3 X (.Compare a [op, op'] [b, c] pos) (tT (tCh r3 r3' ta tb tc)) := by
  obtain ⟨r, hr, w⟩ := o.ok
  obtain ⟨r', hr', w'⟩ := o'.ok
  have mo := MonoE.ch o.mono o'.mono ha.mono hb.mono hc.mono
  exact ⟨PT.weak (pt_chain hr hr' ha.pe hb.pe hc.pe hm) fun σ H Q q => ch_lift w w' o.mono o'.mono ha.mono hb.mono hc.mono (tT_lift mo q), MonoB.tT mo⟩
/-- an expression whose value is a bool, as a test -/
theorem b3_val {t : E3} (ha : PE3 X a t) (he : ∀ whole, isTrue a X.env whole = (do let v ← whole; standAt a.pos; holding [v] (truthy v)) := by intro _; rfl) : PB3 X a (tT t) :=
  ⟨PT.weak (pt_val ha.pe he) fun σ H Q q => tT_lift ha.mono q, MonoB.tT ha.mono⟩
/-! ### and, or, not -/
variable {t u : B3} {rest : List Expr}
def tAnd3 (t u : B3) : B3 := fun ρ h Q => t ρ h fun c h1 => if c = true then u ρ h1 Q else Q false h1
def tOr3 (t u : B3) : B3 := fun ρ h Q => t ρ h fun c h1 => if c = true then Q true h1 else u ρ h1 Q
def tNot3 (t : B3) : B3 := fun ρ h Q => t ρ h fun c h1 => Q (!c) h1
theorem MonoB.and (mt : MonoB t) (mu : MonoB u) : MonoB (tAnd3 t u) := fun ρ h Q Q' w q => mt _ _ _ _ (fun c h1 q1 => by
  cases c with
  | true => rw [if_pos rfl] at q1 ⊢; exact mu _ _ _ _ w q1
  | false => rw [if_neg Bool.false_ne_true] at q1 ⊢; exact w _ _ q1) q
theorem MonoB.or (mt : MonoB t) (mu : MonoB u) : MonoB (tOr3 t u) := fun ρ h Q Q' w q => mt _ _ _ _ (fun c h1 q1 => by
  cases c with
  | true => rw [if_pos rfl] at q1 ⊢; exact w _ _ q1
  | false => rw [if_neg Bool.false_ne_true] at q1 ⊢; exact mu _ _ _ _ w q1) q
theorem MonoB.not (mt : MonoB t) : MonoB (tNot3 t) := fun ρ h Q Q' w q => mt _ _ _ _ (fun c h1 q1 => w _ _ q1) q
theorem w3_and1 (ha : PB3 X a t) : PW3 X (.BoolOp .And [a] pos) t := ⟨pw_and1 ha.pe, ha.mono⟩
theorem w3_or1 (ha : PB3 X a t) : PW3 X (.BoolOp .Or [a] pos) t := ⟨pw_or1 ha.pe, ha.mono⟩
theorem w3_and (ha : PB3 X a t) (hb : PW3 X (.BoolOp .And (b :: rest) pos) u) : PW3 X (.BoolOp .And (a :: b :: rest) pos) (tAnd3 t u) := by
  refine ⟨PW.weak (pw_and ha.pe hb.pe) fun σ H Q ⟨m, h, ρ, R, S, q⟩ => ?_, ha.mono.and hb.mono⟩
  refine LB.bind ha.mono R S q fun m1 H1 c h1 s1 R1 S1 q1 => ?_
  cases c with
  | true =>
    rw [if_pos rfl] at q1 ⊢
    exact LB.bind hb.mono R1 S1 q1 fun m2 H2 c h2 s2 R2 S2 q2 => q2 m2 H2 (s1.trans s2) R2
  | false =>
    rw [if_neg Bool.false_ne_true] at q1 ⊢
    exact q1 m1 H1 s1 R1
theorem w3_or (ha : PB3 X a t) (hb : PW3 X (.BoolOp .Or (b :: rest) pos) u) : PW3 X (.BoolOp .Or (a :: b :: rest) pos) (tOr3 t u) := by
  refine ⟨PW.weak (pw_or ha.pe hb.pe) fun σ H Q ⟨m, h, ρ, R, S, q⟩ => ?_, ha.mono.or hb.mono⟩
  refine LB.bind ha.mono R S q fun m1 H1 c h1 s1 R1 S1 q1 => ?_
  cases c with
  | false =>
    rw [if_neg Bool.false_ne_true] at q1 ⊢
    exact LB.bind hb.mono R1 S1 q1 fun m2 H2 c h2 s2 R2 S2 q2 => q2 m2 H2 (s1.trans s2) R2
  | true =>
    rw [if_pos rfl] at q1 ⊢
    exact q1 m1 H1 s1 R1
theorem PW3.to {e : Expr} (h : PW3 X e t) : PB3 X e t := ⟨h.pe.pt, h.mono⟩
theorem b3_not (ha : PB3 X a t) : PB3 X (.UnaryOp .Not a pos) (tNot3 t) := by
  refine ⟨PT.weak (pt_not ha.pe) fun σ H Q ⟨m, h, ρ, R, S, q⟩ => ?_, ha.mono.not⟩
  exact LB.bind ha.mono R S q fun m1 H1 c h1 s1 R1 S1 q1 => q1 m1 H1 s1 R1
/-- as values (bools) -/
def tAndE (ta tb : E3) : E3 := fun ρ h Q => ta ρ h fun x h1 => match x with
  | .bl true => tb ρ h1 Q
  | .bl false => Q (.bl false) h1
  | _ => False
def tOrE (ta tb : E3) : E3 := fun ρ h Q => ta ρ h fun x h1 => match x with
  | .bl true => Q (.bl true) h1
  | .bl false => tb ρ h1 Q
  | _ => False
def tNotE (ta : E3) : E3 := fun ρ h Q => ta ρ h fun x h1 => match x with
  | .bl b => Q (.bl (!b)) h1
  | _ => False
theorem e3_one {op} (ha : PE3 X a ta) : PE3 X (.BoolOp op [a] pos) ta := ⟨pe_one ha.pe, ha.mono⟩
theorem e3_and (ha : PE3 X a ta) (hb : PE3 X (.BoolOp .And (b :: rest) pos) tb) : PE3 X (.BoolOp .And (a :: b :: rest) pos) (tAndE ta tb) := by
  refine ⟨PE.weak (pe_and ha.pe hb.pe) fun σ H Q ⟨m, h, ρ, R, S, q⟩ => ?_, fun ρ h Q Q' w q => ha.mono _ _ _ _ (fun d h1 q1 => ?_) q⟩
  · refine LE.bind ha.mono R S q fun m1 H1 v x h1 s1 R1 rx S1 q1 => ?_
    cases x with
    | bl c =>
      cases rx
      refine ⟨c, rfl, ?_⟩
      cases c with
      | true =>
        rw [if_pos rfl]
        exact LE.bind hb.mono R1 S1 q1 fun m2 H2 v d h2 s2 R2 rd S2 q2 => q2 m2 H2 v (s1.trans s2) R2 rd
      | false =>
        rw [if_neg Bool.false_ne_true]
        exact q1 m1 H1 _ s1 R1 (.bl false)
    | _ => exact q1.elim
  · cases d with
    | bl c =>
      cases c with
      | true => exact hb.mono _ _ _ _ w q1
      | false => exact w _ _ q1
    | _ => exact q1
theorem e3_or (ha : PE3 X a ta) (hb : PE3 X (.BoolOp .Or (b :: rest) pos) tb) : PE3 X (.BoolOp .Or (a :: b :: rest) pos) (tOrE ta tb) := by
  refine ⟨PE.weak (pe_or ha.pe hb.pe) fun σ H Q ⟨m, h, ρ, R, S, q⟩ => ?_, fun ρ h Q Q' w q => ha.mono _ _ _ _ (fun d h1 q1 => ?_) q⟩
  · refine LE.bind ha.mono R S q fun m1 H1 v x h1 s1 R1 rx S1 q1 => ?_
    cases x with
    | bl c =>
      cases rx
      refine ⟨c, rfl, ?_⟩
      cases c with
      | false =>
        rw [if_neg Bool.false_ne_true]
        exact LE.bind hb.mono R1 S1 q1 fun m2 H2 v d h2 s2 R2 rd S2 q2 => q2 m2 H2 v (s1.trans s2) R2 rd
      | true =>
        rw [if_pos rfl]
        exact q1 m1 H1 _ s1 R1 (.bl true)
    | _ => exact q1.elim
  · cases d with
    | bl c =>
      cases c with
      | false => exact hb.mono _ _ _ _ w q1
      | true => exact w _ _ q1
    | _ => exact q1
theorem e3_not (ha : PE3 X a ta) : PE3 X (.UnaryOp .Not a pos) (tNotE ta) := by
  refine ⟨PE.weak (pe_not ha.pe) fun σ H Q ⟨m, h, ρ, R, S, q⟩ => ?_, fun ρ h Q Q' w q => ha.mono _ _ _ _ (fun d h1 q1 => ?_) q⟩
  · refine LE.bind ha.mono R S q fun m1 H1 v x h1 s1 R1 rx S1 q1 => ?_
    cases x with
    | bl c => cases rx; exact ⟨c, rfl, q1 m1 H1 _ s1 R1 (.bl _)⟩
    | _ => exact q1.elim
  · cases d with
    | bl c => exact w _ _ q1
    | _ => exact q1
def tIfE (t : B3) (ta tb : E3) : E3 := fun ρ h Q => t ρ h fun c h1 => if c = true then ta ρ h1 Q else tb ρ h1 Q
theorem e3_if (hc : PB3 X c t) (ha : PE3 X a ta) (hb : PE3 X b tb) : PE3 X (.IfExp c a b pos) (tIfE t ta tb) := by
  refine ⟨PE.weak (pe_ifExp hc.pe ha.pe hb.pe) fun σ H Q ⟨m, h, ρ, R, S, q⟩ => ?_, fun ρ h Q Q' w q => hc.mono _ _ _ _ (fun d h1 q1 => ?_) q⟩
  · refine LB.bind hc.mono R S q fun m1 H1 k h1 s1 R1 S1 q1 => ?_
    cases k with
    | true =>
      rw [if_pos rfl] at q1 ⊢
      exact LE.bind ha.mono R1 S1 q1 fun m2 H2 v d h2 s2 R2 rd S2 q2 => q2 m2 H2 v (s1.trans s2) R2 rd
    | false =>
      rw [if_neg Bool.false_ne_true] at q1 ⊢
      exact LE.bind hb.mono R1 S1 q1 fun m2 H2 v d h2 s2 R2 rd S2 q2 => q2 m2 H2 v (s1.trans s2) R2 rd
  · cases d with
    | true => rw [if_pos rfl] at q1 ⊢; exact ha.mono _ _ _ _ w q1
    | false => rw [if_neg Bool.false_ne_true] at q1 ⊢; exact hb.mono _ _ _ _ w q1
/-! ### one value -/
structure Un3 (X : Cx) (f : Value → Sem Value) (r3 : U3) : Prop where
  mono : ∀ x h (Q Q' : DK), (∀ d h', Q d h' → Q' d h') → r3 x h Q → r3 x h Q'
  ok : ∃ r : V → Hp → VK → Prop, UnR X f r ∧ ∀ m h H x v Q, Rep X.K m h H → RelD X.K m H x v → r3 x h (Up X.K m H Q) → r v H Q
theorem e3_un {op : UnaryOp} {r3 : U3} (o : Un3 X (unaryOp op) r3) (ha : PE3 X a ta) : PE3 X (.UnaryOp op a pos) (tU r3 ta) := by
  obtain ⟨r, hr, w⟩ := o.ok
  refine ⟨PE.weak (pe_un hr ha.pe) fun σ H Q ⟨m, h, ρ, R, S, q⟩ => ?_, fun ρ h Q Q' w q => ha.mono _ _ _ _ (fun d h1 q1 => o.mono _ _ _ _ w q1) q⟩
  refine LE.bind ha.mono R S q fun m1 H1 v x h1 s1 R1 rx S1 q1 => ?_
  exact w m1 h1 H1 x v Q R1 rx (o.mono _ _ _ _ (fun d h' u => Up.step s1 u) q1)
end

/-! ### argument lists, displays -/
def tN3 : A3 := fun _ h Q => Q [] h
def tC3 (ta : E3) (tr : A3) : A3 := fun ρ h Q => ta ρ h fun x h1 => tr ρ h1 fun xs h2 => Q (x :: xs) h2
def tTup3 (t : A3) : E3 := fun ρ h Q => t ρ h fun xs h1 => Q (.tup xs) h1
/-- a new list as a cell -/
def tNew (t : A3) : E3 := fun ρ h Q => t ρ h fun xs h1 => Q (.ref h1.length) (h1 ++ [.lst xs])
section
variable {X : Cx} {e : Expr} {es : List Expr} {te : E3} {t : A3} {pos : Pos}
theorem a3_nil : PA3 X [] tN3 := ⟨PA.weak pa_nil fun σ H Q ⟨m, h, ρ, R, S, q⟩ => q m H [] .refl R .nil, fun ρ h Q Q' w q => w _ _ q, fun ρ h Q q => ⟨rfl, q⟩⟩
theorem a3_cons (ha : PE3 X e te) (hr : PA3 X es t) (hs : starEach (e :: es) X.env = (false, eval e X.env) :: starEach es X.env := by rfl) : PA3 X (e :: es) (tC3 te t) := by
  refine ⟨PA.weak (pa_cons ha.pe hr.pe hs) fun σ H Q ⟨m, h, ρ, R, S, q⟩ => ?_, fun ρ h Q Q' w q => ha.mono _ _ _ _ (fun d h1 q1 => hr.mono _ _ _ _ (fun ds h2 q2 => w _ _ q2) q1) q,
    fun ρ h Q q => ha.mono _ _ _ _ (fun d h1 q1 => hr.mono _ _ _ _ (fun ds h2 q2 => ⟨by rw [List.length_cons, q2.1, List.length_cons], q2.2⟩) (hr.len _ _ _ q1)) q⟩
  refine LE.bind ha.mono R S q fun m1 H1 v x h1 s1 R1 rx S1 q1 => ?_
  refine LA.bind hr.mono R1 S1 q1 fun m2 H2 vs xs h2 s2 R2 rxs S2 q2 => ?_
  exact q2 m2 H2 (v :: vs) (s1.trans s2) R2 (.cons (rx.step R1 s2) rxs)
theorem e3_tup {x1} (h : PA3 X es t) (hl : es.length ≤ sizeLine := by decide) : PE3 X (.Tuple es x1 pos) (tTup3 t) := by
  refine ⟨PE.weak (pe_tup h.pe) fun σ H Q ⟨m, st, ρ, R, S, q⟩ => ?_, fun ρ st Q Q' w q => h.mono _ _ _ _ (fun d h1 q1 => w _ _ q1) q⟩
  refine LA.bind h.mono R S (h.len _ _ _ q) fun m1 H1 vs xs h1 s1 R1 rx S1 q1 => ⟨by rw [← rx.length, q1.1]; exact hl, fun p hp => ?_⟩
  exact q1.2 m1 _ (.ref p) (s1.trans (Step.lay hp)) (R1.lay hp) (.tup upd_same (rx.step R1 (Step.lay hp)))
theorem x3_lst (h : PA3 X es t) (hl : es.length ≤ sizeLine := by decide) : PX3 X (.List es pos) t := by
  refine ⟨PE.weak (pe_lst h.pe) fun σ H Q ⟨m, st, ρ, R, S, q⟩ => ?_, h.mono⟩
  refine LA.bind h.mono R S (h.len _ _ _ q) fun m1 H1 vs xs h1 s1 R1 rx S1 q1 => ⟨by rw [← rx.length, q1.1]; exact hl, fun p hp => ?_⟩
  refine q1.2 m1 _ p vs (s1.trans (Step.lay hp)) (R1.lay hp) upd_same ?_ (R1.nonone hp) (rx.step R1 (Step.lay hp))
  cases z : H p with
  | none => rfl
  | some o =>
    by_cases hm : p ∈ m
    · obtain ⟨r, hr⟩ := s1.pre
      exact absurd (show p ∈ m1 by rw [hr]; exact List.mem_append_left _ hm) (R1.nonone hp)
    · rw [s1.keep p o hm z] at hp; cases hp
/-- a new list becomes a cell -/
theorem new_lift {K : PySem.W.Frag} (mo : MonoA t) {σ : L2.St} {H : Hp} {Q : VK} (q : LE K (tNew t) σ H Q) : LX K t σ H Q := by
  obtain ⟨m, st, ρ, R, S, q⟩ := q
  refine LX.bind mo R S q fun m1 H1 a vs xs h1 s1 R1 ea na ha rx S1 q1 => ?_
  -- the cell's own step, from the state ahead of the list
  refine q1 (m1 ++ [a]) H1 (.ref a) ?_ ?_ (.ref (by rw [← R1.len]; simp))
  · obtain ⟨r, hr⟩ := s1.pre
    refine ⟨⟨r ++ [a], by rw [hr, List.append_assoc]⟩, s1.keep, fun c hc hn => ?_⟩
    rcases List.mem_append.mp hc with z | z
    · exact s1.new c z hn
    · rw [List.mem_singleton.mp z]; exact na
  · have mono : ∀ {ds : List D} {vs : List V}, RelDs K m1 H1 ds vs → RelDs K (m1 ++ [a]) H1 ds vs := fun r => r.mono (fun n b e => by
      rw [List.getElem?_append_left (List.getElem?_eq_some_iff.mp e).1]; exact e) (fun _ _ q => q) fun _ _ q => q
    refine ⟨by simp [R1.len], ?_, fun n b c h1 h2 => ?_⟩
    · rw [List.nodup_append]
      refine ⟨R1.nd, by simp, fun x hx y hy => ?_⟩
      have e : y = a := by simpa using hy
      rw [e]
      exact fun z => ha (z ▸ hx)
    · by_cases hn : n < m1.length
      · rw [List.getElem?_append_left hn] at h1
        rw [List.getElem?_append_left (by rw [← R1.len]; exact hn)] at h2
        have ok := R1.at_ n b c h1 h2
        cases c with
        | lst xs => obtain ⟨vs, q, r⟩ := ok; exact ⟨vs, q, mono r⟩
        | dK xs => obtain ⟨vs, q, k, r⟩ := ok; exact ⟨vs, q, k, mono r⟩
        | dT xs => obtain ⟨vs, q, k, r⟩ := ok; exact ⟨vs, q, k, mono r⟩
        | zK o vs xs => obtain ⟨q, k, r⟩ := ok; exact ⟨q, k, mono r⟩
        | zT o vs xs => obtain ⟨q, k, r⟩ := ok; exact ⟨q, k, mono r⟩
        | ins C xs => obtain ⟨dx, vs, q, k, r⟩ := ok; exact ⟨dx, vs, q, k, mono r⟩
      · rw [List.getElem?_append_right (by omega)] at h1
        rw [List.getElem?_append_right (by rw [← R1.len]; omega)] at h2
        have z : n - m1.length = 0 := by
          have := (List.getElem?_eq_some_iff.mp h1).1
          simp at this; omega
        rw [z] at h1
        rw [← R1.len, z] at h2
        simp at h1 h2
        subst h1; subst h2
        exact ⟨vs, ea, mono rx⟩
theorem MonoE.newl (mo : MonoA t) : MonoE (tNew t) := fun ρ st Q Q' w q => mo _ _ _ _ (fun d h1 q1 => w _ _ q1) q
theorem e3_new (h : PX3 X e t) : PE3 X e (tNew t) := ⟨PE.weak h.pe fun σ H Q q => new_lift h.mono q, .newl h.mono⟩
end

/-! ### statements -/
section
variable {X : Cx} {st : Stmt} {rest : List Stmt} {t u : C3} {e : Expr} {te : E3} {pos : Pos}
theorem EndsLe.refl {D : Ends3} : EndsLe D D := ⟨fun _ _ q => q, fun _ _ q => q, fun _ _ q => q, fun _ _ q => q⟩
def cNext : C3 := fun D ρ h => D.nx ρ h
def cSeq (t u : C3) : C3 := fun D ρ h => t { D with nx := u D } ρ h
theorem MonoC.seq (mt : MonoC t) (mu : MonoC u) : MonoC (cSeq t u) := fun D D' ρ h w q => mt { D with nx := u D } { D' with nx := u D' } ρ h ⟨fun ρ h q => mu _ _ _ _ w q, w.rt, w.bk, w.ct⟩ q
/-- the lifted ends of a later state -/
theorem LC.of {K : PySem.W.Frag} {m : List Addr} {H : Hp} {h : Sto} {ρ : S3} {σ : L2.St} {D : Ends} (mt : MonoC t) {D3 : Ends3} (R : Rep K m h H) (S : RelS K m H ρ σ) (w : EndsLe D3 (UpC K m H D)) (q : t D3 ρ h) : LC K t D σ H := ⟨m, h, ρ, R, S, mt _ _ _ _ w q⟩
theorem cs3_nil : PCs3 X [] cNext := ⟨PSs.weak pss_nil fun D σ H ⟨m, h, ρ, R, S, q⟩ => q m H σ .refl R S, fun D D' ρ h w q => w.nx _ _ q⟩
theorem cs3_cons (h1 : PC3 X st t) (h2 : PCs3 X rest u) : PCs3 X (st :: rest) (cSeq t u) := by
  refine ⟨PSs.weak (pss_cons h1.pe h2.pe) fun D σ H ⟨m, h, ρ, R, S, q⟩ => ?_, h1.mono.seq h2.mono⟩
  refine LC.of (D3 := { UpC X.K m H D with nx := u (UpC X.K m H D) }) h1.mono R S ⟨fun ρ' h' q m' H' σ' s R' S' => ?_, fun _ _ q => q, fun _ _ q => q, fun _ _ q => q⟩ q
  exact LC.of h2.mono R' S' (UpC.step s) q
theorem cs3_one (h1 : PC3 X st t) : PCs3 X [st] t := ⟨pss_one h1.pe, h1.mono⟩
def cBreak : C3 := fun D ρ h => D.bk ρ h
def cCont : C3 := fun D ρ h => D.ct ρ h
theorem c3_pass : PC3 X (.Pass pos) cNext := ⟨PS.weak ps_pass fun D σ H ⟨m, h, ρ, R, S, q⟩ => q m H σ .refl R S, fun D D' ρ h w q => w.nx _ _ q⟩
theorem c3_break : PC3 X (.Break pos) cBreak := ⟨PS.weak ps_break fun D σ H ⟨m, h, ρ, R, S, q⟩ => q m H σ .refl R S, fun D D' ρ h w q => w.bk _ _ q⟩
theorem c3_continue : PC3 X (.Continue pos) cCont := ⟨PS.weak ps_continue fun D σ H ⟨m, h, ρ, R, S, q⟩ => q m H σ .refl R S, fun D D' ρ h w q => w.ct _ _ q⟩
def cDrop (te : E3) : C3 := fun D ρ h => te ρ h fun _ h1 => D.nx ρ h1
theorem c3_expr (he : PE3 X e te) (hs : swapsWith e none pos.line X.env = pure false := by rfl) : PC3 X (.Expr e pos) (cDrop te) := by
  refine ⟨PS.weak (ps_expr he.pe hs) fun D σ H ⟨m, h, ρ, R, S, q⟩ => ?_, fun D D' ρ h w q => he.mono _ _ _ _ (fun _ _ q => w.nx _ _ q) q⟩
  exact LE.bind he.mono R S q fun m1 H1 v x h1 s1 R1 rx S1 q1 => q1 m1 H1 σ s1 R1 S1
def cRet (te : E3) : C3 := fun D ρ h => te ρ h D.rt
theorem c3_ret (he : PE3 X e te) : PC3 X (.Return (some e) pos) (cRet te) := by
  refine ⟨PS.weak (ps_ret he.pe) fun D σ H ⟨m, h, ρ, R, S, q⟩ => ?_, fun D D' ρ h w q => he.mono _ _ _ _ (fun _ _ q => w.rt _ _ q) q⟩
  exact LE.bind he.mono R S q fun m1 H1 v x h1 s1 R1 rx S1 q1 => q1 m1 H1 v s1 R1 rx
def cRetN : C3 := fun D _ h => D.rt .non h
theorem c3_retN : PC3 X (.Return none pos) cRetN := ⟨PS.weak ps_retN fun D σ H ⟨m, h, ρ, R, S, q⟩ => q m H .non .refl R .non, fun D D' ρ h w q => w.rt _ _ q⟩
def cIf (c : B3) (t u : C3) : C3 := fun D ρ h => c ρ h fun b h1 => if b = true then t D ρ h1 else u D ρ h1
theorem c3_if {c : Expr} {a b : List Stmt} {tc : B3} (hc : PB3 X c tc) (ha : PCs3 X a t) (hb : PCs3 X b u) : PC3 X (.If c a b pos) (cIf tc t u) := by
  refine ⟨PS.weak (ps_if hc.pe ha.pe hb.pe) fun D σ H ⟨m, h, ρ, R, S, q⟩ => ?_, fun D D' ρ h w q => hc.mono _ _ _ _ (fun b h1 q => ?_) q⟩
  · refine LB.bind hc.mono R S q fun m1 H1 k h1 s1 R1 S1 q1 => ?_
    cases k with
    | true => rw [if_pos rfl] at q1 ⊢; exact LC.of ha.mono R1 S1 (UpC.step s1) q1
    | false => rw [if_neg Bool.false_ne_true] at q1 ⊢; exact LC.of hb.mono R1 S1 (UpC.step s1) q1
  · cases b with
    | true => rw [if_pos rfl] at q ⊢; exact ha.mono _ _ _ _ w q
    | false => rw [if_neg Bool.false_ne_true] at q ⊢; exact hb.mono _ _ _ _ w q
/-! ### targets -/
abbrev G3 := D → S3 → Sto → (S3 → Sto → Prop) → Prop
abbrev Gs3 := List D → S3 → Sto → (S3 → Sto → Prop) → Prop
def LG (K : PySem.W.Frag) (g : G3) : TG := fun v σ H Q => ∃ m h ρ d, Rep K m h H ∧ RelS K m H ρ σ ∧ RelD K m H d v ∧ g d ρ h (UpS K m H Q)
def LGs (K : PySem.W.Frag) (g : Gs3) : TGs := fun v σ H Q => ∃ m h ρ d, Rep K m h H ∧ RelS K m H ρ σ ∧ RelDs K m H d v ∧ g d ρ h (UpS K m H Q)
structure PG3 (X : Cx) (tg : Expr) (g : G3) : Prop where
  pe : PG X tg (LG X.K g)
  mono : ∀ d ρ h (Q Q' : S3 → Sto → Prop), (∀ ρ h, Q ρ h → Q' ρ h) → g d ρ h Q → g d ρ h Q'
structure PGs3 (X : Cx) (tg : List Expr) (g : Gs3) : Prop where
  pe : PGs X tg (LGs X.K g)
  mono : ∀ d ρ h (Q Q' : S3 → Sto → Prop), (∀ ρ h, Q ρ h → Q' ρ h) → g d ρ h Q → g d ρ h Q'
theorem PG.weak {X : Cx} {e : Expr} {t t' : TG} (p : PG X e t) (w : ∀ v σ H Q, t' v σ H Q → t v σ H Q) : PG X e t' := ⟨fun pins s σ H v u Q I r h => p.run pins s σ H v u Q I r (w v σ H Q h)⟩
theorem PGs.weak {X : Cx} {e : List Expr} {t t' : TGs} (p : PGs X e t) (w : ∀ v σ H Q, t' v σ H Q → t v σ H Q) : PGs X e t' := ⟨fun pins s σ H v u Q I r h => p.run pins s σ H v u Q I r (w v σ H Q h)⟩
def gN (i : Nat) : G3 := fun d ρ h Q => Q (ρ.set i (some d)) h
theorem g3_n (i : Nat) {x : Str} {pos : Pos} (hN : X.N.Nodup) (hi : X.N[i]? = some x := by rfl) (hx : Loc X.env.scope x := by first | exact Or.inl rfl | exact Or.inr rfl) (hf : X.fn x = true ∨ X.env.scope.names.lookup x = some .local := by first | exact .inl rfl | exact .inr rfl | assumption) : PG3 X (.Name x pos) (gN i) :=
  ⟨PG.weak (pg_name hN hi hx hf) fun v σ H Q ⟨m, h, ρ, d, R, S, r, q⟩ => q m H _ .refl R (S.set r i), fun d ρ h Q Q' w q => w _ _ q⟩
def gNil3 : Gs3 := fun ds ρ h Q => match ds with
  | [] => Q ρ h
  | _ :: _ => False
def gCons3 (g : G3) (r : Gs3) : Gs3 := fun ds ρ h Q => match ds with
  | [] => False
  | d :: ds => g d ρ h fun ρ' h' => r ds ρ' h' Q
theorem gs3_nil : PGs3 X [] gNil3 := by
  refine ⟨PGs.weak pgs_nil fun v σ H Q ⟨m, h, ρ, d, R, S, r, q⟩ => ?_, fun d ρ h Q Q' w q => ?_⟩
  · cases r with
    | nil => exact ⟨rfl, q m H σ .refl R S⟩
    | cons a b => exact q.elim
  · cases d with
    | nil => exact w _ _ q
    | cons a b => exact q
theorem gs3_cons {e : Expr} {es : List Expr} {g : G3} {r : Gs3} (h1 : PG3 X e g) (h2 : PGs3 X es r)
    (hs : (assignEach (e :: es) X.env).map (·.2) = assign e X.env :: (assignEach es X.env).map (·.2) := by rfl) : PGs3 X (e :: es) (gCons3 g r) := by
  refine ⟨PGs.weak (pgs_cons h1.pe h2.pe hs) fun v σ H Q ⟨m, h, ρ, d, R, S, rd, q⟩ => ?_, fun d ρ h Q Q' w q => ?_⟩
  · cases rd with
    | nil => exact q.elim
    | cons a b =>
      refine ⟨_, _, rfl, m, h, ρ, _, R, S, a, h1.mono _ _ _ _ _ (fun ρ' h' q' m' H' σ' s R' S' => ?_) q⟩
      exact ⟨m', h', ρ', _, R', S', b.step R s, h2.mono _ _ _ _ _ (fun ρ2 h2 q2 => UpS.step s q2) q'⟩
  · cases d with
    | nil => exact q
    | cons a b => exact h1.mono _ _ _ _ _ (fun _ _ q => h2.mono _ _ _ _ _ w q) q
def gTup3 (n : Nat) (g : Gs3) : G3 := fun d ρ h Q => match d with
  | .tup xs => xs.length = n ∧ g xs ρ h Q
  | _ => False
theorem g3_tup {es : List Expr} {k : Nat} {g : Gs3} {n : Nat} {pos : Pos} (hc : X.calm = true) (h : PGs3 X es g)
    (hn : (assignEach es X.env).length = n := by rfl) (hst : (assignEach es X.env).findIdx? (·.1) = none := by rfl) : PG3 X (.Tuple es k pos) (gTup3 n g) := by
  refine ⟨PG.weak (pg_tup hc h.pe hn hst) fun v σ H Q ⟨m, st, ρ, d, R, S, rd, q⟩ => ?_, fun d ρ st Q Q' w q => ?_⟩
  · cases rd with
    | tup sq r => exact ⟨_, _, rfl, TH sq, by rw [← r.length]; exact q.1, m, st, ρ, _, R, S, r, q.2⟩
    | _ => exact q.elim
  · cases d with
    | tup xs => exact ⟨q.1, h.mono _ _ _ _ _ w q.2⟩
    | _ => exact q
/-- target = value -/
def cAsg (te : E3) (g : G3) : C3 := fun D ρ h => te ρ h fun x h1 => g x ρ h1 D.nx
theorem c3_asg {tg e : Expr} {te : E3} {g : G3} {pos : Pos} (he : PE3 X e te) (hg : PG3 X tg g) (hs : swapsWithSole [tg] e pos.line X.env = pure false := by rfl) (hw : swappedStores [tg] e X.env = pure none := by rfl)
    (h1 : (assignEach [tg] X.env).map (·.2) = [assign tg X.env] := by rfl) : PC3 X (.Assign [tg] e pos) (cAsg te g) := by
  refine ⟨PS.weak (ps_asg he.pe hg.pe hs hw h1) fun D σ H ⟨m, h, ρ, R, S, q⟩ => ?_, fun D D' ρ h w q => he.mono _ _ _ _ (fun _ _ q => hg.mono _ _ _ _ _ w.nx q) q⟩
  refine LE.bind he.mono R S q fun m1 H1 v x h1 s1 R1 rx S1 q1 => ?_
  exact ⟨m1, h1, ρ, x, R1, S1, rx, hg.mono _ _ _ _ _ (fun _ _ q => UpS.step s1 q) q1⟩
/-- name = value -/
theorem c3_set (i : Nat) {x : Str} {e : Expr} {te : E3} {pos pos' : Pos} (hN : X.N.Nodup) (he : PE3 X e te) (hi : X.N[i]? = some x := by rfl) (hx : Loc X.env.scope x := by first | exact Or.inl rfl | exact Or.inr rfl) (hs : swapsWith e (some (.Name x pos')) pos.line X.env = pure false := by rfl)
    (hf : X.fn x = true ∨ X.env.scope.names.lookup x = some .local := by first | exact .inl rfl | exact .inr rfl | assumption) : PC3 X (.Assign [.Name x pos'] e pos) (cAsg te (gN i)) := by
  refine ⟨PS.weak (ps_set hN hi hx he.pe hs hf) fun D σ H ⟨m, h, ρ, R, S, q⟩ => ?_, fun D D' ρ h w q => he.mono _ _ _ _ (fun _ _ q => w.nx _ _ q) q⟩
  refine LE.bind he.mono R S q fun m1 H1 v x h1 s1 R1 rx S1 q1 => ?_
  exact q1 m1 H1 _ s1 R1 (S1.set rx i)
/-- a, b = x, y -/
def cPar (i j : Nat) (ta : A3) : C3 := fun D ρ h => ta ρ h fun vs h1 => match vs with
  | [v, w] => D.nx ((ρ.set i (some v)).set j (some w)) h1
  | _ => False
theorem c3_par (i j : Nat) {x y : Str} {a b : Expr} {ta : A3} {px py pt : Pos} {kt k2 pt2} {pos : Pos} (hc : X.calm = true) (hN : X.N.Nodup) (ha : PA3 X [a, b] ta) (hi : X.N[i]? = some x := by rfl) (hj : X.N[j]? = some y := by rfl) (hij : i ≠ j := by decide)
    (hx : X.env.scope.names.lookup x = some .local := by rfl) (hy : X.env.scope.names.lookup y = some .local := by rfl)
    (hw : swappedStores [.Tuple [.Name x px, .Name y py] kt pt] (.Tuple [a, b] k2 pt2) X.env = pure (some [x, y]) := by rfl)
    (hs : swapsWithSole [.Tuple [.Name x px, .Name y py] kt pt] (.Tuple [a, b] k2 pt2) pos.line X.env = pure false := by rfl) :
    PC3 X (.Assign [.Tuple [.Name x px, .Name y py] kt pt] (.Tuple [a, b] k2 pt2) pos) (cPar i j ta) := by
  refine ⟨PS.weak (ps_par hc hN hi hj hij hx hy ha.pe hw hs) fun D σ H ⟨m, h, ρ, R, S, q⟩ => ?_, fun D D' ρ h w q => ha.mono _ _ _ _ (fun vs h1 q => ?_) q⟩
  · refine LA.bind ha.mono R S q fun m1 H1 vs xs h1 s1 R1 rx S1 q1 => ?_
    match xs, rx, q1 with
    | [a, b], .cons r1 (.cons r2 .nil), q1 => exact ⟨_, _, rfl, q1 m1 H1 _ s1 R1 ((S1.set r1 i).set r2 j)⟩
  · match vs, q with
    | [a, b], q => exact w.nx _ _ q
end
end F3
/-! FC: loops, comprehensions, calls, defs. -/
namespace F3
open PySem PySem.Spec PyProof.Rows L2

/-! ### while -/
def whN (c : B3) (b : C3) (E : Ends3) : Nat → S3 → Sto → Prop
  | 0, _, _ => False
  | n + 1, ρ, h => c ρ h fun k h1 => if k = true then b { E with nx := whN c b E n, ct := whN c b E n, bk := E.nx } ρ h1 else E.nx ρ h1
def cWhile (c : B3) (b : C3) : C3 := fun E ρ h => ∃ n, whN c b E n ρ h
theorem whN_mono {c : B3} {b : C3} (mc : MonoB c) (mb : MonoC b) {E E' : Ends3} (w : EndsLe E E') : ∀ n ρ h, whN c b E n ρ h → whN c b E' n ρ h
  | 0, _, _, q => q
  | n + 1, ρ, h, q => mc _ _ _ _ (fun k h1 q1 => by
      cases k with
      | true => rw [if_pos rfl] at q1 ⊢; exact mb { E with nx := whN c b E n, ct := whN c b E n, bk := E.nx } _ _ _ ⟨whN_mono mc mb w n, w.rt, w.nx, whN_mono mc mb w n⟩ q1
      | false => rw [if_neg Bool.false_ne_true] at q1 ⊢; exact w.nx _ _ q1) q
section
variable {X : Cx} {pos : Pos}
theorem c3_while {c : Expr} {body : List Stmt} {tc : B3} {tb : C3} (hp : PassesOwn (model X.prog X.w) X.A X.env X.xe) (hc : PB3 X c tc) (hb : PCs3 X body tb) : PC3 X (.While c body [] pos) (cWhile tc tb) := by
  refine ⟨PS.weak (ps_while hp hc.pe hb.pe) fun D σ H ⟨m, h, ρ, R, S, n, q⟩ => ?_, fun E E' ρ h w ⟨n, q⟩ => ⟨n, whN_mono hc.mono hb.mono w n ρ h q⟩⟩
  refine ⟨fun k σ' H' => ∃ m' h' ρ', Step m H m' H' ∧ Rep X.K m' h' H' ∧ RelS X.K m' H' ρ' σ' ∧ whN tc tb (UpC X.K m H D) k ρ' h', ⟨n, m, h, ρ, .refl, R, S, q⟩, ?_⟩
  rintro k σ1 H1 ⟨m1, h1, ρ1, s1, R1, S1, q1⟩
  cases k with
  | zero => exact q1.elim
  | succ k =>
    refine LB.bind hc.mono R1 S1 q1 fun m2 H2 b h2 s2 R2 S2 q2 => ?_
    cases b with
    | false =>
      rw [if_neg Bool.false_ne_true] at q2 ⊢
      exact q2 m2 H2 σ1 (s1.trans s2) R2 S2
    | true =>
      rw [if_pos rfl] at q2 ⊢
      refine ⟨fun σ' H' => ∃ m' h' ρ', Step m H m' H' ∧ Rep X.K m' h' H' ∧ RelS X.K m' H' ρ' σ' ∧ whN tc tb (UpC X.K m H D) k ρ' h', fun σ' H' z => ⟨k, Nat.lt_succ_self k, z⟩, ?_⟩
      refine LC.of hb.mono R2 S2 ⟨fun ρ3 h3 q3 m3 H3 σ3 s3 R3 S3 => ?_, fun d h u => Up.step (s1.trans s2) u, fun d h u => UpS.step (s1.trans s2) u, fun ρ3 h3 q3 m3 H3 σ3 s3 R3 S3 => ?_⟩ q2
      · exact ⟨m3, h3, ρ3, s1.trans (s2.trans s3), R3, S3, q3⟩
      · exact ⟨m3, h3, ρ3, s1.trans (s2.trans s3), R3, S3, q3⟩
end

/-! ### what is walked -/
abbrev I3 := S3 → Sto → (List D → (Sto → Prop) → Sto → Prop) → Prop
structure Serves (K : PySem.W.Frag) (J : It) (items : List D) (still : Sto → Prop) (m0 : List Addr) (H0 : Hp) : Prop where
  go : ∀ m H h, Step m0 H0 m H → Rep K m h H → still h → ∀ (i : Nat) (x : D), items[i]? = some x → J.go i H ∧ ∀ v H', J.yld i H v H' → Step m H m H' ∧ Rep K m h H' ∧ RelD K m H' x v
  stop : ∀ m H h, Step m0 H0 m H → Rep K m h H → still h → ∀ i : Nat, items.length ≤ i → J.stop i H
def UpI (K : PySem.W.Frag) (m : List Addr) (H : Hp) (R : It → Hp → Prop) : List D → (Sto → Prop) → Sto → Prop := fun items still h' => ∀ m' H' J, Step m H m' H' → Rep K m' h' H' → Serves K J items still m' H' → R J H'
def LI (K : PySem.W.Frag) (t : I3) : TI := fun σ H R => ∃ m h ρ, Rep K m h H ∧ RelS K m H ρ σ ∧ t ρ h (UpI K m H R)
def MonoI (t : I3) : Prop := ∀ ρ h (Q Q' : List D → (Sto → Prop) → Sto → Prop), (∀ xs st h', Q xs st h' → Q' xs st h') → t ρ h Q → t ρ h Q'
structure PI3 (X : Cx) (tg iter : Expr) (t : I3) : Prop where
  pe : PI X tg iter (LI X.K t)
  mono : MonoI t
theorem PI.weak {X : Cx} {tg e : Expr} {t t' : TI} (p : PI X tg e t) (w : ∀ σ H Q, t' σ H Q → t σ H Q) : PI X tg e t' := ⟨fun pins s σ H Q I h => p.run pins s σ H Q I (w σ H Q h)⟩
theorem LI.bind {K : PySem.W.Frag} {m : List Addr} {H : Hp} {h : Sto} {ρ : S3} {σ : L2.St} {t : I3} (mo : MonoI t) (R : Rep K m h H) (S : RelS K m H ρ σ) {Q3 : List D → (Sto → Prop) → Sto → Prop} (q : t ρ h Q3) {Q : It → Hp → Prop}
    (k : ∀ m' H' J xs st h', Step m H m' H' → Rep K m' h' H' → Serves K J xs st m' H' → RelS K m' H' ρ σ → Q3 xs st h' → Q J H') : LI K t σ H Q :=
  ⟨m, h, ρ, R, S, mo ρ h _ _ (fun xs st h' q m' H' J s rp sv => k m' H' J xs st h' s rp sv (S.step R s) q) q⟩

/-! ### for -/
def forI (g : G3) (b : C3) (st : Sto → Prop) (E : Ends3) : List D → S3 → Sto → Prop
  | [], ρ, h => st h ∧ E.nx ρ h
  | x :: r, ρ, h => st h ∧ g x ρ h fun ρ' h' => b { E with nx := forI g b st E r, ct := forI g b st E r, bk := E.nx } ρ' h'
def cFor (it : I3) (g : G3) (b : C3) : C3 := fun E ρ h => it ρ h fun items st h1 => forI g b st E items ρ h1
theorem forI_mono {g : G3} {b : C3} (mg : ∀ d ρ h (Q Q' : S3 → Sto → Prop), (∀ ρ h, Q ρ h → Q' ρ h) → g d ρ h Q → g d ρ h Q') (mb : MonoC b) {st : Sto → Prop} {E E' : Ends3} (w : EndsLe E E') : ∀ xs ρ h, forI g b st E xs ρ h → forI g b st E' xs ρ h
  | [], _, _, q => ⟨q.1, w.nx _ _ q.2⟩
  | x :: r, ρ, h, q => ⟨q.1, mg _ _ _ _ _ (fun ρ' h' q' => mb { E with nx := forI g b st E r, ct := forI g b st E r, bk := E.nx } _ _ _ ⟨forI_mono mg mb w r, w.rt, w.nx, forI_mono mg mb w r⟩ q') q.2⟩
section
variable {X : Cx} {tg : Expr} {pos : Pos}
theorem c3_for {iter : Expr} {body : List Stmt} {it : I3} {g : G3} {tb : C3} (hp : PassesOwn (model X.prog X.w) X.A X.env X.xe) (hc : X.calm = true) (hi : PI3 X tg iter it) (hg : PG3 X tg g) (hb : PCs3 X body tb)
    (hs : ∀ x, foldedSetIterable iter X.env x = pure x := by intro _; rfl) : PC3 X (.For tg iter body [] pos) (cFor it g tb) := by
  refine ⟨PS.weak (ps_for hp hc hi.pe hg.pe hb.pe hs) fun D σ H ⟨m0, h0, ρ0, R0, S0, q⟩ => ?_, fun E E' ρ h w q => hi.mono _ _ _ _ (fun xs st h1 q1 => forI_mono hg.mono hb.mono w xs ρ h1 q1) q⟩
  refine LI.bind hi.mono R0 S0 q fun m H J items st h s0 R sv S q => ?_
  refine ⟨fun i n σ' H' => ∃ m' h' ρ', Step m H m' H' ∧ Rep X.K m' h' H' ∧ RelS X.K m' H' ρ' σ' ∧ i ≤ items.length ∧ n = items.length - i ∧ forI g tb st (UpC X.K m H D) (items.drop i) ρ' h', ⟨items.length, m, h, ρ0, .refl, R, S, Nat.zero_le _, rfl, forI_mono hg.mono hb.mono (UpC.step s0) _ _ _ q⟩, ?_⟩
  rintro i n σ1 H1 ⟨m1, h1, ρ1, s1, R1, S1, hi', hn, q1⟩
  by_cases hlt : i < items.length
  · have ed : items.drop i = items[i] :: items.drop (i + 1) := List.drop_eq_getElem_cons hlt
    rw [ed] at q1
    obtain ⟨hst, q1⟩ := q1
    obtain ⟨jg, jy⟩ := sv.go m1 H1 h1 s1 R1 hst i items[i] (List.getElem?_eq_getElem hlt)
    refine .inr ⟨jg, fun σ' H' => ∃ m' h' ρ', Step m H m' H' ∧ Rep X.K m' h' H' ∧ RelS X.K m' H' ρ' σ' ∧ forI g tb st (UpC X.K m H D) (items.drop (i + 1)) ρ' h', fun σ' H' ⟨m', h', ρ', z1, z2, z3, z4⟩ => ⟨items.length - (i + 1), by omega, m', h', ρ', z1, z2, z3, hlt, rfl, z4⟩, fun v H2 hy => ?_⟩
    obtain ⟨s2, R2, rx⟩ := jy v H2 hy
    refine ⟨m1, h1, ρ1, items[i], R2, S1.step R1 s2, rx, hg.mono _ _ _ _ _ (fun ρ3 h3 q3 m3 H3 σ3 s3 R3 S3 => ?_) q1⟩
    have s13 := s1.trans (s2.trans s3)
    exact LC.of hb.mono R3 S3 ⟨fun ρ4 h4 q4 m4 H4 σ4 s4 R4 S4 => ⟨m4, h4, ρ4, s13.trans s4, R4, S4, q4⟩, fun d h u => Up.step s13 u, fun d h u => UpS.step s13 u, fun ρ4 h4 q4 m4 H4 σ4 s4 R4 S4 => ⟨m4, h4, ρ4, s13.trans s4, R4, S4, q4⟩⟩ q3
  · have e : i = items.length := by omega
    rw [List.drop_eq_nil_of_le (by omega)] at q1
    exact .inl ⟨sv.stop m1 H1 h1 s1 R1 q1.1 i (by omega), q1.2 m1 H1 σ1 s1 R1 S1⟩
end

/-! ### the things walked -/
/-- a tuple, a list that never changes: its items; a cell: its items, while it stands still -/
def iSeq (t : E3) : I3 := fun ρ h Q => t ρ h fun d h1 => match d with
  | .tup xs => Q xs (fun _ => True) h1
  | .fl xs => Q xs (fun _ => True) h1
  | .ref n => match h1[n]? with
    | some (.lst xs) => Q xs (fun h' => h'[n]? = some (.lst xs)) h1
    | _ => False
  | _ => False
/-- a new list -/
def iNew (t : A3) : I3 := fun ρ h Q => t ρ h fun xs h1 => Q xs (fun _ => True) h1
def iRng (ta : A3) : I3 := fun ρ h Q => ta ρ h fun vs h1 => match vs with
  | [.int j] => (-(2 ^ 62) ≤ j ∧ j < 2 ^ 62) ∧ Q ((List.range j.toNat).map fun (k : Nat) => D.int k) (fun _ => True) h1
  | [.int i, .int j] => (-(2 ^ 62) ≤ i ∧ i < 2 ^ 62 ∧ -(2 ^ 62) ≤ j ∧ j < 2 ^ 62) ∧ Q ((List.range (j - i).toNat).map fun (k : Nat) => D.int (i + k)) (fun _ => True) h1
  | _ => False
section
variable {K : PySem.W.Frag} {m : List Addr} {H : Hp} {h : Sto} {a b : Addr} {vs : List V} {xs ys : List D}
/-- the list at a is to be read with these items, wherever one stands behind (m, H) and still holds -/
def StL (K : PySem.W.Frag) (a : Addr) (xs : List D) (still : Sto → Prop) (m : List Addr) (H : Hp) : Prop := ∀ m' H' h', Step m H m' H' → Rep K m' h' H' → still h' → ∃ ws, SqL K H' a ws ∧ RelDs K m' H' xs ws
def StT (K : PySem.W.Frag) (a : Addr) (xs : List D) (m : List Addr) (H : Hp) : Prop := ∀ m' H' h', Step m H m' H' → Rep K m' h' H' → ∃ ws, SqT K H' a ws ∧ RelDs K m' H' xs ws
theorem StT.of (R : Rep K m h H) (q : SqT K H a vs) (r : RelDs K m H xs vs) : StT K a xs m H := fun m' H' h' s _ => ⟨vs, SqT.step R s q, r.step R s⟩
theorem StL.fl (R : Rep K m h H) (q : SqF K H a vs) (r : RelDs K m H xs vs) {still : Sto → Prop} : StL K a xs still m H := fun m' H' h' s _ _ => ⟨vs, (SqF.step R s q).sq, r.step R s⟩
theorem StL.new (R : Rep K m h H) (q : H a = some (.lst vs)) (na : a ∉ m) (r : RelDs K m H xs vs) {still : Sto → Prop} : StL K a xs still m H := fun m' H' h' s _ _ => ⟨vs, .inl (.inl (s.keep _ _ na q)), r.step R s⟩
theorem StL.ref {n : Nat} (e : m[n]? = some a) : StL K a xs (fun h' => h'[n]? = some (.lst xs)) m H := fun m' H' h' s R st => by
  obtain ⟨ws, q, r⟩ := R.at_ n a _ (s.get e) st
  exact ⟨ws, .inl (.inl q), r⟩
theorem serves_list {still : Sto → Prop} (sq : StL K a xs still m H) : Serves K (Itl K a) xs still m H := by
  refine ⟨fun m1 H1 h1 s1 R1 st i x hx => ?_, fun m1 H1 h1 s1 R1 st i hi => ?_⟩
  · obtain ⟨ws, q, r⟩ := sq m1 H1 h1 s1 R1 st
    obtain ⟨v, ev, rv⟩ := r.get hx
    refine ⟨⟨ws, v, q, ev⟩, fun v' H' ⟨e, f⟩ => ?_⟩
    subst e
    have e2 := f ws q
    rw [ev] at e2; cases e2
    exact ⟨.refl, R1, rv⟩
  · obtain ⟨ws, q, r⟩ := sq m1 H1 h1 s1 R1 st
    exact ⟨ws, q, by rw [← r.length]; exact hi⟩
theorem serves_tup (sq : StT K a xs m H) : Serves K (Itt K a) xs (fun _ => True) m H := by
  refine ⟨fun m1 H1 h1 s1 R1 st i x hx => ?_, fun m1 H1 h1 s1 R1 st i hi => ?_⟩
  · obtain ⟨ws, q, r⟩ := sq m1 H1 h1 s1 R1
    obtain ⟨v, ev, rv⟩ := r.get hx
    refine ⟨⟨ws, v, q, ev⟩, fun v' H' ⟨e, f⟩ => ?_⟩
    subst e
    have e2 := f ws q
    rw [ev] at e2; cases e2
    exact ⟨.refl, R1, rv⟩
  · obtain ⟨ws, q, r⟩ := sq m1 H1 h1 s1 R1
    exact ⟨ws, q, by rw [← r.length]; exact hi⟩
theorem serves_range (lo : Int) (n : Nat) : Serves K (Itr lo n) ((List.range n).map fun (k : Nat) => D.int (lo + k)) (fun _ => True) m H := by
  refine ⟨fun m1 H1 h1 s1 R1 st i x hx => ?_, fun m1 H1 h1 s1 R1 st i hi => ?_⟩
  · have hl : i < n := by
      have := (List.getElem?_eq_some_iff.mp hx).1
      simpa using this
    refine ⟨hl, fun v' H' ⟨e, f⟩ => ?_⟩
    subst e; subst f
    rw [List.getElem?_map, List.getElem?_range hl] at hx
    cases hx
    exact ⟨.refl, R1, .int _⟩
  · show n ≤ i
    simpa using hi
theorem serves_enum {still : Sto → Prop} (sq : StL K a xs still m H) : Serves K (Ite K a) (xs.mapIdx fun i x => D.tup [.int i, x]) still m H := by
  refine ⟨fun m1 H1 h1 s1 R1 st i x hx => ?_, fun m1 H1 h1 s1 R1 st i hi => ?_⟩
  · obtain ⟨ws, q, r⟩ := sq m1 H1 h1 s1 R1 st
    rw [List.getElem?_mapIdx] at hx
    obtain ⟨y, ey, rfl⟩ := Option.map_eq_some_iff.mp hx
    obtain ⟨v, ev, rv⟩ := r.get ey
    refine ⟨⟨ws, v, q, ev⟩, fun v' H' ⟨T, x', e1, nT, e2, f⟩ => ?_⟩
    subst e1; subst e2
    have e3 := f ws q
    rw [ev] at e3; cases e3
    exact ⟨Step.lay nT, R1.lay nT, .tup upd_same (.cons (.int _) (.cons (rv.step R1 (Step.lay nT)) .nil))⟩
  · obtain ⟨ws, q, r⟩ := sq m1 H1 h1 s1 R1 st
    exact ⟨ws, q, by rw [← r.length]; simpa using hi⟩
theorem serves_rev {still : Sto → Prop} {n : Nat} (hn : n = xs.length) (sq : StL K a xs still m H) : Serves K (Itv K a n) xs.reverse still m H := by
  subst hn
  refine ⟨fun m1 H1 h1 s1 R1 st i x hx => ?_, fun m1 H1 h1 s1 R1 st i hi => ?_⟩
  · obtain ⟨ws, q, r⟩ := sq m1 H1 h1 s1 R1 st
    have hl : i < xs.length := by
      have := (List.getElem?_eq_some_iff.mp hx).1
      simpa using this
    rw [List.getElem?_reverse hl] at hx
    obtain ⟨v, ev, rv⟩ := r.get hx
    refine ⟨⟨hl, ws, v, q, ev⟩, fun v' H' ⟨e, f⟩ => ?_⟩
    subst e
    have e2 := f ws q
    rw [ev] at e2; cases e2
    exact ⟨.refl, R1, rv⟩
  · show xs.length ≤ i
    simpa using hi
theorem zip_get {i : Nat} {x : D} (hx : (List.zipWith (fun x y => D.tup [x, y]) xs ys)[i]? = some x) : ∃ y z, xs[i]? = some y ∧ ys[i]? = some z ∧ x = .tup [y, z] := by
  rw [List.getElem?_zipWith] at hx
  cases e1 : xs[i]? with
  | none => rw [e1] at hx; simp at hx
  | some y =>
    cases e2 : ys[i]? with
    | none => rw [e1, e2] at hx; simp at hx
    | some z => rw [e1, e2] at hx; simp at hx; exact ⟨y, z, rfl, rfl, hx.symm⟩
theorem serves_zip {st1 st2 : Sto → Prop} (sq : StL K a xs st1 m H) (sq2 : StL K b ys st2 m H) : Serves K (Itz K a b) (List.zipWith (fun x y => D.tup [x, y]) xs ys) (fun h => st1 h ∧ st2 h) m H := by
  refine ⟨fun m1 H1 h1 s1 R1 st i x hx => ?_, fun m1 H1 h1 s1 R1 st i hi => ?_⟩
  · obtain ⟨ws, q, r⟩ := sq m1 H1 h1 s1 R1 st.1
    obtain ⟨ws2, q2, r2⟩ := sq2 m1 H1 h1 s1 R1 st.2
    obtain ⟨y, z, e1, e2, rfl⟩ := zip_get hx
    obtain ⟨v, ev, rv⟩ := r.get e1
    obtain ⟨u, eu, ru⟩ := r2.get e2
    refine ⟨⟨ws, ws2, v, u, q, q2, ev, eu⟩, fun v' H' ⟨T, x', y', e1, nT, e2, f, f2⟩ => ?_⟩
    subst e1; subst e2
    have e3 := f ws q
    rw [ev] at e3; cases e3
    have e4 := f2 ws2 q2
    rw [eu] at e4; cases e4
    exact ⟨Step.lay nT, R1.lay nT, .tup upd_same (.cons (rv.step R1 (Step.lay nT)) (.cons (ru.step R1 (Step.lay nT)) .nil))⟩
  · obtain ⟨ws, q, r⟩ := sq m1 H1 h1 s1 R1 st.1
    obtain ⟨ws2, q2, r2⟩ := sq2 m1 H1 h1 s1 R1 st.2
    refine ⟨ws, ws2, q, q2, ?_⟩
    rw [← r.length, ← r2.length]
    rw [List.length_zipWith] at hi
    omega
theorem serves_zipT (sq : StT K a xs m H) (sq2 : StT K b ys m H) : Serves K (RZ.ItzT K a b) (List.zipWith (fun x y => D.tup [x, y]) xs ys) (fun _ => True) m H := by
  refine ⟨fun m1 H1 h1 s1 R1 st i x hx => ?_, fun m1 H1 h1 s1 R1 st i hi => ?_⟩
  · obtain ⟨ws, q, r⟩ := sq m1 H1 h1 s1 R1
    obtain ⟨ws2, q2, r2⟩ := sq2 m1 H1 h1 s1 R1
    obtain ⟨y, z, e1, e2, rfl⟩ := zip_get hx
    obtain ⟨v, ev, rv⟩ := r.get e1
    obtain ⟨u, eu, ru⟩ := r2.get e2
    refine ⟨⟨ws, ws2, v, u, q, q2, ev, eu⟩, fun v' H' ⟨T, x', y', e1, nT, e2, f, f2⟩ => ?_⟩
    subst e1; subst e2
    have e3 := f ws q
    rw [ev] at e3; cases e3
    have e4 := f2 ws2 q2
    rw [eu] at e4; cases e4
    exact ⟨Step.lay nT, R1.lay nT, .tup upd_same (.cons (rv.step R1 (Step.lay nT)) (.cons (ru.step R1 (Step.lay nT)) .nil))⟩
  · obtain ⟨ws, q, r⟩ := sq m1 H1 h1 s1 R1
    obtain ⟨ws2, q2, r2⟩ := sq2 m1 H1 h1 s1 R1
    refine ⟨ws, ws2, q, q2, ?_⟩
    rw [← r.length, ← r2.length]
    rw [List.length_zipWith] at hi
    omega
end
theorem PI.or {X : Cx} {tg e : Expr} {t t' : TI} (p : PI X tg e t) (p' : PI X tg e t') : PI X tg e (fun σ H Q => t σ H Q ∨ t' σ H Q) := ⟨fun pins s σ H Q I h => h.elim (p.run pins s σ H Q I) (p'.run pins s σ H Q I)⟩
/-- a list or a tuple, once its value has come -/
theorem pi_any {X : Cx} {tg l : Expr} {tl : TE} (hl : PE X l tl) : PI X tg l (fun σ H R => tl σ H fun x H1 => ∃ a, x = .ref a ∧ (((∃ xs, SqL X.K H1 a xs) ∧ R (Itl X.K a) H1) ∨ ((∃ xs, SqT X.K H1 a xs) ∧ R (Itt X.K a) H1))) := by
  refine ⟨fun pins s σ H R I h => ?_⟩
  refine thn (hl.run pins s σ H _ I h) fun v s1 ⟨x, H1, I1, r1, q1⟩ => ?_
  obtain ⟨a, e, q⟩ := q1
  subst e
  cases r1
  rcases q with ⟨⟨xs, hq⟩, q⟩ | ⟨⟨xs, hq⟩, q⟩
  · obtain ⟨its, rv, p, hz⟩ := I1.list hq
    refine wpAny_pyIter_list p.isList ?_
    refine ⟨s1.heap.objs.size, [s1.heap.objs.size], _, _, H1, rfl, I1.kept (t' := s1.toks) fun b o e => Heap.get?_push_of_some _ e, turn_list a _, ⟨_, Heap.get?_push_size _ rfl, rfl, rfl⟩, fun b hb => ?_, q⟩
    have e : b = s1.heap.objs.size := by simpa using hb
    subst e
    exact I1.fpOk (Nat.le_refl _) (I1.hok.fresh (Nat.le_refl _))
  · obtain ⟨its, rv, p, hz⟩ := I1.tuple hq
    refine wpAny_pyIter_tuple (show s1.heap.IsTuple a its.toArray from p) ?_
    refine ⟨s1.heap.objs.size, [s1.heap.objs.size], _, _, H1, rfl, I1.kept (t' := s1.toks) fun b o e => Heap.get?_push_of_some _ e, turn_tuple a _, ⟨_, Heap.get?_push_size _ rfl, rfl, rfl⟩, fun b hb => ?_, q⟩
    have e : b = s1.heap.objs.size := by simpa using hb
    subst e
    exact I1.fpOk (Nat.le_refl _) (I1.hok.fresh (Nat.le_refl _))
section
variable {X : Cx} {tg : Expr}
theorem i3_seq {l : Expr} {t : E3} (hl : PE3 X l t) : PI3 X tg l (iSeq t) := by
  refine ⟨PI.weak (pi_any hl.pe) fun σ H R ⟨m, h, ρ, Rp, S, q⟩ => ?_, fun ρ h Q Q' w q => hl.mono _ _ _ _ (fun d h1 q1 => ?_) q⟩
  · refine LE.bind hl.mono Rp S q fun m1 H1 v x h1 s1 R1 rx S1 q1 => ?_
    cases rx with
    | tup sq r => exact ⟨_, rfl, .inr ⟨⟨_, TH sq⟩, q1 m1 H1 _ s1 R1 (serves_tup (.of R1 (TH sq) r))⟩⟩
    | fl sq r => exact ⟨_, rfl, .inl ⟨⟨_, sq.sq⟩, q1 m1 H1 _ s1 R1 (serves_list (.fl R1 sq r))⟩⟩
    | @ref n a e =>
      simp only at q1
      split at q1
      next xs e2 =>
        obtain ⟨ws, q, r⟩ := R1.at_ n a _ e e2
        exact ⟨_, rfl, .inl ⟨⟨ws, .inl (.inl q)⟩, q1 m1 H1 _ s1 R1 (serves_list (.ref e))⟩⟩
      next => exact q1.elim
    | _ => exact q1.elim
  · cases d with
    | tup xs => exact w _ _ _ q1
    | fl xs => exact w _ _ _ q1
    | ref n =>
      simp only at q1 ⊢
      split at q1
      · exact w _ _ _ q1
      · exact q1.elim
    | _ => exact q1
theorem i3_new {l : Expr} {t : A3} (hl : PX3 X l t) : PI3 X tg l (iNew t) := by
  refine ⟨PI.weak (pi_list hl.pe) fun σ H R ⟨m, h, ρ, Rp, S, q⟩ => ?_, fun ρ h Q Q' w q => hl.mono _ _ _ _ (fun d h1 q1 => w _ _ _ q1) q⟩
  refine LX.bind hl.mono Rp S q fun m1 H1 a vs xs h1 s1 R1 ea na hm rx S1 q1 => ?_
  exact ⟨a, rfl, ⟨vs, .inl (.inl ea)⟩, q1 m1 H1 _ s1 R1 (serves_list (.new R1 ea hm rx))⟩
theorem i3_range1 {a : Expr} {ta : A3} {p pos : Pos} (hg : Gl X "range") (hm : X.mg "range" = none) (ha : PA3 X [a] ta) (hs : starEach [a] X.env = [(false, eval a X.env)] := by rfl) : PI3 X tg (.Call (.Name "range" p) [a] [] pos) (iRng ta) := by
  refine ⟨PI.weak (pi_range1 hg hm ha.pe hs) fun σ H R ⟨m, h, ρ, Rp, S, q⟩ => ?_, fun ρ h Q Q' w q => ha.mono _ _ _ _ (fun d h1 q1 => ?_) q⟩
  · refine LA.bind ha.mono Rp S (ha.len _ _ _ q) fun m1 H1 v x h1 s1 R1 rx S1 q1 => ?_
    obtain ⟨hl, q1⟩ := q1
    match x, rx, q1, hl with
    | [.int j], .cons (.int _) .nil, q1, _ =>
      refine ⟨j, rfl, q1.1.1, q1.1.2, q1.2 m1 H1 _ s1 R1 ?_⟩
      have := serves_range (K := X.K) (m := m1) (H := H1) 0 j.toNat
      simpa using this
  · match d, q1 with
    | [.int j], q1 => exact ⟨q1.1, w _ _ _ q1.2⟩
    | [.int i, .int j], q1 => exact ⟨q1.1, w _ _ _ q1.2⟩
theorem i3_range2 {a b : Expr} {ta : A3} {p pos : Pos} (hg : Gl X "range") (hm : X.mg "range" = none) (ha : PA3 X [a, b] ta) (hs : starEach [a, b] X.env = [(false, eval a X.env), (false, eval b X.env)] := by rfl) (hs2 : starEach [b] X.env = [(false, eval b X.env)] := by rfl) : PI3 X tg (.Call (.Name "range" p) [a, b] [] pos) (iRng ta) := by
  refine ⟨PI.weak (pi_range2 hg hm ha.pe hs hs2) fun σ H R ⟨m, h, ρ, Rp, S, q⟩ => ?_, fun ρ h Q Q' w q => ha.mono _ _ _ _ (fun d h1 q1 => ?_) q⟩
  · refine LA.bind ha.mono Rp S (ha.len _ _ _ q) fun m1 H1 v x h1 s1 R1 rx S1 q1 => ?_
    obtain ⟨hl, q1⟩ := q1
    match x, rx, q1, hl with
    | [.int i, .int j], .cons (.int _) (.cons (.int _) .nil), q1, _ => exact ⟨i, j, rfl, q1.1, q1.2 m1 H1 _ s1 R1 (serves_range i _)⟩
  · match d, q1 with
    | [.int j], q1 => exact ⟨q1.1, w _ _ _ q1.2⟩
    | [.int i, .int j], q1 => exact ⟨q1.1, w _ _ _ q1.2⟩
end
/-- a thing's items, and what keeps them -/
def seqOf (d : D) (h : Sto) (Q : List D → (Sto → Prop) → Prop) : Prop := match d with
  | .fl xs => Q xs fun _ => True
  | .ref n => match h[n]? with
    | some (.lst xs) => Q xs fun h' => h'[n]? = some (.lst xs)
    | _ => False
  | _ => False
theorem seqOf_mono {d : D} {h : Sto} {Q Q' : List D → (Sto → Prop) → Prop} (w : ∀ xs st, Q xs st → Q' xs st) (q : seqOf d h Q) : seqOf d h Q' := by
  unfold seqOf at q ⊢
  cases d with
  | fl xs => exact w _ _ q
  | ref n =>
    simp only at q ⊢
    split at q
    · exact w _ _ q
    · exact q.elim
  | _ => exact q
theorem seqOf_lift {K : PySem.W.Frag} {m : List Addr} {H : Hp} {h : Sto} {d : D} {v : V} {Q : List D → (Sto → Prop) → Prop} (R : Rep K m h H) (r : RelD K m H d v) (q : seqOf d h Q) : ∃ a vs xs st, v = .ref a ∧ SqL K H a vs ∧ RelDs K m H xs vs ∧ StL K a xs st m H ∧ Q xs st := by
  cases r with
  | fl sq r => exact ⟨_, _, _, _, rfl, sq.sq, r, .fl R sq r, q⟩
  | @ref n a e =>
    unfold seqOf at q
    simp only at q
    split at q
    next xs e2 =>
      obtain ⟨ws, q', r⟩ := R.at_ n a _ e e2
      exact ⟨_, ws, xs, _, rfl, .inl (.inl q'), r, .ref e, q⟩
    next => exact q.elim
  | _ => exact q.elim
def iZip3 (ta : A3) : I3 := fun ρ h Q => ta ρ h fun vs h1 => match vs with
  | [.tup xs, .tup ys] => Q (List.zipWith (fun x y => D.tup [x, y]) xs ys) (fun _ => True) h1
  | [x, y] => seqOf x h1 fun xs s1 => seqOf y h1 fun ys s2 => Q (List.zipWith (fun x y => D.tup [x, y]) xs ys) (fun h => s1 h ∧ s2 h) h1
  | _ => False
def iEnum3 (ta : A3) : I3 := fun ρ h Q => ta ρ h fun vs h1 => match vs with
  | [x] => seqOf x h1 fun xs st => Q (xs.mapIdx fun i x => D.tup [.int i, x]) st h1
  | _ => False
def iRev3 (ta : A3) : I3 := fun ρ h Q => ta ρ h fun vs h1 => match vs with
  | [x] => seqOf x h1 fun xs st => Q xs.reverse st h1
  | _ => False
section
variable {X : Cx} {tg : Expr}
theorem i3_rev {e : Expr} {ta : A3} {p pos : Pos} (hg : Gl X "reversed") (hm : X.mg "reversed" = none) (ha : PA3 X [e] ta) (hs : starEach [e] X.env = [(false, eval e X.env)] := by rfl) : PI3 X tg (.Call (.Name "reversed" p) [e] [] pos) (iRev3 ta) := by
  refine ⟨PI.weak (pi_reversed hg hm ha.pe hs) fun σ H R ⟨m, h, ρ, Rp, S, q⟩ => ?_, fun ρ h Q Q' w q => ha.mono _ _ _ _ (fun d h1 q1 => ?_) q⟩
  · refine LA.bind ha.mono Rp S q fun m1 H1 v x h1 s1 R1 rx S1 q1 => ?_
    match x, rx, q1 with
    | [x], .cons r .nil, q1 =>
      obtain ⟨a, vs, xs, st, rfl, sq, rs, sl, q2⟩ := seqOf_lift R1 r q1
      exact ⟨a, vs, rfl, sq, q2 m1 H1 _ s1 R1 (serves_rev rs.length.symm sl)⟩
  · match d, q1 with
    | [x], q1 => exact seqOf_mono (fun xs st q => w _ _ _ q) q1
theorem i3_enum {e : Expr} {ta : A3} {p pos tpos : Pos} {elts : List Expr} {kk : Nat} (hg : Gl X "enumerate") (hm : X.mg "enumerate" = none) (ha : PA3 X [e] ta) (hs : starEach [e] X.env = [(false, eval e X.env)] := by rfl) : PI3 X (.Tuple elts kk tpos) (.Call (.Name "enumerate" p) [e] [] pos) (iEnum3 ta) := by
  refine ⟨PI.weak (pi_enum hg hm ha.pe hs) fun σ H R ⟨m, h, ρ, Rp, S, q⟩ => ?_, fun ρ h Q Q' w q => ha.mono _ _ _ _ (fun d h1 q1 => ?_) q⟩
  · refine LA.bind ha.mono Rp S q fun m1 H1 v x h1 s1 R1 rx S1 q1 => ?_
    match x, rx, q1 with
    | [x], .cons r .nil, q1 =>
      obtain ⟨a, vs, xs, st, rfl, sq, rs, sl, q2⟩ := seqOf_lift R1 r q1
      exact ⟨a, vs, rfl, sq, q2 m1 H1 _ s1 R1 (serves_enum sl)⟩
  · match d, q1 with
    | [x], q1 => exact seqOf_mono (fun xs st q => w _ _ _ q) q1
theorem i3_zip {e e2 : Expr} {ta : A3} {p pos tpos : Pos} {elts : List Expr} {kk : Nat} (hg : Gl X "zip") (hm : X.mg "zip" = none) (ha : PA3 X [e, e2] ta)
    (hs : starEach [e, e2] X.env = (false, eval e X.env) :: starEach [e2] X.env := by rfl) (hpl : (backTo pos (starEach [e2] X.env)).any (·.1) = false := by rfl) : PI3 X (.Tuple elts kk tpos) (.Call (.Name "zip" p) [e, e2] [] pos) (iZip3 ta) := by
  refine ⟨PI.weak (RZ.pi_zipA hg hm ha.pe hs hpl) fun σ H R ⟨m, h, ρ, Rp, S, q⟩ => ?_, fun ρ h Q Q' w q => ha.mono _ _ _ _ (fun d h1 q1 => ?_) q⟩
  · refine LA.bind ha.mono Rp S (ha.len _ _ _ q) fun m1 H1 v x h1 s1 R1 rx S1 q1 => ?_
    obtain ⟨hl, q1⟩ := q1
    match x, rx, hl with
    | [x, y], .cons r (.cons r2 .nil), _ =>
      by_cases hz : ∃ xs ys, x = .tup xs ∧ y = .tup ys
      · obtain ⟨xs, ys, rfl, rfl⟩ := hz
        cases r with
        | tup sq r =>
          cases r2 with
          | tup sq2 r2 => exact ⟨_, _, _, _, rfl, .inr ⟨TH sq, TH sq2, q1 m1 H1 _ s1 R1 (serves_zipT (.of R1 (TH sq) r) (.of R1 (TH sq2) r2))⟩⟩
      · have q2 : seqOf x h1 fun xs s1 => seqOf y h1 fun ys s2 => UpI X.K m H R (List.zipWith (fun x y => D.tup [x, y]) xs ys) (fun h => s1 h ∧ s2 h) h1 := by
          split at q1
          next e => simp only [List.cons.injEq] at e; exact absurd ⟨_, _, e.1, e.2.1⟩ hz
          next e => simp only [List.cons.injEq, and_true] at e; rw [e.1, e.2]; exact q1
          next e => exact absurd rfl (e x y)
        obtain ⟨a, vs, xs, st, rfl, sq, rs, sl, q3⟩ := seqOf_lift R1 r q2
        obtain ⟨b, ws, ys, st2, rfl, sq2, rs2, sl2, q4⟩ := seqOf_lift R1 r2 q3
        exact ⟨a, b, vs, ws, rfl, .inl ⟨sq, sq2, q4 m1 H1 _ s1 R1 (serves_zip sl sl2)⟩⟩
  · split at q1
    · exact w _ _ _ q1
    next x y hz => exact seqOf_mono (fun xs st q => seqOf_mono (fun ys st2 q => w _ _ _ q) q) q1
    · exact q1.elim
end
end F3
/-! FD: comprehensions, calls, defs. -/
namespace F3
open PySem PySem.Spec PyProof.Rows L2

/-! ### comprehensions -/
def wipe3 (ρ : S3) : List Nat → S3
  | [] => ρ
  | v :: vs => (wipe3 ρ vs).set v none
theorem RelS.wipes {K : PySem.W.Frag} {m : List Addr} {H : Hp} {ρ : S3} {σ : L2.St} (S : RelS K m H ρ σ) : ∀ vs : List Nat, RelS K m H (wipe3 ρ vs) (L2.wipe σ vs)
  | [] => S
  | v :: vs => (RelS.wipes S vs).wipe v none
theorem wipe_set {σ : L2.St} {x : Option V} {i : Nat} : ∀ {vs : List Nat}, i ∈ vs → L2.wipe (σ.set i x) vs = L2.wipe σ vs
  | [], h => by cases h
  | v :: vs, h => by
    show (L2.wipe (σ.set i x) vs).set v none = (L2.wipe σ vs).set v none
    by_cases hi : i ∈ vs
    · rw [wipe_set hi]
    · have hv : v = i := by
        rcases List.mem_cons.mp h with e | e
        · exact e.symm
        · exact absurd e hi
      subst hv
      have : ∀ ws : List Nat, v ∉ ws → L2.wipe (σ.set v x) ws = (L2.wipe σ ws).set v x := by
        intro ws
        induction ws with
        | nil => intro _; rfl
        | cons w ws ih =>
          intro hw
          simp only [List.mem_cons, not_or] at hw
          show (L2.wipe (σ.set v x) ws).set w none = ((L2.wipe σ ws).set w none).set v x
          rw [ih hw.2, List.set_comm _ _ hw.1]
      rw [this vs hi, List.set_set]
theorem wipe_wipe {σ : L2.St} : ∀ vs : List Nat, L2.wipe (L2.wipe σ vs) vs = L2.wipe σ vs := by
  have aux : ∀ (ws vs : List Nat), (∀ i ∈ ws, i ∈ vs) → L2.wipe (L2.wipe σ ws) vs = L2.wipe σ vs := by
    intro ws vs
    induction ws with
    | nil => intro _; rfl
    | cons w ws ih =>
      intro h
      show L2.wipe ((L2.wipe σ ws).set w none) vs = _
      rw [wipe_set (h w List.mem_cons_self)]
      exact ih fun i hi => h i (List.mem_cons_of_mem _ hi)
  exact fun vs => aux vs vs fun _ h => h
/-- a target that stores at the comprehension's own places alone -/
def CompG (K : PySem.W.Frag) (vs : List Nat) (gV : TG) (g : G3) : Prop := ∀ m h H ρ σ d v (Q3 : S3 → Sto → Prop), Rep K m h H → RelS K m H ρ σ → RelD K m H d v → g d ρ h Q3 →
  ∀ Q : L2.St → Hp → Prop, (∀ σ2 ρ2, L2.wipe σ2 vs = L2.wipe σ vs → RelS K m H ρ2 σ2 → Q3 ρ2 h → Q σ2 H) → gV v σ H Q
def CompGs (K : PySem.W.Frag) (vs : List Nat) (gV : TGs) (g : Gs3) : Prop := ∀ m h H ρ σ d v (Q3 : S3 → Sto → Prop), Rep K m h H → RelS K m H ρ σ → RelDs K m H d v → g d ρ h Q3 →
  ∀ Q : L2.St → Hp → Prop, (∀ σ2 ρ2, L2.wipe σ2 vs = L2.wipe σ vs → RelS K m H ρ2 σ2 → Q3 ρ2 h → Q σ2 H) → gV v σ H Q
theorem cg_n {K : PySem.W.Frag} {vs : List Nat} {i : Nat} (hi : i ∈ vs := by decide) : CompG K vs (gName i) (gN i) := fun m h H ρ σ d v Q3 R S r q Q w => w _ _ (wipe_set hi) (S.set r i) q
theorem cg_nil {K : PySem.W.Frag} {vs : List Nat} : CompGs K vs gNil gNil3 := fun m h H ρ σ d v Q3 R S r q Q w => by
  cases r with
  | nil => exact ⟨rfl, w _ _ rfl S q⟩
  | cons a b => exact q.elim
theorem cg_cons {K : PySem.W.Frag} {vs : List Nat} {gV : TG} {g : G3} {gsV : TGs} {gs : Gs3} (h1 : CompG K vs gV g) (h2 : CompGs K vs gsV gs) : CompGs K vs (gCons gV gsV) (gCons3 g gs) := fun m h H ρ σ d v Q3 R S r q Q w => by
  cases r with
  | nil => exact q.elim
  | cons a b =>
    refine ⟨_, _, rfl, h1 m h H ρ σ _ _ _ R S a q _ fun σ2 ρ2 e S2 q2 => ?_⟩
    exact h2 m h H ρ2 σ2 _ _ Q3 R S2 b q2 _ fun σ3 ρ3 e3 S3 q3 => w σ3 ρ3 (e3.trans e) S3 q3
theorem cg_tup {K : PySem.W.Frag} {vs : List Nat} {n : Nat} {gsV : TGs} {gs : Gs3} (h2 : CompGs K vs gsV gs) : CompG K vs (gTup K n gsV) (gTup3 n gs) := fun m h H ρ σ d v Q3 R S r q Q w => by
  cases r with
  | tup sq r => exact ⟨_, _, rfl, TH sq, by rw [← r.length]; exact q.1, h2 m h H ρ σ _ _ Q3 R S r q.2 Q w⟩
  | _ => exact q.elim
def lcI (g : G3) (tt : B3) (te : E3) (st : Sto → Prop) (ρ : S3) : List D → List D → Sto → (List D → Sto → Prop) → Prop
  | [], acc, h, Q => st h ∧ Q acc h
  | x :: r, acc, h, Q => st h ∧ g x ρ h fun ρ2 h2 => tt ρ2 h2 fun b h3 => if b = true then te ρ2 h3 fun y h4 => lcI g tt te st ρ r (acc ++ [y]) h4 Q else lcI g tt te st ρ r acc h3 Q
def tLc3 (it : I3) (g : G3) (tt : B3) (te : E3) (vs : List Nat) : A3 := fun ρ h Q => it ρ h fun items st h1 => items.length ≤ 16777216 ∧ lcI g tt te st (wipe3 ρ vs) items [] h1 Q
def bYes : B3 := fun _ h Q => Q true h
/-- the ifs of a comprehension -/
structure PTs3 (X : Cx) (ifs : List Expr) (t : B3) : Prop where
  pe : PTs X ifs (LB X.K t)
  mono : MonoB t
theorem lcI_mono {g : G3} {tt : B3} {te : E3} (mg : ∀ d ρ h (Q Q' : S3 → Sto → Prop), (∀ ρ h, Q ρ h → Q' ρ h) → g d ρ h Q → g d ρ h Q') (mt : MonoB tt) (me : MonoE te) {st : Sto → Prop} {ρ : S3} {Q Q' : List D → Sto → Prop} (w : ∀ d h, Q d h → Q' d h) :
    ∀ xs acc h, lcI g tt te st ρ xs acc h Q → lcI g tt te st ρ xs acc h Q'
  | [], _, _, q => ⟨q.1, w _ _ q.2⟩
  | x :: r, acc, h, q => ⟨q.1, mg _ _ _ _ _ (fun ρ2 h2 q2 => mt _ _ _ _ (fun b h3 q3 => by
      cases b with
      | true => rw [if_pos rfl] at q3 ⊢; exact me _ _ _ _ (fun y h4 q4 => lcI_mono mg mt me w r _ _ q4) q3
      | false => rw [if_neg Bool.false_ne_true] at q3 ⊢; exact lcI_mono mg mt me w r _ _ q3) q2) q.2⟩
section
variable {K : PySem.W.Frag} {m m' : List Addr} {H H' : Hp} {h h' : Sto}
theorem Step.none (s : Step m H m' H') (R : Rep K m' h' H') {p : Addr} (hp : H' p = none) : H p = none := by
  cases z : H p with
  | none => rfl
  | some o =>
    by_cases hm : p ∈ m
    · obtain ⟨r, hr⟩ := s.pre
      exact absurd (show p ∈ m' by rw [hr]; exact List.mem_append_left _ hm) (R.nonone hp)
    · rw [s.keep p o hm z] at hp; cases hp
/-- a list that is no cell changes -/
theorem RelDs.putX (R : Rep K m h H) {p : Addr} {ys zs : List V} (e : H p = some (.lst ys)) {ds : List D} {vs : List V} (r : RelDs K m H ds vs) : RelDs K m (upd H p (.lst zs)) ds vs :=
  r.mono (fun _ _ e => e) (fun a xs q => by
    rw [upd_ne (ne_of q e (by simp))]; exact q) fun a xs q => by
    rcases q with ⟨o, q⟩ | q
    · exact .inl ⟨o, by rw [upd_ne (ne_of q e (by simp))]; exact q⟩
    · exact .inr q
theorem Rep.putX (R : Rep K m h H) {p : Addr} {ys zs : List V} (e : H p = some (.lst ys)) (hp : p ∉ m) : Rep K m h (upd H p (.lst zs)) := by
  refine ⟨R.len, R.nd, fun n a c h1 h2 => ?_⟩
  have ok := R.at_ n a c h1 h2
  have ne : a ≠ p := fun z => hp (by rw [← z]; exact List.mem_of_getElem? h1)
  cases c with
  | lst xs => obtain ⟨vs, q, r⟩ := ok; exact ⟨vs, by rw [upd_ne ne]; exact q, r.putX R e⟩
  | dK xs => obtain ⟨vs, q, k, r⟩ := ok; exact ⟨vs, by rw [upd_ne ne]; exact q, k, r.putX R e⟩
  | dT xs => obtain ⟨vs, q, k, r⟩ := ok; exact ⟨vs, by rw [upd_ne ne]; exact q, k, r.putX R e⟩
  | zK o vs xs => obtain ⟨q, k, r⟩ := ok; exact ⟨by rw [upd_ne ne]; exact q, k, r.putX R e⟩
  | zT o vs xs => obtain ⟨q, k, r⟩ := ok; exact ⟨by rw [upd_ne ne]; exact q, k, r.putX R e⟩
  | ins C xs => obtain ⟨dx, vs, q, k, r⟩ := ok; exact ⟨dx, vs, by rw [upd_ne ne]; exact q, k, r.putX R e⟩
end
section
variable {X : Cx}
theorem lc_lift {it : I3} {g : G3} {gV : TG} {tt : B3} {te : E3} {vs : List Nat} (mi : MonoI it) (mg : ∀ d ρ h (Q Q' : S3 → Sto → Prop), (∀ ρ h, Q ρ h → Q' ρ h) → g d ρ h Q → g d ρ h Q') (mt : MonoB tt) (me : MonoE te) (cg : CompG X.K vs gV g)
    {σ : L2.St} {H : Hp} {Q : VK} (q : LX X.K (tLc3 it g tt te vs) σ H Q) : tLc (LI X.K it) gV (LB X.K tt) (LE X.K te) vs σ H Q := by
  obtain ⟨m0, h0, ρ0, R0, S0, q⟩ := q
  refine LI.bind mi R0 S0 q fun m H1 J items st h s0 R sv S q => ?_
  obtain ⟨hsz, q⟩ := q
  intro P hP
  have na : H P = none := s0.none R hP
  refine ⟨fun i n H' => ∃ m' h' acc ws, Step m H1 m' H' ∧ Rep X.K m' h' H' ∧ P ∉ m' ∧ H' P = some (.lst ws) ∧ RelDs X.K m' H' acc ws ∧ i ≤ items.length ∧ n = items.length - i ∧ acc.length ≤ i ∧ lcI g tt te st (wipe3 ρ0 vs) (items.drop i) acc h' (UpX X.K m0 H Q),
    ⟨items.length, m, h, [], [], Step.lay hP, R.lay hP, R.nonone hP, upd_same, .nil, Nat.zero_le _, rfl, Nat.le_refl _, q⟩, ?_⟩
  rintro i n H2 ⟨m2, h2, acc, ws, s2, R2, nP, eP, racc, hi, hn, hacc, q2⟩
  by_cases hlt : i < items.length
  · have ed : items.drop i = items[i] :: items.drop (i + 1) := List.drop_eq_getElem_cons hlt
    rw [ed] at q2
    obtain ⟨hst, q2⟩ := q2
    obtain ⟨jg, jy⟩ := sv.go m2 H2 h2 s2 R2 hst i items[i] (List.getElem?_eq_getElem hlt)
    refine .inr ⟨jg, fun H' => ∃ m' h' acc ws, Step m H1 m' H' ∧ Rep X.K m' h' H' ∧ P ∉ m' ∧ H' P = some (.lst ws) ∧ RelDs X.K m' H' acc ws ∧ acc.length ≤ i + 1 ∧ lcI g tt te st (wipe3 ρ0 vs) (items.drop (i + 1)) acc h' (UpX X.K m0 H Q),
      fun H' ⟨m', h', acc, ws, z1, z2, z3, z4, z5, z6, z7⟩ => ⟨items.length - (i + 1), by omega, m', h', acc, ws, z1, z2, z3, z4, z5, hlt, rfl, z6, z7⟩, fun v H3 hy => ?_⟩
    obtain ⟨s3, R3, rx⟩ := jy v H3 hy
    have S3 : RelS X.K m2 H3 (wipe3 ρ0 vs) (L2.wipe σ vs) := ((S.step R s2).step R2 s3).wipes vs
    refine cg m2 h2 H3 _ _ _ v _ R3 S3 rx q2 _ fun σ4 ρ4 e4 S4 q4 => ⟨e4.trans (wipe_wipe vs), ?_⟩
    have eP3 : H3 P = some (.lst ws) := s3.keep _ _ nP eP
    refine LB.bind mt R3 S4 q4 fun m5 H5 b h5 s5 R5 S5 q5 => ?_
    have nP5 : P ∉ m5 := fun z => by
      have := s5.new P z nP
      rw [eP3] at this; cases this
    have eP5 : H5 P = some (.lst ws) := s5.keep _ _ nP eP3
    cases b with
    | false =>
      rw [if_neg Bool.false_ne_true] at q5 ⊢
      exact ⟨m5, h5, acc, ws, s2.trans (s3.trans s5), R5, nP5, eP5, (racc.step R2 s3).step R3 s5, by omega, q5⟩
    | true =>
      rw [if_pos rfl] at q5 ⊢
      refine LE.bind me R5 S5 q5 fun m6 H6 y d h6 s6 R6 rd S6 q6 => ?_
      have nP6 : P ∉ m6 := fun z => by
        have := s6.new P z nP5
        rw [eP5] at this; cases this
      have eP6 : H6 P = some (.lst ws) := s6.keep _ _ nP5 eP5
      have racc6 : RelDs X.K m6 H6 acc ws := ((racc.step R2 s3).step R3 s5).step R5 s6
      have hz : ws.length < sizeLine := by
        rw [← racc.length, sizeLine_eq]
        omega
      refine ⟨ws, eP6, hz, m6, h6, acc ++ [d], ws ++ [y], ?_, R6.putX eP6 nP6, nP6, upd_same, (racc6.append (.cons rd .nil)).putX R6 eP6, by simp; omega, q6⟩
      have s26 := s2.trans (s3.trans (s5.trans s6))
      refine ⟨s26.pre, fun c o hc e => ?_, s26.new⟩
      rw [upd_ne (ne_of_none e hP)]
      exact s26.keep c o hc e
  · rw [List.drop_eq_nil_of_le (by omega)] at q2
    refine .inl ⟨sv.stop m2 H2 h2 s2 R2 q2.1 i (by omega), ?_⟩
    exact q2.2 m2 H2 P ws (s0.trans s2) R2 eP na nP racc
theorem x3_lc {elt tg iter : Expr} {ifs : List Expr} {scope : Scope} {own : List (Str × Nat)} {pos : Pos} {it : I3} {g : G3} {gV : TG} {tt : B3} {te : E3} (hc : X.calm = true) (hN : X.N.Nodup) (hi : PI3 X tg iter it) (ok : BlkOk X.N X.env.scope scope own) (cg : CompG X.K (own.map (·.2)) gV g)
    (mg : ∀ d ρ h (Q Q' : S3 → Sto → Prop), (∀ ρ h, Q ρ h → Q' ρ h) → g d ρ h Q → g d ρ h Q')
    (hg : ∀ (s : Shared) (H : Hp) (C : Addr) (cl : List (Str × Addr)) (fp : List Addr), PG (X.blk s H scope (compEnvC scope cl C X.env) fp) tg gV)
    (ht : ∀ (s : Shared) (H : Hp) (C : Addr) (cl : List (Str × Addr)) (fp : List Addr), PTs3 (X.blk s H scope (compEnvC scope cl C X.env) fp) ifs tt)
    (he : ∀ (s : Shared) (H : Hp) (C : Addr) (cl : List (Str × Addr)) (fp : List Addr), PE3 (X.blk s H scope (compEnvC scope cl C X.env) fp) elt te) (hs : ∀ x, foldedSetIterable iter X.env x = pure x := by intro _; rfl) :
    PX3 X (.ListComp elt [⟨tg, iter, ifs, 0⟩] scope pos) (tLc3 it g tt te (own.map (·.2))) := by
  have me : MonoE te := (he X.s_0 X.H_0 0 [] []).mono
  have mt : MonoB tt := (ht X.s_0 X.H_0 0 [] []).mono
  refine ⟨PE.weak (pe_lc (tt := LB X.K tt) hc hN hi.pe ok hg (fun s H C cl fp => (ht s H C cl fp).pe) (fun s H C cl fp => (he s H C cl fp).pe) hs) fun σ H Q q => lc_lift hi.mono mg mt me cg q, fun ρ h Q Q' w q => hi.mono _ _ _ _ (fun xs st h1 q1 => ⟨q1.1, lcI_mono mg mt me w _ _ _ q1.2⟩) q⟩
end
end F3
/-! FE: y = [..], calls, defs, the store made smaller behind a def, the law's end. -/
namespace F3
open PySem PySem.Spec PyProof.Rows L2

section
variable {X : Cx}
theorem MonoB.yes : MonoB bYes := fun ρ h Q Q' w q => w _ _ q
theorem pts3_nil : PTs3 X [] bYes := ⟨⟨fun pins s σ H Q I h => pts_nil.run pins s σ H Q I (by
  obtain ⟨m, st, ρ, R, S, q⟩ := h
  exact q m H .refl R)⟩, MonoB.yes⟩
theorem pts3_one {c : Expr} {t : B3} (h : PB3 X c t) : PTs3 X [c] t := ⟨pts_one h.pe, h.mono⟩
theorem c3_setLc (i : Nat) {y : Str} {py : Pos} {elt tg iter : Expr} {ifs : List Expr} {scope : Scope} {own : List (Str × Nat)} {pos spos : Pos} {it : I3} {g : G3} {gV : TG} {tt : B3} {te : E3} (hc : X.calm = true) (hN : X.N.Nodup) (hi : PI3 X tg iter it) (ok : BlkOk X.N X.env.scope scope own) (cg : CompG X.K (own.map (·.2)) gV g)
    (mg : ∀ d ρ h (Q Q' : S3 → Sto → Prop), (∀ ρ h, Q ρ h → Q' ρ h) → g d ρ h Q → g d ρ h Q')
    (hg : ∀ (s : Shared) (H : Hp) (C : Addr) (cl : List (Str × Addr)) (fp : List Addr), PG (X.blk s H scope (compEnvC scope cl C X.env) fp) tg gV)
    (ht : ∀ (s : Shared) (H : Hp) (C : Addr) (cl : List (Str × Addr)) (fp : List Addr), PTs3 (X.blk s H scope (compEnvC scope cl C X.env) fp) ifs tt)
    (he : ∀ (s : Shared) (H : Hp) (C : Addr) (cl : List (Str × Addr)) (fp : List Addr), PE3 (X.blk s H scope (compEnvC scope cl C X.env) fp) elt te) (hy : X.N[i]? = some y := by rfl) (hyl : X.env.scope.names.lookup y = some .local := by rfl)
    (hsw : swapsWith (.ListComp elt [⟨tg, iter, ifs, 0⟩] scope pos) (some (.Name y py)) spos.line X.env = pure true := by exact sw_true rfl rfl rfl (by decide +kernel)) (hs : ∀ x, foldedSetIterable iter X.env x = pure x := by intro _; rfl) :
    PC3 X (.Assign [.Name y py] (.ListComp elt [⟨tg, iter, ifs, 0⟩] scope pos) spos) (cAsg (tNew (tLc3 it g tt te (own.map (·.2)))) (gN i)) := by
  have me : MonoE te := (he X.s_0 X.H_0 0 [] []).mono
  have mt : MonoB tt := (ht X.s_0 X.H_0 0 [] []).mono
  have ma : MonoA (tLc3 it g tt te (own.map (·.2))) := fun ρ h Q Q' w q => hi.mono _ _ _ _ (fun xs st h1 q1 => ⟨q1.1, lcI_mono mg mt me w _ _ _ q1.2⟩) q
  refine ⟨PS.weak (ps_setLc (te := LE X.K te) (tt := LB X.K tt) hc hN hy hyl hsw hi.pe ok hg (fun s H C cl fp => (ht s H C cl fp).pe) (fun s H C cl fp => (he s H C cl fp).pe) hs) fun D σ H ⟨m, h, ρ, R, S, q⟩ => ?_, fun D D' ρ h w q => (MonoE.newl ma) _ _ _ _ (fun _ _ q => w.nx _ _ q) q⟩
  refine lc_lift hi.mono mg mt me cg (new_lift ma (LE.bind (MonoE.newl ma) R S q fun m1 H1 v x h1 s1 R1 rx S1 q1 => ?_))
  exact q1 m1 H1 _ s1 R1 (S1.set rx i)
end

/-! ### defs -/
abbrev X3 := Value → Sto → Prop
abbrev Sp3 := List D → Sto → DK → X3 → Prop
def UpE (K : PySem.W.Frag) (m : List Addr) (H : Hp) (E : XK) : X3 := fun c h' => ∀ m' H', Step m H m' H' → Rep K m' h' H' → E c none H'
def LSp (K : PySem.W.Frag) (sp : Sp3) : Sp := fun vs H Q E => ∃ m h ds, Rep K m h H ∧ RelDs K m H ds vs ∧ sp ds h (Up K m H Q) (UpE K m H E)
def MonoS (sp : Sp3) : Prop := ∀ ds h (Q Q' : DK) (E E' : X3), (∀ d h', Q d h' → Q' d h') → (∀ c h', E c h' → E' c h') → sp ds h Q E → sp ds h Q' E'
def start3 (n : Nat) (ds : List D) : S3 := ds.map some ++ List.replicate (n - ds.length) none
def ends3 (Q : DK) : Ends3 := ⟨fun _ h => Q .non h, Q, fun _ _ => False, fun _ _ => False⟩
theorem relS_start {K : PySem.W.Frag} {m : List Addr} {H : Hp} {ds : List D} {vs : List V} {N : List Str} (r : RelDs K m H ds vs) : RelS K m H (start3 N.length ds) (L2.start N vs) := by
  have hl := r.length
  refine ⟨by simp [start3, L2.start, hl], fun i d e => ?_⟩
  unfold start3 at e
  unfold L2.start
  by_cases hi : i < ds.length
  · rw [List.getElem?_append_left (by simpa using hi), List.getElem?_map] at e
    obtain ⟨x, hx, e2⟩ := Option.map_eq_some_iff.mp e
    cases e2
    obtain ⟨v, ev, rv⟩ := r.get hx
    exact ⟨v, by rw [List.getElem?_append_left (by simpa [← hl] using hi), List.getElem?_map, ev]; rfl, rv⟩
  · rw [List.getElem?_append_right (by simpa using hi), List.getElem?_replicate] at e
    split at e <;> cases e
/-! ### closed values, the store made smaller -/
mutual
def ClD (n : Nat) : D → Prop
  | .ref k => k < n
  | .tup xs => ClDs n xs
  | .fl xs => ClDs n xs
  | .non => True
  | .bl _ => True
  | .int _ => True
  | .str _ => True
  | .ty _ => True
  | .adr _ => True
def ClDs (n : Nat) : List D → Prop
  | [] => True
  | x :: xs => ClD n x ∧ ClDs n xs
end
def ClC (n : Nat) : Cell → Prop
  | .lst xs => ClDs n xs
  | .dK kvs => ClDs n (kvs.map (·.2))
  | .dT kvs => ClDs n (kvs.map (·.2))
  | .zK _ _ kvs => ClDs n (kvs.map (·.2))
  | .zT _ _ kvs => ClDs n (kvs.map (·.2))
  | .ins _ fs => ClDs n (fs.map (·.2))
/-- every cell refers to cells of the store alone -/
def ClS (n : Nat) (h : Sto) : Prop := ∀ c ∈ h, ClC n c
section
variable {K : PySem.W.Frag} {m : List Addr} {H : Hp}
mutual
theorem RelD.cl : ∀ {d : D} {v : V}, RelD K m H d v → ClD m.length d
  | _, _, .non => by simp only [ClD]
  | _, _, .bl _ => by simp only [ClD]
  | _, _, .int _ => by simp only [ClD]
  | _, _, .str _ => by simp only [ClD]
  | _, _, .ty _ => by simp only [ClD]
  | _, _, .adr _ => by simp only [ClD]
  | _, _, .ref e => by simp only [ClD]; exact (List.getElem?_eq_some_iff.mp e).1
  | _, _, .tup _ r => by simp only [ClD]; exact RelDs.cl r
  | _, _, .fl _ r => by simp only [ClD]; exact RelDs.cl r
theorem RelDs.cl : ∀ {d : List D} {v : List V}, RelDs K m H d v → ClDs m.length d
  | _, _, .nil => by simp only [ClDs]
  | _, _, .cons r t => by simp only [ClDs]; exact ⟨RelD.cl r, RelDs.cl t⟩
end
theorem Rep.cl {h : Sto} (R : Rep K m h H) : ClS h.length h := fun c hc => by
  obtain ⟨n, hn⟩ := List.mem_iff_getElem?.mp hc
  have hl : n < m.length := by rw [R.len]; exact (List.getElem?_eq_some_iff.mp hn).1
  have ok := R.at_ n _ c (List.getElem?_eq_getElem hl) hn
  rw [← R.len]
  cases c with
  | lst xs => obtain ⟨vs, _, r⟩ := ok; exact r.cl
  | dK xs => obtain ⟨vs, _, _, r⟩ := ok; exact r.cl
  | dT xs => obtain ⟨vs, _, _, r⟩ := ok; exact r.cl
  | zK o vs xs => obtain ⟨_, _, r⟩ := ok; exact r.cl
  | zT o vs xs => obtain ⟨_, _, r⟩ := ok; exact r.cl
  | ins C xs => obtain ⟨dx, vs, _, _, r⟩ := ok; exact r.cl
-- the values under another numbering of the cells: r tells the old number of each
mutual
inductive RenD (r : List Nat) : D → D → Prop
  | non : RenD r .non .non
  | bl (b : Bool) : RenD r (.bl b) (.bl b)
  | int (i : Int) : RenD r (.int i) (.int i)
  | str (x : Str) : RenD r (.str x) (.str x)
  | ty (n : String) : RenD r (.ty n) (.ty n)
  | adr (a : Addr) : RenD r (.adr a) (.adr a)
  | ref {i j : Nat} : r[i]? = some j → RenD r (.ref i) (.ref j)
  | tup {xs ys : List D} : RenDs r xs ys → RenD r (.tup xs) (.tup ys)
  | fl {xs ys : List D} : RenDs r xs ys → RenD r (.fl xs) (.fl ys)
inductive RenDs (r : List Nat) : List D → List D → Prop
  | nil : RenDs r [] []
  | cons {d e : D} {ds es : List D} : RenD r d e → RenDs r ds es → RenDs r (d :: ds) (e :: es)
end
mutual
theorem RenD.rel {r : List Nat} {m2 : List Addr} (hm : ∀ i j : Nat, r[i]? = some j → ∀ a, m[j]? = some a → m2[i]? = some a) : ∀ {d e : D} {v : V}, RenD r d e → RelD K m H e v → RelD K m2 H d v
  | _, _, _, .non, .non => .non
  | _, _, _, .bl _, .bl _ => .bl _
  | _, _, _, .int _, .int _ => .int _
  | _, _, _, .str _, .str _ => .str _
  | _, _, _, .ty _, .ty _ => .ty _
  | _, _, _, .adr _, .adr _ => .adr _
  | _, _, _, .ref e, .ref f => .ref (hm _ _ e _ f)
  | _, _, _, .tup e, .tup s f => .tup s (RenDs.rel hm e f)
  | _, _, _, .fl e, .fl s f => .fl s (RenDs.rel hm e f)
theorem RenDs.rel {r : List Nat} {m2 : List Addr} (hm : ∀ i j : Nat, r[i]? = some j → ∀ a, m[j]? = some a → m2[i]? = some a) : ∀ {d e : List D} {v : List V}, RenDs r d e → RelDs K m H e v → RelDs K m2 H d v
  | _, _, _, .nil, .nil => .nil
  | _, _, _, .cons e t, .cons f u => .cons (RenD.rel hm e f) (RenDs.rel hm t u)
end
mutual
theorem RenD.refl {r : List Nat} {n : Nat} (hr : ∀ i, i < n → r[i]? = some i) : ∀ {d : D}, ClD n d → RenD r d d
  | .non, _ => .non
  | .bl _, _ => .bl _
  | .int _, _ => .int _
  | .str _, _ => .str _
  | .ty _, _ => .ty _
  | .adr _, _ => .adr _
  | .ref k, h => .ref (hr k (by simpa only [ClD] using h))
  | .tup xs, h => .tup (RenDs.refl hr (by simpa only [ClD] using h))
  | .fl xs, h => .fl (RenDs.refl hr (by simpa only [ClD] using h))
theorem RenDs.refl {r : List Nat} {n : Nat} (hr : ∀ i, i < n → r[i]? = some i) : ∀ {d : List D}, ClDs n d → RenDs r d d
  | [], _ => .nil
  | x :: xs, h => by
    simp only [ClDs] at h
    exact .cons (RenD.refl hr h.1) (RenDs.refl hr h.2)
end
def RenC (r : List Nat) : Cell → Cell → Prop
  | .lst xs, .lst ys => RenDs r xs ys
  | .dK xs, .dK ys => xs.map (·.1) = ys.map (·.1) ∧ RenDs r (xs.map (·.2)) (ys.map (·.2))
  | .dT xs, .dT ys => xs.map (·.1) = ys.map (·.1) ∧ RenDs r (xs.map (·.2)) (ys.map (·.2))
  | .zK o vs xs, .zK o' vs' ys => (o = o' ∧ vs = vs') ∧ xs.map (·.1) = ys.map (·.1) ∧ RenDs r (xs.map (·.2)) (ys.map (·.2))
  | .zT o vs xs, .zT o' vs' ys => (o = o' ∧ vs = vs') ∧ xs.map (·.1) = ys.map (·.1) ∧ RenDs r (xs.map (·.2)) (ys.map (·.2))
  | .ins C xs, .ins C' ys => C = C' ∧ xs.map (·.1) = ys.map (·.1) ∧ RenDs r (xs.map (·.2)) (ys.map (·.2))
  | _, _ => False
/-- (d2, h2) is (d, h) with some cells left out and others numbered anew, the first n as they were -/
def Gc (n : Nat) (d : D) (h : Sto) (d2 : D) (h2 : Sto) : Prop := ∃ r : List Nat, r.length = h2.length ∧ r.Nodup ∧ n ≤ r.length ∧ (∀ i, i < n → r[i]? = some i) ∧ (∀ i ∈ r, i < h.length) ∧ RenD r d2 d ∧
  ∀ (i j : Nat) (c2 c : Cell), r[i]? = some j → h2[i]? = some c2 → h[j]? = some c → RenC r c2 c
theorem Gc.lift {n : Nat} {d d2 : D} {h h2 : Sto} {m0 : List Addr} {H0 : Hp} {v : V} (g : Gc n d h d2 h2) (hn : n = m0.length) (s : Step m0 H0 m H) (R : Rep K m h H) (rd : RelD K m H d v) : ∃ m2, Step m0 H0 m2 H ∧ Rep K m2 h2 H ∧ RelD K m2 H d2 v := by
  obtain ⟨r, hl, nd, hnr, hid, hlt, rn, hc⟩ := g
  have hget : ∀ j ∈ r, ∃ a, m[j]? = some a := fun j hj => ⟨_, List.getElem?_eq_getElem (by rw [R.len]; exact hlt j hj)⟩
  -- the picked addresses
  have pick : ∀ q : List Nat, (∀ j ∈ q, ∃ a, m[j]? = some a) → ∃ m2 : List Addr, m2.length = q.length ∧ ∀ i : Nat, m2[i]? = (q[i]?).bind (fun j => m[j]?) := by
    intro q
    induction q with
    | nil => exact fun _ => ⟨[], rfl, fun i => by simp⟩
    | cons j q ih =>
      intro hq
      obtain ⟨a, ha⟩ := hq j List.mem_cons_self
      obtain ⟨m2, h1, h2⟩ := ih fun k hk => hq k (List.mem_cons_of_mem _ hk)
      refine ⟨a :: m2, by simp [h1], fun i => ?_⟩
      cases i with
      | zero => simp [ha]
      | succ i => simpa using h2 i
  obtain ⟨m2, h1, h2'⟩ := pick r hget
  have hm : ∀ i j : Nat, r[i]? = some j → ∀ a, m[j]? = some a → m2[i]? = some a := fun i j e a f => by rw [h2', e]; exact f
  have mem : ∀ a ∈ m2, a ∈ m := fun a ha => by
    obtain ⟨i, hi⟩ := List.mem_iff_getElem?.mp ha
    rw [h2'] at hi
    obtain ⟨j, _, hj⟩ := Option.bind_eq_some_iff.mp hi
    exact List.mem_of_getElem? hj
  obtain ⟨rest, hr⟩ := s.pre
  refine ⟨m2, ⟨⟨m2.drop n, ?_⟩, s.keep, fun a ha hn => s.new a (mem a ha) hn⟩, ⟨by rw [h1, hl], ?_, fun i a c e1 e2 => ?_⟩, rn.rel hm rd⟩
  · have : m2.take n = m0 := by
      apply List.ext_getElem?
      intro i
      by_cases hi : i < n
      · rw [List.getElem?_take_of_lt hi, h2', hid i hi]
        show m[i]? = _
        rw [hr, List.getElem?_append_left (by omega)]
      · rw [List.getElem?_eq_none (by rw [List.length_take]; omega), List.getElem?_eq_none (by omega)]
    calc m2 = m2.take n ++ m2.drop n := (List.take_append_drop n m2).symm
      _ = m0 ++ m2.drop n := by rw [this]
  · show m2.Pairwise (· ≠ ·)
    rw [List.pairwise_iff_getElem]
    intro i j hi0 hj0 hij e
    have hi' : i < r.length := by omega
    have hj' : j < r.length := by omega
    have e1 : m2[i]? = m2[j]? := by rw [List.getElem?_eq_getElem hi0, List.getElem?_eq_getElem hj0, e]
    rw [h2', h2', List.getElem?_eq_getElem hi', List.getElem?_eq_getElem hj'] at e1
    simp only [Option.bind_some] at e1
    obtain ⟨a, ha⟩ := hget r[i] (List.getElem_mem _)
    have z := nodup_ix' R.nd ha (e1 ▸ ha)
    have z2 := (List.getElem_inj nd).mp z
    omega
  · rw [h2'] at e1
    obtain ⟨j, ej, hj⟩ := Option.bind_eq_some_iff.mp e1
    have hjl : j < h.length := hlt j (List.mem_of_getElem? ej)
    have ok := R.at_ j a _ hj (List.getElem?_eq_getElem hjl)
    have rc := hc i j c h[j] ej e2 (List.getElem?_eq_getElem hjl)
    revert ok rc
    generalize h[j] = c'
    intro ok rc
    cases c with
    | lst xs =>
      cases c' with
      | lst ys => obtain ⟨vs, q, r'⟩ := ok; exact ⟨vs, q, RenDs.rel hm rc r'⟩
      | _ => exact rc.elim
    | dK xs =>
      cases c' with
      | dK ys => obtain ⟨vs, q, k, r'⟩ := ok; exact ⟨vs, q, k.trans rc.1.symm, RenDs.rel hm rc.2 r'⟩
      | _ => exact rc.elim
    | dT xs =>
      cases c' with
      | dT ys => obtain ⟨vs, q, k, r'⟩ := ok; exact ⟨vs, q, k.trans rc.1.symm, RenDs.rel hm rc.2 r'⟩
      | _ => exact rc.elim
    | zK o vs xs =>
      cases c' with
      | zK o' vs' ys => obtain ⟨⟨rfl, rfl⟩, rc⟩ := rc; obtain ⟨q, k, r'⟩ := ok; exact ⟨q, k.trans rc.1.symm, RenDs.rel hm rc.2 r'⟩
      | _ => exact rc.elim
    | zT o vs xs =>
      cases c' with
      | zT o' vs' ys => obtain ⟨⟨rfl, rfl⟩, rc⟩ := rc; obtain ⟨q, k, r'⟩ := ok; exact ⟨q, k.trans rc.1.symm, RenDs.rel hm rc.2 r'⟩
      | _ => exact rc.elim
    | ins C xs =>
      cases c' with
      | ins C' ys => obtain ⟨dx, vs, q, k, r'⟩ := ok; exact ⟨dx, vs, by rw [rc.1]; exact q, k.trans rc.2.1.symm, RenDs.rel hm rc.2.2 r'⟩
      | _ => exact rc.elim
end

theorem Gc.refl {n : Nat} {d : D} {h : Sto} (hn : n ≤ h.length) (hd : ClD h.length d) (hs : ClS h.length h) : Gc n d h d h := by
  have hr : ∀ i, i < h.length → (List.range h.length)[i]? = some i := fun i hi => List.getElem?_range hi
  refine ⟨List.range h.length, by simp, List.nodup_range, by simpa using hn, fun i hi => hr i (by omega), fun i hi => by simpa using hi, RenD.refl hr hd, fun i j c2 c e1 e2 e3 => ?_⟩
  have hi : i < h.length := (List.getElem?_eq_some_iff.mp e2).1
  rw [hr i hi] at e1; cases e1
  rw [e2] at e3; cases e3
  have hc := hs c2 (List.mem_of_getElem? e2)
  cases c2 with
  | lst xs => exact RenDs.refl hr hc
  | dK xs => exact ⟨rfl, RenDs.refl hr hc⟩
  | dT xs => exact ⟨rfl, RenDs.refl hr hc⟩
  | zK o vs xs => exact ⟨⟨rfl, rfl⟩, rfl, RenDs.refl hr hc⟩
  | zT o vs xs => exact ⟨⟨rfl, rfl⟩, rfl, RenDs.refl hr hc⟩
  | ins C xs => exact ⟨rfl, rfl, RenDs.refl hr hc⟩
theorem RenC.refl {r : List Nat} {n : Nat} (hr : ∀ i, i < n → r[i]? = some i) {c : Cell} (hc : ClC n c) : RenC r c c := by
  cases c with
  | lst xs => exact RenDs.refl hr hc
  | dK xs => exact ⟨rfl, RenDs.refl hr hc⟩
  | dT xs => exact ⟨rfl, RenDs.refl hr hc⟩
  | zK o vs xs => exact ⟨⟨rfl, rfl⟩, rfl, RenDs.refl hr hc⟩
  | zT o vs xs => exact ⟨⟨rfl, rfl⟩, rfl, RenDs.refl hr hc⟩
  | ins C xs => exact ⟨rfl, rfl, RenDs.refl hr hc⟩
/-- the cells behind the first n are left out -/
theorem Gc.tail {d : D} {h g : Sto} (hd : ClD h.length d) (hs : ClS h.length h) : Gc h.length d (h ++ g) d h := by
  have hr : ∀ i, i < h.length → (List.range h.length)[i]? = some i := fun i hi => List.getElem?_range hi
  refine ⟨List.range h.length, by simp, List.nodup_range, by simp, hr, fun i hi => ?_, RenD.refl hr hd, fun i j c2 c e1 e2 e3 => ?_⟩
  · have := List.mem_range.mp hi
    rw [List.length_append]; omega
  · have hi : i < h.length := (List.getElem?_eq_some_iff.mp e2).1
    rw [hr i hi] at e1; cases e1
    rw [List.getElem?_append_left hi] at e3
    rw [e2] at e3; cases e3
    exact RenC.refl hr (hs _ (List.mem_of_getElem? e2))
/-- of the cells behind the first n one alone is left -/
theorem Gc.one {h g : Sto} {k : Nat} {xs : List D} (hk : g[k]? = some (.lst xs)) (hx : ClDs h.length xs) (hs : ClS h.length h) : Gc h.length (.ref (h.length + k)) (h ++ g) (.ref h.length) (h ++ [.lst xs]) := by
  have hkl : k < g.length := (List.getElem?_eq_some_iff.mp hk).1
  have hr : ∀ i, i < h.length → (List.range h.length ++ [h.length + k])[i]? = some i := fun i hi => by
    rw [List.getElem?_append_left (by simpa using hi)]
    exact List.getElem?_range hi
  refine ⟨List.range h.length ++ [h.length + k], by simp, ?_, by simp, hr, fun i hi => ?_, .ref (by rw [List.getElem?_append_right (by simp)]; simp), fun i j c2 c e1 e2 e3 => ?_⟩
  · rw [List.nodup_append]
    refine ⟨List.nodup_range, by simp, fun x hx y hy => ?_⟩
    have := List.mem_range.mp hx
    have e : y = h.length + k := by simpa using hy
    omega
  · rcases List.mem_append.mp hi with z | z
    · have := List.mem_range.mp z
      rw [List.length_append]; omega
    · have e : i = h.length + k := by simpa using z
      rw [List.length_append]; omega
  · by_cases hi : i < h.length
    · rw [hr i hi] at e1; cases e1
      rw [List.getElem?_append_left hi] at e2 e3
      rw [e2] at e3; cases e3
      exact RenC.refl hr (hs _ (List.mem_of_getElem? e2))
    · have hi2 : i = h.length := by
        have := (List.getElem?_eq_some_iff.mp e2).1
        rw [List.length_append, List.length_singleton] at this
        omega
      subst hi2
      rw [List.getElem?_append_right (by simp)] at e1
      simp at e1
      subst e1
      rw [List.getElem?_append_right (by omega)] at e2 e3
      simp at e2
      subst e2
      rw [show h.length + k - h.length = k by omega, hk] at e3
      cases e3
      exact RenDs.refl hr hx

/-- what is wanted behind a def: of the value and the store, made smaller as one likes -/
def GQ (n : Nat) (Q : DK) : DK := fun d h => Q d h ∨ ∃ d2 h2, Gc n d h d2 h2 ∧ Q d2 h2
section
variable {P : Program} {w : World} {K : PySem.W.Frag} {mg : Str → Option Value} {base : Heap}
theorem fn3 {x qual : Str} {st : Stmt} {f : Addr} {fd : FuncData} {N ps : List Str} {k : Nat} {sp : Sp3} {t : C3} (F : Fun K x qual st f fd) (S : FnScope N ps (defScope st)) (len : ∀ ds h Q E, sp ds h Q E → ds.length = ps.length)
    (dv : ∀ (cdv : Value) (A : Around) (outer : List Env) (s : Shared) (H : Hp) (E : XK), Room k (A.deeper (envOfC qual (defScope st) s.heap.objs.size f cdv)) →
      PCs3 (cxOf CX0 P w K mg base N qual (defScope st) f cdv A outer s H E).nox (defBody st) t)
    (rd : ∀ ds h Q E, ClS h.length h → ClDs h.length ds → sp ds h Q E → t (ends3 (GQ h.length Q)) (start3 N.length ds) h) : FnOk P w K mg base CX0 (k + 1) f fd ps (LSp K sp) := by
  refine F.ok S (fun vs H Q E ⟨m, h, ds, R, rs, q⟩ => by rw [← rs.length]; exact len _ _ _ _ q) fun cdv A outer s H vs Q E hr ⟨m, h, ds, R, rs, q⟩ => ?_
  have d := dv cdv A outer s H E hr
  refine ⟨_, d.pe, m, h, _, R, relS_start rs, d.mono (ends3 (GQ h.length (Up K m H Q))) _ _ _ ⟨fun ρ h' g => ?_, fun v h' g => ?_, fun _ _ z => z.elim, fun _ _ z => z.elim⟩ (rd ds h _ _ R.cl (by rw [← R.len]; exact rs.cl) q)⟩
  · intro m' H' σ' s' R' S'
    rcases g with g | ⟨d2, h2, gc, g⟩
    · exact g m' H' .non s' R' .non
    · obtain ⟨m2, s2, R2, r2⟩ := gc.lift R.len.symm s' R' .non
      exact g m2 H' .non s2 R2 r2
  · intro m' H' u s' R' ru
    rcases g with g | ⟨d2, h2, gc, g⟩
    · exact g m' H' u s' R' ru
    · obtain ⟨m2, s2, R2, r2⟩ := gc.lift R.len.symm s' R' ru
      exact g m2 H' u s2 R2 r2
/-- a def of the module, by its promise -/
structure Fn3 (P : Program) (w : World) (K : PySem.W.Frag) (mg : Str → Option Value) (base : Heap) (x : Str) (k : Nat) (ps : List Str) (sp : Sp3) : Prop where
  ex : ∃ f fd, mg x = some (.ref f) ∧ PySem.W.keepIn K (.ref f) = true ∧ Binds K fd ps [] ∧ FnOk P w K mg base CX0 k f fd ps (LSp K sp)
  mono : MonoS sp
end
def tCall3 (sp : Sp3) (ta : A3) : E3 := fun ρ h Q => ta ρ h fun ds h1 => sp ds h1 Q (fun _ _ => False)
section
variable {X : Cx}
theorem e3_call {x : Str} {k n : Nat} {ps : List Str} {sp : Sp3} {e : Expr} {es : List Expr} {ta : A3} {p pos : Pos} (F : Fn3 X.prog X.w X.K X.mg X.base x k ps sp) (hr : Room n X.A) (ha : PA3 X (e :: es) ta) (hk : k ≤ n := by decide) (hg : Gl X x := by rfl)
    (hdb : (x == ("__debug__" : Str)) = false := by decide) (he : starEach (e :: es) X.env = (false, eval e X.env) :: starEach es X.env := by rfl) (hpl : (backTo pos (starEach es X.env)).any (·.1) = false := by rfl) :
    PE3 X (.Call (.Name x p) (e :: es) [] pos) (tCall3 sp ta) := by
  obtain ⟨f, fd, hm, kp, hb, F0⟩ := F.ex
  refine ⟨PE.weak (pe_call F0 (hr.mono hk) hg hm kp hb .nil pass0 ha.pe hdb he hpl) fun σ H Q ⟨m, h, ρ, R, S, q⟩ => ?_, fun ρ h Q Q' w q => ha.mono _ _ _ _ (fun ds h1 q1 => F.mono _ _ _ _ _ _ w (fun _ _ z => z) q1) q⟩
  refine LA.bind ha.mono R S q fun m1 H1 vs ds h1 s1 R1 rs S1 q1 => ?_
  rw [List.append_nil]
  exact ⟨m1, h1, ds, R1, rs, F.mono _ _ _ _ _ _ (fun d h' u => Up.step s1 u) (fun _ _ z => z.elim) q1⟩
theorem e3_call0 {x : Str} {k n : Nat} {ps : List Str} {sp : Sp3} {p pos : Pos} (F : Fn3 X.prog X.w X.K X.mg X.base x k ps sp) (hr : Room n X.A) (hk : k ≤ n := by decide) (hg : Gl X x := by rfl)
    (hdb : (x == ("__debug__" : Str)) = false := by decide) : PE3 X (.Call (.Name x p) [] [] pos) (tCall3 sp tN3) := by
  obtain ⟨f, fd, hm, kp, hb, F0⟩ := F.ex
  refine ⟨PE.weak (pe_call0 F0 (hr.mono hk) hg hm kp hb .nil pass0 hdb) fun σ H Q ⟨m, h, ρ, R, S, q⟩ => ?_, fun ρ h Q Q' w q => F.mono _ _ _ _ _ _ w (fun _ _ z => z) q⟩
  exact ⟨m, h, [], R, .nil, F.mono _ _ _ _ _ _ (fun d h' u => u) (fun _ _ z => z.elim) q⟩
end
/-- the script -/
theorem script3 {K : PySem.W.Frag} {H : Hp} {a : Addr} {ns : List Int} (o : Only H) (s : SqL K H a (ns.map V.int)) : RelD K [] H (.fl (ns.map D.int)) (.ref a) := by
  refine .fl (vs := ns.map V.int) ?_ ?_
  · rcases s with (s | ⟨b, s⟩) | s
    · rcases o a with z | ⟨b, xs, z⟩
      · rw [z] at s; cases s
      · rw [z] at s; cases s
    · exact .inl ⟨b, s⟩
    · exact .inr s
  · induction ns with
    | nil => exact .nil
    | cons n r ih => exact .cons (.int n) (by
        have : ∀ r : List Int, RelDs K [] H (r.map D.int) (r.map V.int) := fun r => by
          induction r with
          | nil => exact .nil
          | cons n r ih => exact .cons (.int n) ih
        exact this r)
end F3
/-! FF: operators, subscripts, slices, built-ins over plain values. -/
namespace F3
open PySem PySem.Spec PyProof.Rows L2

/-! ### ints -/
def addR : R3 := fun x y h Q => match x, y with
  | .int i, .int j => Q (.int (i + j)) h
  | .str a, .str b => a.length + b.length ≤ 16777216 ∧ Q (.str (a ++ b)) h
  | .tup xs, .tup ys => xs ≠ [] ∧ xs.length + ys.length ≤ 16777216 ∧ Q (.tup (xs ++ ys)) h
  | .ref a, .ref b => match h[a]?, h[b]? with
    | some (.lst xs), some (.lst ys) => xs.length + ys.length ≤ 16777216 ∧ Q (.ref h.length) (h ++ [.lst (xs ++ ys)])
    | _, _ => False
  | _, _ => False
def subR : R3 := fun x y h Q => match x, y with
  | .int i, .int j => Q (.int (i - j)) h
  | _, _ => False
def mulOk (i j : Int) : Prop := IntMulOk i j
theorem mulOk_l {i j : Int} (h : -(2 ^ 64) < i ∧ i < 2 ^ 64) : mulOk i j := .of_left (intBits_le_64 h.1 h.2)
theorem mulOk_r {i j : Int} (h : -(2 ^ 64) < j ∧ j < 2 ^ 64) : mulOk i j := .of_right (intBits_le_64 h.1 h.2)
theorem mulOk_w {i j : Int} {a b : Nat} (ha : i.natAbs < 2 ^ a) (hb : j.natAbs < 2 ^ b) (h : a + b ≤ 134217728) : mulOk i j := CMulX.ok (mulx_ok ha hb h)
def mulR : R3 := fun x y h Q => match x, y with
  | .int i, .int j => mulOk i j ∧ Q (.int (i * j)) h
  | .ref a, .int k => match h[a]? with
    | some (.lst xs) => (-(2 ^ 63) ≤ k ∧ k < 2 ^ 63 ∧ xs.length * k.toNat ≤ 16777216) ∧ Q (.ref h.length) (h ++ [.lst (List.replicate k.toNat xs).flatten])
    | _ => False
  | _, _ => False
def divOk (j : Int) : Prop := 0 < j ∧ j.natAbs.log2 < 9000
theorem divOk_of {j : Int} (h0 : 0 < j) (h : j < 2 ^ 8000) : divOk j := ⟨h0, by
  have : j.natAbs < 2 ^ 8000 := by omega
  exact Nat.lt_of_lt_of_le (PySem.Flt.log2_lt_of (by decide) this) (by decide)⟩
def divR : R3 := fun x y h Q => match x, y with
  | .int i, .int j => divOk j ∧ Q (.int (i / j)) h
  | _, _ => False
def modR : R3 := fun x y h Q => match x, y with
  | .int i, .int j => 0 < j ∧ Q (.int (i % j)) h
  | _, _ => False
def powR : R3 := fun x y h Q => match x, y with
  | .int i, .int j => (0 ≤ j ∧ j ≤ 1000000 ∧ i.natAbs < 2 ^ 64) ∧ Q (.int (i ^ j.toNat)) h
  | _, _ => False
def ltR : R3 := fun x y h Q => match x, y with
  | .int i, .int j => Q (.bl (decide (i < j))) h
  | _, _ => False
def leR : R3 := fun x y h Q => match x, y with
  | .int i, .int j => Q (.bl (decide (i ≤ j))) h
  | _, _ => False
def gtR : R3 := fun x y h Q => match x, y with
  | .int i, .int j => Q (.bl (decide (j < i))) h
  | _, _ => False
def geR : R3 := fun x y h Q => match x, y with
  | .int i, .int j => Q (.bl (decide (j ≤ i))) h
  | _, _ => False
section
variable {X : Cx}
theorem op3_int {f : Value → Value → Sem Value} {g : Int → Int → D} {gV : Int → Int → V} {C : Int → Int → Prop} (o : OpR X f (rI C gV)) (hg : ∀ i j K m H, RelD K m H (g i j) (gV i j)) {r3 : R3}
    (h1 : ∀ i j h Q, r3 (.int i) (.int j) h Q ↔ C i j ∧ Q (g i j) h) (h2 : ∀ x y h Q, r3 x y h Q → ∃ i j, x = .int i ∧ y = .int j) : Op3 X f r3 := by
  refine ⟨fun x y h Q Q' w q => ?_, _, o, fun m h H x y v u Q R rx ry q => ?_⟩
  · obtain ⟨i, j, rfl, rfl⟩ := h2 _ _ _ _ q
    rw [h1] at q ⊢
    exact ⟨q.1, w _ _ q.2⟩
  · obtain ⟨i, j, rfl, rfl⟩ := h2 _ _ _ _ q
    rw [h1] at q
    cases rx; cases ry
    exact ⟨i, j, rfl, rfl, q.1, q.2 m H _ .refl R (hg _ _ _ _ _)⟩
theorem op3_int0 {f : Value → Value → Sem Value} {g : Int → Int → D} {gV : Int → Int → V} (o : OpR X f (rI0 gV)) (hg : ∀ i j K m H, RelD K m H (g i j) (gV i j)) {r3 : R3}
    (h1 : ∀ i j h Q, r3 (.int i) (.int j) h Q ↔ Q (g i j) h) (h2 : ∀ x y h Q, r3 x y h Q → ∃ i j, x = .int i ∧ y = .int j) : Op3 X f r3 := by
  refine ⟨fun x y h Q Q' w q => ?_, _, o, fun m h H x y v u Q R rx ry q => ?_⟩
  · obtain ⟨i, j, rfl, rfl⟩ := h2 _ _ _ _ q
    rw [h1] at q ⊢
    exact w _ _ q
  · obtain ⟨i, j, rfl, rfl⟩ := h2 _ _ _ _ q
    rw [h1] at q
    cases rx; cases ry
    exact ⟨i, j, rfl, rfl, q m H _ .refl R (hg _ _ _ _ _)⟩
theorem o_sub : Op3 X (binaryOp .Sub) subR := op3_int0 op_sub (fun _ _ _ _ _ => .int _) (fun _ _ _ _ => .rfl) fun x y h Q q => by
  unfold subR at q
  split at q
  · exact ⟨_, _, rfl, rfl⟩
  · exact q.elim
theorem op_fdivX : OpR X (binaryOp .FloorDiv) (rI (fun _ j => divOk j) fun i j => .int (i / j)) := op_fdivW
theorem o_div : Op3 X (binaryOp .FloorDiv) divR := op3_int op_fdivX (fun _ _ _ _ _ => .int _) (fun _ _ _ _ => .rfl) fun x y h Q q => by
  unfold divR at q
  split at q
  · exact ⟨_, _, rfl, rfl⟩
  · exact q.elim
theorem o_mod : Op3 X (binaryOp .Mod) modR := op3_int op_mod (fun _ _ _ _ _ => .int _) (fun _ _ _ _ => .rfl) fun x y h Q q => by
  unfold modR at q
  split at q
  · exact ⟨_, _, rfl, rfl⟩
  · exact q.elim
theorem o_pow : Op3 X (binaryOp .Pow) powR := op3_int op_pow (fun _ _ _ _ _ => .int _) (fun _ _ _ _ => .rfl) fun x y h Q q => by
  unfold powR at q
  split at q
  · exact ⟨_, _, rfl, rfl⟩
  · exact q.elim
theorem o_lt : Op3 X (compareOp .Lt) ltR := op3_int0 op_lt (fun _ _ _ _ _ => .bl _) (fun _ _ _ _ => .rfl) fun x y h Q q => by
  unfold ltR at q
  split at q
  · exact ⟨_, _, rfl, rfl⟩
  · exact q.elim
theorem o_le : Op3 X (compareOp .LtE) leR := op3_int0 op_le (fun _ _ _ _ _ => .bl _) (fun _ _ _ _ => .rfl) fun x y h Q q => by
  unfold leR at q
  split at q
  · exact ⟨_, _, rfl, rfl⟩
  · exact q.elim
theorem o_gt : Op3 X (compareOp .Gt) gtR := op3_int0 op_gt (fun _ _ _ _ _ => .bl _) (fun _ _ _ _ => .rfl) fun x y h Q q => by
  unfold gtR at q
  split at q
  · exact ⟨_, _, rfl, rfl⟩
  · exact q.elim
theorem o_ge : Op3 X (compareOp .GtE) geR := op3_int0 op_ge (fun _ _ _ _ _ => .bl _) (fun _ _ _ _ => .rfl) fun x y h Q q => by
  unfold geR at q
  split at q
  · exact ⟨_, _, rfl, rfl⟩
  · exact q.elim
/-- a new list is laid as a cell -/
theorem Up.laid {K : PySem.W.Frag} {m : List Addr} {h : Sto} {H : Hp} {Q : VK} {xs : List D} {vs : List V} (R : Rep K m h H) (rs : RelDs K m H xs vs) (q : Up K m H Q (.ref h.length) (h ++ [.lst xs])) : ∀ p, H p = none → Q (.ref p) (upd H p (.lst vs)) := fun p hp =>
  q (m ++ [p]) _ (.ref p) (Step.cell hp) (R.snoc hp ⟨vs, upd_same, (rs.step R (Step.cell hp))⟩) (.ref (by rw [← R.len]; simp))
theorem RelD.inst {K : PySem.W.Frag} {m : List Addr} {h : Sto} {H : Hp} {n : Nat} {xs : List D} {v : V} (R : Rep K m h H) (r : RelD K m H (.ref n) v) (e : h[n]? = some (.lst xs)) : ∃ a vs, v = .ref a ∧ m[n]? = some a ∧ H a = some (.lst vs) ∧ RelDs K m H xs vs := by
  cases r with
  | ref ea =>
    obtain ⟨vs, q, r⟩ := R.at_ _ _ _ ea e
    exact ⟨_, vs, rfl, ea, q, r⟩
theorem o_add : Op3 X (binaryOp .Add) addR := by
  refine ⟨fun x y h Q Q' w q => ?_, _, OpR.or op_add (OpR.or op_add_str (OpR.or op_catT op_cat)), fun m h H x y v u Q R rx ry q => ?_⟩
  · unfold addR at q ⊢
    split at q
    · exact w _ _ q
    · exact ⟨q.1, w _ _ q.2⟩
    · exact ⟨q.1, q.2.1, w _ _ q.2.2⟩
    · split at q
      · exact ⟨q.1, w _ _ q.2⟩
      · exact q.elim
    · exact q.elim
  · unfold addR at q
    split at q
    · cases rx; cases ry
      exact .inl ⟨_, _, rfl, rfl, q m H _ .refl R (.int _)⟩
    · cases rx; cases ry
      exact .inr (.inl ⟨_, _, rfl, rfl, by rw [sizeLine_eq]; exact q.1, q.2 m H _ .refl R (.str _)⟩)
    · cases rx with
      | tup sq r1 =>
        cases ry with
        | tup sq2 r2 =>
          refine .inr (.inr (.inl ⟨_, _, _, _, rfl, rfl, TH sq, TH sq2, ?_, ?_, fun e => ?_, fun e p hp => ?_⟩))
          · intro e
            have := r1.length
            rw [e] at this
            exact q.1 (List.eq_nil_of_length_eq_zero this)
          · rw [sizeLine_eq, ← r1.length, ← r2.length]; exact q.2.1
          · have e2 := r2.length
            rw [e] at e2
            have e3 := List.eq_nil_of_length_eq_zero e2
            subst e3
            have q3 := q.2.2
            rw [List.append_nil] at q3
            exact q3 m H _ .refl R (.tup sq r1)
          · exact q.2.2 m _ (.ref p) (Step.lay hp) (R.lay hp) (.tup upd_same ((r1.append r2).step R (Step.lay hp)))
    · split at q
      next e1 e2 =>
        obtain ⟨a, vs, rfl, _, ea, r1⟩ := RelD.inst R rx e1
        obtain ⟨b, ws, rfl, _, eb, r2⟩ := RelD.inst R ry e2
        exact .inr (.inr (.inr ⟨a, b, vs, ws, rfl, rfl, ea, eb, by rw [sizeLine_eq, ← r1.length, ← r2.length]; exact q.1, Up.laid R (r1.append r2) q.2⟩))
      next => exact q.elim
    · exact q.elim
theorem op_mulY : OpR X (binaryOp .Mult) (rI mulOk fun i j => .int (i * j)) := opI fun _ _ _ _ _ _ _ hc q => mul_int q hc
theorem RelDs.rep {K : PySem.W.Frag} {m : List Addr} {H : Hp} {xs : List D} {vs : List V} (r : RelDs K m H xs vs) : ∀ n : Nat, RelDs K m H (List.replicate n xs).flatten (List.replicate n vs).flatten
  | 0 => .nil
  | n + 1 => by
    rw [List.replicate_succ, List.replicate_succ, List.flatten_cons, List.flatten_cons]
    exact r.append (RelDs.rep r n)
theorem o_mul : Op3 X (binaryOp .Mult) mulR := by
  refine ⟨fun x y h Q Q' w q => ?_, _, OpR.or op_mulY op_rep, fun m h H x y v u Q R rx ry q => ?_⟩
  · unfold mulR at q ⊢
    split at q
    · exact ⟨q.1, w _ _ q.2⟩
    · split at q
      · exact ⟨q.1, w _ _ q.2⟩
      · exact q.elim
    · exact q.elim
  · unfold mulR at q
    split at q
    · cases rx; cases ry
      exact .inl ⟨_, _, rfl, rfl, q.1, q.2 m H _ .refl R (.int _)⟩
    · split at q
      next e1 =>
        obtain ⟨a, vs, rfl, _, ea, r1⟩ := RelD.inst R rx e1
        cases ry
        exact .inr ⟨a, _, vs, rfl, rfl, ea, q.1.1, q.1.2.1, by rw [sizeLine_eq, ← r1.length]; exact q.1.2.2, Up.laid R (r1.rep _) q.2⟩
      next => exact q.elim
    · exact q.elim
/-! ### == and != -/
/-- the data of a value, lists by their cells -/
def toP (h : Sto) : Nat → D → Option PyData
  | 0, _ => none
  | n + 1, d => match d with
    | .non => some .none
    | .bl b => some (.bool b)
    | .int i => some (.int i)
    | .str x => if PyData.strOk x = true then some (.str x) else none
    | .tup xs => (xs.mapM (toP h n)).map .tuple
    | .fl xs => (xs.mapM (toP h n)).map .list
    | .ref k => match h[k]? with
      | some (.lst xs) => (xs.mapM (toP h n)).map .list
      | _ => none
    | _ => none
def eqR : R3 := fun x y h Q => match x, y with
  | .int i, .int j => Q (.bl (decide (i = j))) h
  | x, y => match toP h 9 x, toP h 9 y with
    | some p, some q => Q (.bl (PyData.eqv p q)) h
    | _, _ => False
def neR : R3 := fun x y h Q => match x, y with
  | .int i, .int j => Q (.bl (!decide (i = j))) h
  | x, y => match toP h 9 x, toP h 9 y with
    | some p, some q => Q (.bl (!PyData.eqv p q)) h
    | _, _ => False
end
section
variable {K : PySem.W.Frag} {m : List Addr} {h : Sto} {H : Hp}
theorem depthAll_le {n : Nat} : ∀ {ds : List PyData}, (∀ d ∈ ds, d.depth ≤ n) → PyData.depthAll ds ≤ n
  | [], _ => by simp [PyData.depthAll]
  | d :: ds, hd => by
    have h1 := hd d List.mem_cons_self
    have h2 := depthAll_le fun e he => hd e (List.mem_cons_of_mem _ he)
    simp only [PyData.depthAll]
    omega
theorem mapM_dp {f : D → Option PyData} (hf : ∀ d p v, f d = some p → RelD K m H d v → Dp K H v p ∧ p.canLay0 = true) : ∀ {xs : List D} {ps : List PyData} {vs : List V}, xs.mapM f = some ps → RelDs K m H xs vs → DpAll K H vs ps ∧ PyData.canLayAll0 ps = true
  | [], ps, vs, e, r => by
    cases r
    simp at e
    subst e
    exact ⟨.nil, by simp [PyData.canLayAll0]⟩
  | x :: xs, ps, vs, e, r => by
    cases r with
    | cons r1 r2 =>
      simp only [List.mapM_cons, Option.bind_eq_bind, Option.bind_eq_some_iff, Option.pure_def, Option.some.injEq] at e
      obtain ⟨p, ep, qs, eq, rfl⟩ := e
      obtain ⟨a, b⟩ := hf x p _ ep r1
      obtain ⟨c, d⟩ := mapM_dp hf eq r2
      exact ⟨.cons a c, by simp [PyData.canLayAll0, b, d]⟩
theorem toP_dp (R : Rep K m h H) : ∀ (n : Nat) (d : D) (p : PyData) (v : V), toP h n d = some p → RelD K m H d v → Dp K H v p ∧ p.canLay0 = true
  | 0, d, p, v, e, r => by simp [toP] at e
  | n + 1, d, p, v, e, r => by
    have ih := toP_dp R n
    cases r with
    | non => simp [toP] at e; subst e; exact ⟨.non, by simp [PyData.canLay0]⟩
    | bl b => simp [toP] at e; subst e; exact ⟨.bl b, by simp [PyData.canLay0]⟩
    | int b => simp [toP] at e; subst e; exact ⟨.int b, by simp [PyData.canLay0]⟩
    | str b =>
      simp only [toP] at e
      split at e
      · cases e; exact ⟨.str b, by simpa [PyData.canLay0] using (by assumption)⟩
      · cases e
    | ty b => simp [toP] at e
    | adr b => simp [toP] at e
    | tup sq r =>
      simp only [toP, Option.map_eq_some_iff] at e
      obtain ⟨ps, e, rfl⟩ := e
      obtain ⟨a, b⟩ := mapM_dp ih e r
      exact ⟨.tup (TH sq) a, by simpa [PyData.canLay0] using b⟩
    | fl sq r =>
      simp only [toP, Option.map_eq_some_iff] at e
      obtain ⟨ps, e, rfl⟩ := e
      obtain ⟨a, b⟩ := mapM_dp ih e r
      exact ⟨.lst sq.sq a, by simpa [PyData.canLay0] using b⟩
    | ref em =>
      simp only [toP] at e
      split at e
      next xs e2 =>
        simp only [Option.map_eq_some_iff] at e
        obtain ⟨ps, e, rfl⟩ := e
        obtain ⟨vs, q, r⟩ := R.at_ _ _ _ em e2
        obtain ⟨a, b⟩ := mapM_dp ih e r
        exact ⟨.lst (.inl (.inl q)) a, by simpa [PyData.canLay0] using b⟩
      next => cases e
theorem toP_depth : ∀ (n : Nat) (d : D) (p : PyData), toP h n d = some p → p.depth ≤ n
  | 0, d, p, e => by simp [toP] at e
  | n + 1, d, p, e => by
    have ih := toP_depth n
    have all : ∀ {xs : List D} {ps : List PyData}, xs.mapM (toP h n) = some ps → PyData.depthAll ps ≤ n := by
      intro xs
      induction xs with
      | nil => intro ps e; simp at e; subst e; simp [PyData.depthAll]
      | cons x xs ihx =>
        intro ps e
        simp only [List.mapM_cons, Option.bind_eq_bind, Option.bind_eq_some_iff, Option.pure_def, Option.some.injEq] at e
        obtain ⟨p, ep, qs, eq, rfl⟩ := e
        have h1 := ih x p ep
        have h2 := ihx eq
        simp only [PyData.depthAll]
        omega
    cases d with
    | non => simp [toP] at e; subst e; simp [PyData.depth]
    | bl b => simp [toP] at e; subst e; simp [PyData.depth]
    | int b => simp [toP] at e; subst e; simp [PyData.depth]
    | str b =>
      simp only [toP] at e
      split at e
      · cases e; simp [PyData.depth]
      · cases e
    | ty b => simp [toP] at e
    | adr b => simp [toP] at e
    | tup xs =>
      simp only [toP, Option.map_eq_some_iff] at e
      obtain ⟨ps, e, rfl⟩ := e
      have := all e
      simp only [PyData.depth]; omega
    | fl xs =>
      simp only [toP, Option.map_eq_some_iff] at e
      obtain ⟨ps, e, rfl⟩ := e
      have := all e
      simp only [PyData.depth]; omega
    | ref k =>
      simp only [toP] at e
      split at e
      next xs e2 =>
        simp only [Option.map_eq_some_iff] at e
        obtain ⟨ps, e, rfl⟩ := e
        have := all e
        simp only [PyData.depth]; omega
      next => cases e
theorem toP_shaped (R : Rep K m h H) {n : Nat} {d : D} {p : PyData} {v : V} (hn : n ≤ 64) (e : toP h n d = some p) (r : RelD K m H d v) : Dp K H v p ∧ SeqAt.shaped p = true := by
  obtain ⟨a, b⟩ := toP_dp R n d p v e r
  refine ⟨a, ?_⟩
  unfold SeqAt.shaped
  rw [b, decide_eq_true (Nat.le_trans (toP_depth n d p e) hn)]
  rfl
end
section
variable {X : Cx}
theorem o_eq (hu : X.A.units + 64 < cLine) : Op3 X (compareOp .Eq) eqR := by
  refine ⟨fun x y h Q Q' w q => ?_, _, op_eqD hu, fun m h H x y v u Q R rx ry q => ?_⟩
  · unfold eqR at q ⊢
    split at q
    · exact w _ _ q
    · split at q
      · exact w _ _ q
      · exact q.elim
  · unfold eqR at q
    split at q
    · cases rx; cases ry
      refine ⟨.int _, .int _, .int _, .int _, by rfl, by rfl, ?_⟩
      rw [show PyData.eqv (.int _) (.int _) = _ from by simp only [PyData.eqv]; exact Bool.beq_eq_decide_eq _ _]
      exact q m H _ .refl R (.bl _)
    · split at q
      next p1 p2 e1 e2 =>
        obtain ⟨a1, b1⟩ := toP_shaped R (by decide) e1 rx
        obtain ⟨a2, b2⟩ := toP_shaped R (by decide) e2 ry
        exact ⟨p1, p2, a1, a2, b1, b2, q m H _ .refl R (.bl _)⟩
      next => exact q.elim
theorem o_ne (hu : X.A.units + 64 < cLine) : Op3 X (compareOp .NotEq) neR := by
  refine ⟨fun x y h Q Q' w q => ?_, _, op_neD hu, fun m h H x y v u Q R rx ry q => ?_⟩
  · unfold neR at q ⊢
    split at q
    · exact w _ _ q
    · split at q
      · exact w _ _ q
      · exact q.elim
  · unfold neR at q
    split at q
    · cases rx; cases ry
      refine ⟨.int _, .int _, .int _, .int _, by rfl, by rfl, ?_⟩
      rw [show PyData.eqv (.int _) (.int _) = _ from by simp only [PyData.eqv]; exact Bool.beq_eq_decide_eq _ _]
      exact q m H _ .refl R (.bl _)
    · split at q
      next p1 p2 e1 e2 =>
        obtain ⟨a1, b1⟩ := toP_shaped R (by decide) e1 rx
        obtain ⟨a2, b2⟩ := toP_shaped R (by decide) e2 ry
        exact ⟨p1, p2, a1, a2, b1, b2, q m H _ .refl R (.bl _)⟩
      next => exact q.elim
/-! ### is, is not -/
def D.isN : D → Bool
  | .non => true
  | _ => false
def isR : R3 := fun x y h Q => match x, y with
  | x, .non => Q (.bl x.isN) h
  | .bl a, .bl b => Q (.bl (decide (a = b))) h
  | _, _ => False
def isnR : R3 := fun x y h Q => match x, y with
  | x, .non => Q (.bl (!x.isN)) h
  | .bl a, .bl b => Q (.bl (!decide (a = b))) h
  | _, _ => False
theorem RelD.isN {K : PySem.W.Frag} {m : List Addr} {H : Hp} {x : D} {v : V} (r : RelD K m H x v) : decide (v = .non) = x.isN := by
  cases r <;> first | rfl | (simp [D.isN])
theorem o_is : Op3 X (compareOp .Is) isR := by
  refine ⟨fun x y h Q Q' w q => ?_, _, OpR.or op_isN op_isBl, fun m h H x y v u Q R rx ry q => ?_⟩
  · unfold isR at q ⊢
    split at q
    · exact w _ _ q
    · exact w _ _ q
    · exact q.elim
  · unfold isR at q
    split at q
    · cases ry
      exact .inl ⟨rfl, by rw [rx.isN]; exact q m H _ .refl R (.bl _)⟩
    · cases rx; cases ry
      exact .inr ⟨_, _, rfl, rfl, q m H _ .refl R (.bl _)⟩
    · exact q.elim
theorem o_isn : Op3 X (compareOp .IsNot) isnR := by
  refine ⟨fun x y h Q Q' w q => ?_, _, OpR.or op_notN op_notBl, fun m h H x y v u Q R rx ry q => ?_⟩
  · unfold isnR at q ⊢
    split at q
    · exact w _ _ q
    · exact w _ _ q
    · exact q.elim
  · unfold isnR at q
    split at q
    · cases ry
      exact .inl ⟨rfl, by rw [rx.isN]; exact q m H _ .refl R (.bl _)⟩
    · cases rx; cases ry
      exact .inr ⟨_, _, rfl, rfl, q m H _ .refl R (.bl _)⟩
    · exact q.elim
/-! ### -x -/
def negR : U3 := fun x h Q => match x with
  | .int i => Q (.int (-i)) h
  | _ => False
theorem o_neg : Un3 X (unaryOp .USub) negR := by
  refine ⟨fun x h Q Q' w q => ?_, _, un_neg, fun m h H x v Q R rx q => ?_⟩
  · cases x <;> first | exact w _ _ q | exact q
  · cases rx <;> first | exact ⟨_, rfl, q m H _ .refl R (.int _)⟩ | exact q.elim
end
end F3
/-! FG: in, subscripts, slices, built-ins, methods. -/
namespace F3
open PySem PySem.Spec PyProof.Rows L2

/-! ### in, of flat things -/
def flatD : D → Bool
  | .non => true
  | .bl _ => true
  | .int _ => true
  | .str _ => true
  | _ => false
def eqD : D → D → Bool
  | .non, .non => true
  | .bl a, .bl b => a == b
  | .bl a, .int b => (if a then 1 else 0) == b
  | .int a, .bl b => a == (if b then 1 else 0)
  | .int a, .int b => a == b
  | .str a, .str b => a == b
  | _, _ => false
def inD (x : D) (xs : List D) : Bool := xs.any fun y => eqD y x
/-- the items of a tuple or list -/
def itemsOf (d : D) (h : Sto) : Option (List D) := match d with
  | .tup xs => some xs
  | .fl xs => some xs
  | .ref n => match h[n]? with
    | some (.lst xs) => some xs
    | _ => none
  | _ => none
/-- the items of a list -/
def listOf (d : D) (h : Sto) : Option (List D) := match d with
  | .fl xs => some xs
  | .ref n => match h[n]? with
    | some (.lst xs) => some xs
    | _ => none
  | _ => none
section
variable {K : PySem.W.Frag} {m : List Addr} {h : Sto} {H : Hp}
theorem listOf_lift {d : D} {v : V} {xs : List D} (R : Rep K m h H) (r : RelD K m H d v) (e : listOf d h = some xs) : ∃ a vs, v = .ref a ∧ SqL K H a vs ∧ RelDs K m H xs vs := by
  cases r with
  | fl sq r => simp [listOf] at e; subst e; exact ⟨_, _, rfl, sq.sq, r⟩
  | ref em =>
    simp only [listOf] at e
    split at e
    next ys e2 =>
      cases e
      obtain ⟨vs, q, r⟩ := R.at_ _ _ _ em e2
      exact ⟨_, vs, rfl, .inl (.inl q), r⟩
    next => cases e
  | _ => simp [listOf] at e
theorem RelD.flat {x : D} {v : V} (r : RelD K m H x v) (f : flatD x = true) : flatV v = true := by
  cases r <;> first | rfl | (simp [flatD] at f)
theorem RelD.eqd {x y : D} {v u : V} (r : RelD K m H x v) (q : RelD K m H y u) (f : flatD x = true) (f' : flatD y = true) : eqV v u = eqD x y := by
  cases r <;> first | (cases q <;> first | rfl | (simp [flatD] at f')) | (simp [flatD] at f)
theorem RelDs.flat : ∀ {xs : List D} {vs : List V}, RelDs K m H xs vs → xs.all flatD = true → vs.all flatV = true
  | _, _, .nil, _ => rfl
  | _, _, .cons r t, f => by
    rw [List.all_cons, Bool.and_eq_true] at f ⊢
    exact ⟨r.flat f.1, RelDs.flat t f.2⟩
theorem RelDs.ind {x : D} {v : V} (r : RelD K m H x v) (f : flatD x = true) : ∀ {xs : List D} {vs : List V}, RelDs K m H xs vs → xs.all flatD = true → inV v vs = inD x xs
  | _, _, .nil, _ => rfl
  | _, _, .cons q t, fs => by
    rw [List.all_cons, Bool.and_eq_true] at fs
    show (eqV _ v || inV v _) = (eqD _ x || inD x _)
    rw [RelDs.ind r f t fs.2, q.eqd r fs.1 f]
theorem itemsOf_lift {d : D} {v : V} {xs : List D} (R : Rep K m h H) (r : RelD K m H d v) (e : itemsOf d h = some xs) : ∃ a vs, v = .ref a ∧ (SqL K H a vs ∨ SqT K H a vs) ∧ RelDs K m H xs vs := by
  cases r with
  | tup sq r => simp [itemsOf] at e; subst e; exact ⟨_, _, rfl, .inr (TH sq), r⟩
  | fl sq r => simp [itemsOf] at e; subst e; exact ⟨_, _, rfl, .inl sq.sq, r⟩
  | ref em =>
    simp only [itemsOf] at e
    split at e
    next ys e2 =>
      cases e
      obtain ⟨vs, q, r⟩ := R.at_ _ _ _ em e2
      exact ⟨_, vs, rfl, .inl (.inl (.inl q)), r⟩
    next => cases e
  | _ => simp [itemsOf] at e
end
def inR : R3 := fun x y h Q => match itemsOf y h with
  | some xs => (flatD x = true ∧ xs.all flatD = true) ∧ Q (.bl (inD x xs)) h
  | none => False
def ninR : R3 := fun x y h Q => match itemsOf y h with
  | some xs => (flatD x = true ∧ xs.all flatD = true) ∧ Q (.bl (!inD x xs)) h
  | none => False
section
variable {X : Cx}
theorem o_in : Op3 X (compareOp .In) inR := by
  refine ⟨fun x y h Q Q' w q => ?_, _, op_in_seq, fun m h H x y v u Q R rx ry q => ?_⟩
  · unfold inR at q ⊢
    split at q
    · exact ⟨q.1, w _ _ q.2⟩
    · exact q.elim
  · unfold inR at q
    split at q
    next xs e =>
      obtain ⟨a, vs, rfl, sq, r⟩ := itemsOf_lift R ry e
      refine ⟨a, vs, rfl, sq, rx.flat q.1.1, r.flat q.1.2, ?_⟩
      show Q (.bl (inV v vs)) H
      rw [RelDs.ind rx q.1.1 r q.1.2]
      exact q.2 m H _ .refl R (.bl _)
    next => exact q.elim
theorem o_nin : Op3 X (compareOp .NotIn) ninR := by
  refine ⟨fun x y h Q Q' w q => ?_, _, op_notIn_seq, fun m h H x y v u Q R rx ry q => ?_⟩
  · unfold ninR at q ⊢
    split at q
    · exact ⟨q.1, w _ _ q.2⟩
    · exact q.elim
  · unfold ninR at q
    split at q
    next xs e =>
      obtain ⟨a, vs, rfl, sq, r⟩ := itemsOf_lift R ry e
      refine ⟨a, vs, rfl, sq, rx.flat q.1.1, r.flat q.1.2, ?_⟩
      show Q (.bl (!inV v vs)) H
      rw [RelDs.ind rx q.1.1 r q.1.2]
      exact q.2 m H _ .refl R (.bl _)
    next => exact q.elim
/-- x in [..]: the list a new one -/
def tOX (r : D → List D → Sto → DK → Prop) (ta : E3) (tb : A3) : E3 := fun ρ h Q => ta ρ h fun x h1 => tb ρ h1 fun ys h2 => r x ys h2 Q
structure OpX3 (X : Cx) (f : Value → Value → Sem Value) (r3 : D → List D → Sto → DK → Prop) : Prop where
  mono : ∀ x y h (Q Q' : DK), (∀ d h', Q d h' → Q' d h') → r3 x y h Q → r3 x y h Q'
  ok : ∃ r : R2, OpR X f r ∧ ∀ m h H x y v a vs Q, Rep X.K m h H → RelD X.K m H x v → H a = some (.lst vs) → RelDs X.K m H y vs → r3 x y h (Up X.K m H Q) → r v (.ref a) H Q
theorem MonoE.opx {r : D → List D → Sto → DK → Prop} {ta : E3} {tb : A3} (mr : ∀ x y h (Q Q' : DK), (∀ d h', Q d h' → Q' d h') → r x y h Q → r x y h Q') (ma : MonoE ta) (mb : MonoA tb) : MonoE (tOX r ta tb) := fun ρ h Q Q' w q =>
  ma _ _ _ _ (fun x h1 q1 => mb _ _ _ _ (fun y h2 q2 => mr _ _ _ _ _ w q2) q1) q
theorem opx_lift {ta : E3} {tb : A3} {r3 : D → List D → Sto → DK → Prop} {r : R2} (w : ∀ m h H x y v a vs Q, Rep X.K m h H → RelD X.K m H x v → H a = some (.lst vs) → RelDs X.K m H y vs → r3 x y h (Up X.K m H Q) → r v (.ref a) H Q)
    (mr : ∀ x y h (Q Q' : DK), (∀ d h', Q d h' → Q' d h') → r3 x y h Q → r3 x y h Q') (ma : MonoE ta) (mb : MonoA tb) {σ : L2.St} {H : Hp} {Q : VK} (q : LE X.K (tOX r3 ta tb) σ H Q) : tOp r (LE X.K ta) (LX X.K tb) σ H Q := by
  obtain ⟨m, h, ρ, R, S, q⟩ := q
  refine LE.bind ma R S q fun m1 H1 v x h1 s1 R1 rx S1 q1 => ?_
  refine LX.bind mb R1 S1 q1 fun m2 H2 a vs y h2 s2 R2 ea na hm ry S2 q2 => ?_
  exact w m2 h2 H2 x y v a vs Q R2 (rx.step R1 s2) ea ry (mr _ _ _ _ _ (fun d h' u => Up.step (s1.trans s2) u) q2)
theorem e3_cmpx {a b : Expr} {ta : E3} {tb : A3} {pos : Pos} {op : CmpOp} {r3 : D → List D → Sto → DK → Prop} (o : OpX3 X (compareOp op) r3) (ha : PE3 X a ta) (hb : PX3 X b tb) (hm : behindInMarks op b = false := by first | exact nomark _ | with_unfolding_all rfl) : PE3 X (.Compare a [op] [b] pos) (tOX r3 ta tb) := by
  obtain ⟨r, hr, w⟩ := o.ok
  exact ⟨PE.weak (pe_cmpR hr ha.pe hb.pe hm) fun σ H Q q => opx_lift w o.mono ha.mono hb.mono q, .opx o.mono ha.mono hb.mono⟩
theorem b3_cmpx {a b : Expr} {ta : E3} {tb : A3} {pos : Pos} {op : CmpOp} {r3 : D → List D → Sto → DK → Prop} (o : OpX3 X (compareOp op) r3) (ha : PE3 X a ta) (hb : PX3 X b tb) (hm : behindInMarks op b = false := by first | exact nomark _ | with_unfolding_all rfl) : PB3 X (.Compare a [op] [b] pos) (tT (tOX r3 ta tb)) := by
  obtain ⟨r, hr, w⟩ := o.ok
  have mo : MonoE (tOX r3 ta tb) := .opx o.mono ha.mono hb.mono
  exact ⟨PT.weak (pt_cmpR hr ha.pe hb.pe hm) fun σ H Q q => opx_lift w o.mono ha.mono hb.mono (tT_lift mo q), MonoB.tT mo⟩
def inX : D → List D → Sto → DK → Prop := fun x xs h Q => (flatD x = true ∧ xs.all flatD = true) ∧ Q (.bl (inD x xs)) h
def ninX : D → List D → Sto → DK → Prop := fun x xs h Q => (flatD x = true ∧ xs.all flatD = true) ∧ Q (.bl (!inD x xs)) h
theorem ox_in : OpX3 X (compareOp .In) inX := ⟨fun x y h Q Q' w q => ⟨q.1, w _ _ q.2⟩, _, op_in_seq, fun m h H x y v a vs Q R rx ea ry q => ⟨a, vs, rfl, .inl (.inl (.inl ea)), rx.flat q.1.1, ry.flat q.1.2, by
  show Q (.bl (inV v vs)) H
  rw [RelDs.ind rx q.1.1 ry q.1.2]
  exact q.2 m H _ .refl R (.bl _)⟩⟩
theorem ox_nin : OpX3 X (compareOp .NotIn) ninX := ⟨fun x y h Q Q' w q => ⟨q.1, w _ _ q.2⟩, _, op_notIn_seq, fun m h H x y v a vs Q R rx ea ry q => ⟨a, vs, rfl, .inl (.inl (.inl ea)), rx.flat q.1.1, ry.flat q.1.2, by
  show Q (.bl (!inV v vs)) H
  rw [RelDs.ind rx q.1.1 ry q.1.2]
  exact q.2 m H _ .refl R (.bl _)⟩⟩
/-- x == [..], the list a new one: of the empty one -/
def eqX (neg : Bool) : D → List D → Sto → DK → Prop := fun x ys h Q => match toP h 9 x, ys.mapM (toP h 8) with
  | some p, some qs => Q (.bl (if neg then !PyData.eqv p (.list qs) else PyData.eqv p (.list qs))) h
  | _, _ => False
theorem mapM_depth {h : Sto} {n : Nat} : ∀ {xs : List D} {ps : List PyData}, xs.mapM (toP h n) = some ps → PyData.depthAll ps ≤ n := by
  intro xs
  induction xs with
  | nil => intro ps e; simp at e; subst e; simp [PyData.depthAll]
  | cons x xs ihx =>
    intro ps e
    simp only [List.mapM_cons, Option.bind_eq_bind, Option.bind_eq_some_iff, Option.pure_def, Option.some.injEq] at e
    obtain ⟨p, ep, qs, eq, rfl⟩ := e
    have h1 := toP_depth n x p ep
    have h2 := ihx eq
    simp only [PyData.depthAll]
    omega
theorem eqX_lift {K : PySem.W.Frag} {m : List Addr} {h : Sto} {H : Hp} {y : List D} {a : Addr} {vs : List V} {qs : List PyData} (R : Rep K m h H) (ea : H a = some (.lst vs)) (ry : RelDs K m H y vs) (e : y.mapM (toP h 8) = some qs) : Dp K H (.ref a) (.list qs) ∧ SeqAt.shaped (.list qs) = true := by
  obtain ⟨a1, b1⟩ := mapM_dp (toP_dp R 8) e ry
  refine ⟨.lst (.inl (.inl ea)) a1, ?_⟩
  unfold SeqAt.shaped
  have : (PyData.list qs).depth ≤ 64 := by
    have := mapM_depth e
    simp only [PyData.depth]; omega
  rw [decide_eq_true this, Bool.and_true]
  simpa [PyData.canLay0] using b1
theorem ox_eq (hu : X.A.units + 64 < cLine) : OpX3 X (compareOp .Eq) (eqX false) := by
  refine ⟨fun x y h Q Q' w q => ?_, _, op_eqD hu, fun m h H x y v a vs Q R rx ea ry q => ?_⟩
  · unfold eqX at q ⊢
    split at q
    · exact w _ _ q
    · exact q.elim
  · unfold eqX at q
    split at q
    next p qs e1 e2 =>
      obtain ⟨a1, b1⟩ := toP_shaped R (by decide) e1 rx
      obtain ⟨a2, b2⟩ := eqX_lift R ea ry e2
      exact ⟨p, _, a1, a2, b1, b2, q m H _ .refl R (.bl _)⟩
    next => exact q.elim
theorem ox_ne (hu : X.A.units + 64 < cLine) : OpX3 X (compareOp .NotEq) (eqX true) := by
  refine ⟨fun x y h Q Q' w q => ?_, _, op_neD hu, fun m h H x y v a vs Q R rx ea ry q => ?_⟩
  · unfold eqX at q ⊢
    split at q
    · exact w _ _ q
    · exact q.elim
  · unfold eqX at q
    split at q
    next p qs e1 e2 =>
      obtain ⟨a1, b1⟩ := toP_shaped R (by decide) e1 rx
      obtain ⟨a2, b2⟩ := eqX_lift R ea ry e2
      exact ⟨p, _, a1, a2, b1, b2, q m H _ .refl R (.bl _)⟩
    next => exact q.elim
/-! ### subscripts -/
def atD (xs : List D) (i : Int) (Q : D → Prop) : Prop := match atI xs i with
  | some d => Q d
  | none => False
theorem atD_mono {xs : List D} {i : Int} {Q Q' : D → Prop} (w : ∀ d, Q d → Q' d) (q : atD xs i Q) : atD xs i Q' := by
  unfold atD at q ⊢
  split at q
  · exact w _ q
  · exact q.elim
theorem atD_lift {K : PySem.W.Frag} {m : List Addr} {H : Hp} {xs : List D} {vs : List V} {i : Int} {Q : D → Prop} (r : RelDs K m H xs vs) (q : atD xs i Q) : ∃ d v, atI vs i = some v ∧ RelD K m H d v ∧ Q d := by
  unfold atD at q
  split at q
  next d e =>
    unfold atI at e ⊢
    rw [← r.length]
    obtain ⟨j, ej, e2⟩ := Option.bind_eq_some_iff.mp e
    obtain ⟨v, ev, rv⟩ := r.get e2
    exact ⟨d, v, by rw [ej]; exact ev, rv, q⟩
  next => exact q.elim
def ixR : R3 := fun x y h Q => match y with
  | .int i => match x with
    | .str z => z.length ≤ 16777216 ∧ (match atI z.cps.toList i with
      | some c => Q (.str ⟨#[c]⟩) h
      | none => False)
    | x => match itemsOf x h with
      | some xs => atD xs i fun d => Q d h
      | none => False
  | _ => False
theorem e3_ix {a b : Expr} {ta tb : E3} {pos : Pos} (ha : PE3 X a ta) (hb : PE3 X b tb) (hs : PlainIx b := by intro _ _; rfl) : PE3 X (.Subscript a b pos) (tO ixR ta tb) := by
  have mo : ∀ x y h (Q Q' : DK), (∀ d h', Q d h' → Q' d h') → ixR x y h Q → ixR x y h Q' := fun x y h Q Q' w q => by
    unfold ixR at q ⊢
    split at q
    · split at q
      · refine ⟨q.1, ?_⟩
        have q2 := q.2
        split at q2
        · exact w _ _ q2
        · exact q2.elim
      · split at q
        · exact atD_mono (fun d q => w _ _ q) q
        · exact q.elim
    · exact q.elim
  refine ⟨PE.weak (pe_ix ix_seq ha.pe hb.pe hs) fun σ H Q q => op_lift (r := rIx X.K) (fun m h H x y v u Q R rx ry q => ?_) mo ha.mono hb.mono q, .op mo ha.mono hb.mono⟩
  unfold ixR at q
  split at q
  next i =>
    cases ry
    split at q
    · cases rx
      have q2 := q.2
      split at q2
      next c e => exact .inr (.inr ⟨_, i, c, rfl, rfl, by rw [sizeLine_eq]; exact q.1, e, q2 m H _ .refl R (.str _)⟩)
      next => exact q2.elim
    · split at q
      next xs e =>
        obtain ⟨a, vs, rfl, sq, r⟩ := itemsOf_lift R rx e
        obtain ⟨d, v, ev, rv, q⟩ := atD_lift r q
        rcases sq with sq | sq
        · exact .inl ⟨a, vs, i, v, rfl, rfl, sq, ev, q m H _ .refl R rv⟩
        · exact .inr (.inl ⟨a, vs, i, v, rfl, rfl, sq, ev, q m H _ .refl R rv⟩)
      next => exact q.elim
  next => exact q.elim
/-- [..][i] -/
def tIxX (ta : A3) (tb : E3) : E3 := fun ρ h Q => ta ρ h fun xs h1 => tb ρ h1 fun y h2 => match y with
  | .int i => atD xs i fun d => Q d h2
  | _ => False
theorem e3_ixx {a b : Expr} {ta : A3} {tb : E3} {pos : Pos} (ha : PX3 X a ta) (hb : PE3 X b tb) (hs : PlainIx b := by intro _ _; rfl) : PE3 X (.Subscript a b pos) (tIxX ta tb) := by
  refine ⟨PE.weak (pe_ix ix_list ha.pe hb.pe hs) fun σ H Q ⟨m, h, ρ, R, S, q⟩ => ?_, fun ρ h Q Q' w q => ha.mono _ _ _ _ (fun xs h1 q1 => hb.mono _ _ _ _ (fun y h2 q2 => ?_) q1) q⟩
  · refine LX.bind ha.mono R S q fun m1 H1 a vs xs h1 s1 R1 ea na hm rx S1 q1 => ?_
    refine LE.bind hb.mono R1 S1 q1 fun m2 H2 u y h2 s2 R2 ry S2 q2 => ?_
    cases ry with
    | int i =>
      obtain ⟨d, v, ev, rv, q⟩ := atD_lift (rx.step R1 s2) q2
      exact ⟨a, vs, i, v, rfl, rfl, .inl (.inl (s2.keep _ _ hm ea)), ev, q m2 H2 _ (s1.trans s2) R2 rv⟩
    | _ => exact q2.elim
  · cases y with
    | int i => exact atD_mono (fun d q => w _ _ q) q2
    | _ => exact q2
/-- o[i] = v -/
def setR (o i v : D) (h : Sto) (Q : Sto → Prop) : Prop := match o, i with
  | .ref n, .int k => match h[n]? with
    | some (.lst xs) => match ixN xs.length k with
      | some j => Q (h.set n (.lst (xs.set j v)))
      | none => False
    | _ => False
  | _, _ => False
def gSub3 (to ti : E3) : G3 := fun d ρ h Q => to ρ h fun o h1 => ti ρ h1 fun i h2 => setR o i d h2 fun h3 => Q ρ h3
theorem setR_mono {o i v : D} {h : Sto} {Q Q' : Sto → Prop} (w : ∀ h, Q h → Q' h) (q : setR o i v h Q) : setR o i v h Q' := by
  unfold setR at q ⊢
  split at q
  · split at q
    · split at q
      · exact w _ q
      · exact q.elim
    · exact q.elim
  · exact q.elim
theorem g3_sub {o i : Expr} {to ti : E3} {pos : Pos} (ho : PE3 X o to) (hi : PE3 X i ti)
    (ha : ∀ v, assign (.Subscript o i pos) X.env v = (do
      let ov ← holding [v] (eval o X.env)
      let iv ← holding [v, ov] (eval i X.env)
      standAt pos
      holding [v, ov, iv] (setItem ov iv v)
      release [v, ov, iv] []) := by intro _; rfl) : PG3 X (.Subscript o i pos) (gSub3 to ti) := by
  refine ⟨PG.weak (pg_sub ho.pe hi.pe set_list ha) fun v σ H Q ⟨m, h, ρ, d, R, S, rd, q⟩ => ?_, fun d ρ h Q Q' w q => ho.mono _ _ _ _ (fun o h1 q1 => hi.mono _ _ _ _ (fun i h2 q2 => setR_mono (fun h q => w _ _ q) q2) q1) q⟩
  refine LE.bind ho.mono R S q fun m1 H1 ov o' h1 s1 R1 ro S1 q1 => ?_
  refine LE.bind hi.mono R1 S1 q1 fun m2 H2 iv i' h2 s2 R2 ri S2 q2 => ?_
  unfold setR at q2
  split at q2
  next n k =>
    cases ri
    split at q2
    next xs e =>
      obtain ⟨a, vs, rfl, em, ea, rs⟩ := RelD.inst R2 (ro.step R1 s2) e
      split at q2
      next j ej =>
        refine ⟨a, vs, k, j, rfl, rfl, ea, by rw [← rs.length]; exact ej, ?_⟩
        have st := s1.trans s2
        have hm : a ∈ m2 := List.mem_of_getElem? em
        refine q2 m2 _ σ (st.trans (Step.put hm)) (R2.put em ⟨_, upd_same, ?_⟩) (S2.step R2 (Step.put hm))
        exact ((rs.set (rd.step R st) j).step R2 (Step.put hm))
      next => exact q2.elim
    next => exact q2.elim
  next => exact q2.elim
/-! ### slices -/
def cutD (xs : List D) (lo hi : Option Int) : List D := (xs.drop (HT.sIx xs.length 0 lo)).take (HT.sIx xs.length xs.length hi - HT.sIx xs.length 0 lo)
theorem RelDs.cut {K : PySem.W.Frag} {m : List Addr} {H : Hp} {xs : List D} {vs : List V} (r : RelDs K m H xs vs) (lo hi : Option Int) : RelDs K m H (cutD xs lo hi) (cutV vs lo hi) := by
  unfold cutD cutV
  rw [r.length]
  exact (r.drop _).take _
abbrev O3 := S3 → Sto → (Option Int → Sto → Prop) → Prop
def LO (K : PySem.W.Frag) (t : O3) : TO := fun σ H Q => ∃ m h ρ, Rep K m h H ∧ RelS K m H ρ σ ∧ t ρ h fun o h' => ∀ m' H', Step m H m' H' → Rep K m' h' H' → Q o H'
structure PO3 (X : Cx) (e : Option Expr) (t : O3) : Prop where
  pe : PO X e (LO X.K t)
  mono : ∀ ρ h (Q Q' : Option Int → Sto → Prop), (∀ o h, Q o h → Q' o h) → t ρ h Q → t ρ h Q'
def oNo : O3 := fun _ h Q => Q none h
def oSo (t : E3) : O3 := fun ρ h Q => t ρ h fun d h1 => match d with
  | .int i => Q (some i) h1
  | _ => False
theorem PO.weak {X : Cx} {e : Option Expr} {t t' : TO} (p : PO X e t) (w : ∀ σ H Q, t' σ H Q → t σ H Q) : PO X e t' := ⟨fun pins s σ H Q I h => p.run pins s σ H Q I (w σ H Q h)⟩
theorem o3_no : PO3 X none oNo := ⟨PO.weak po_none fun σ H Q ⟨m, h, ρ, R, S, q⟩ => q m H .refl R, fun ρ h Q Q' w q => w _ _ q⟩
theorem o3_so {e : Expr} {t : E3} (he : PE3 X e t) : PO3 X (some e) (oSo t) := by
  refine ⟨PO.weak (po_some he.pe) fun σ H Q ⟨m, h, ρ, R, S, q⟩ => ?_, fun ρ h Q Q' w q => he.mono _ _ _ _ (fun d h1 q1 => ?_) q⟩
  · refine LE.bind he.mono R S q fun m1 H1 u y h1 s1 R1 ry S1 q1 => ?_
    cases ry with
    | int i => exact ⟨i, rfl, q1 m1 H1 s1 R1⟩
    | _ => exact q1.elim
  · cases d <;> first | exact w _ _ q1 | exact q1
def slR (x : D) (lo hi : Option Int) (h : Sto) (Q : DK) : Prop := match x with
  | .tup xs => ¬ (HT.sIx xs.length 0 lo = 0 ∧ HT.sIx xs.length xs.length hi = xs.length) ∧ Q (.tup (cutD xs lo hi)) h
  | .str z => z.length ≤ 16777216 ∧ Q (.str (cutS z lo hi)) h
  | x => match listOf x h with
    | some xs => Q (.ref h.length) (h ++ [.lst (cutD xs lo hi)])
    | none => False
def tSl3 (te : E3) (tl th : O3) : E3 := fun ρ h Q => te ρ h fun x h1 => tl ρ h1 fun l h2 => th ρ h2 fun u h3 => slR x l u h3 Q
theorem slR_mono {x : D} {lo hi : Option Int} {h : Sto} {Q Q' : DK} (w : ∀ d h, Q d h → Q' d h) (q : slR x lo hi h Q) : slR x lo hi h Q' := by
  unfold slR at q ⊢
  split at q
  · exact ⟨q.1, w _ _ q.2⟩
  · exact ⟨q.1, w _ _ q.2⟩
  · split at q
    · exact w _ _ q
    · exact q.elim
theorem e3_sl {e : Expr} {lo hi : Option Expr} {te : E3} {tl th : O3} {p2 pos : Pos} (he : PE3 X e te) (hl : PO3 X lo tl) (hh : PO3 X hi th) : PE3 X (.Subscript e (.Slice lo hi none p2) pos) (tSl3 te tl th) := by
  refine ⟨PE.weak (pe_slice (SlR.or sl_tup (SlR.or sl_str sl_list)) he.pe hl.pe hh.pe) fun σ H Q ⟨m, h, ρ, R, S, q⟩ => ?_, fun ρ h Q Q' w q => he.mono _ _ _ _ (fun d h1 q1 => hl.mono _ _ _ _ (fun l h2 q2 => hh.mono _ _ _ _ (fun u h3 q3 => slR_mono w q3) q2) q1) q⟩
  refine LE.bind he.mono R S q fun m1 H1 v x h1 s1 R1 rx S1 q1 => ?_
  refine ⟨m1, h1, ρ, R1, S1, hl.mono _ _ _ _ (fun l h2 q2 m2 H2 s2 R2 => ?_) q1⟩
  refine ⟨m2, h2, ρ, R2, S1.step R1 s2, hh.mono _ _ _ _ (fun u h3 q3 m3 H3 s3 R3 => ?_) q2⟩
  have rx3 := (rx.step R1 s2).step R2 s3
  have st := s1.trans (s2.trans s3)
  unfold slR at q3
  split at q3
  · cases rx3 with
    | tup sq r => exact .inl ⟨_, _, rfl, TH sq, by rw [← r.length]; exact q3.1, fun p hp => q3.2 m3 _ (.ref p) (st.trans (Step.lay hp)) (R3.lay hp) (.tup upd_same ((r.cut l u).step R3 (Step.lay hp)))⟩
  · cases rx3
    exact .inr (.inl ⟨_, rfl, by rw [sizeLine_eq]; exact q3.1, q3.2 m3 H3 _ st R3 (.str _)⟩)
  · split at q3
    next xs e =>
      obtain ⟨a, vs, rfl, sq, r⟩ := listOf_lift R3 rx3 e
      exact .inr (.inr ⟨a, vs, rfl, sq, Up.laid R3 (r.cut l u) (Up.step st q3)⟩)
    next => exact q3.elim
end
end F3
/-! FH: built-in functions and methods over plain values. -/
namespace F3
open PySem PySem.Spec PyProof.Rows L2

abbrev N3 := List D → Sto → DK → Prop
structure Call3 (X : Cx) (f : Value) (r3 : N3) : Prop where
  mono : ∀ xs h (Q Q' : DK), (∀ d h', Q d h' → Q' d h') → r3 xs h Q → r3 xs h Q'
  ok : ∃ r, CallR X f r ∧ ∀ m h H xs vs Q, Rep X.K m h H → RelDs X.K m H xs vs → r3 xs h (Up X.K m H Q) → r vs H Q
/-- a call whose one argument is a new list -/
structure CallX3 (X : Cx) (f : Value) (r3 : N3) : Prop where
  mono : ∀ xs h (Q Q' : DK), (∀ d h', Q d h' → Q' d h') → r3 xs h Q → r3 xs h Q'
  ok : ∃ r, CallR X f r ∧ ∀ m h H a xs vs Q, Rep X.K m h H → H a = some (.lst vs) → RelDs X.K m H xs vs → r3 xs h (Up X.K m H Q) → r [.ref a] H Q
def tB3 (r : N3) (ta : A3) : E3 := fun ρ h Q => ta ρ h fun xs h1 => r xs h1 Q
section
variable {X : Cx} {x : Str} {p pos : Pos} {e : Expr} {es : List Expr} {t : A3} {id T : String} {r3 : N3}
theorem cb_lift {f : Value} (c : Call3 X f r3) (mt : MonoA t) : ∃ r, CallR X f r ∧ ∀ σ H Q, LE X.K (tB3 r3 t) σ H Q → tCB r (LA X.K t) σ H Q := by
  obtain ⟨r, hr, w⟩ := c.ok
  refine ⟨r, hr, fun σ H Q ⟨m, h, ρ, R, S, q⟩ => ?_⟩
  refine LA.bind mt R S q fun m1 H1 vs xs h1 s1 R1 rs S1 q1 => ?_
  exact w m1 h1 H1 xs vs Q R1 rs (c.mono _ _ _ _ (fun d h' u => Up.step s1 u) q1)
theorem MonoE.cb (mr : ∀ xs h (Q Q' : DK), (∀ d h', Q d h' → Q' d h') → r3 xs h Q → r3 xs h Q') (mt : MonoA t) : MonoE (tB3 r3 t) := fun ρ h Q Q' w q => mt _ _ _ _ (fun xs h1 q1 => mr _ _ _ _ w q1) q
theorem e3_cb (c : Call3 X (.builtin id) r3) (hm : X.mg x = none) (ha : PA3 X (e :: es) t) (hg : Gl X x := by rfl) (hv : bootBuiltins x = some (.builtin id) := by decide +kernel) (hn : x ≠ "__name__" := by decide) (hdb : (x == ("__debug__" : Str)) = false := by decide)
    (he : starEach (e :: es) X.env = (false, eval e X.env) :: starEach es X.env := by rfl) (hpl : (backTo pos (starEach es X.env)).any (·.1) = false := by rfl) : PE3 X (.Call (.Name x p) (e :: es) [] pos) (tB3 r3 t) := by
  obtain ⟨r, hr, w⟩ := cb_lift c ha.mono
  exact ⟨PE.weak (pe_callB hr hg hm hv ha.pe hn hdb he hpl) w, .cb c.mono ha.mono⟩
theorem e3_ct (c : Call3 X (.type T) r3) (hm : X.mg x = none) (ha : PA3 X (e :: es) t) (hg : Gl X x := by rfl) (hv : bootBuiltins x = some (.type T) := by decide +kernel) (hn : x ≠ "__name__" := by decide) (hdb : (x == ("__debug__" : Str)) = false := by decide)
    (he : starEach (e :: es) X.env = (false, eval e X.env) :: starEach es X.env := by rfl) (hpl : (backTo pos (starEach es X.env)).any (·.1) = false := by rfl) : PE3 X (.Call (.Name x p) (e :: es) [] pos) (tB3 r3 t) := by
  obtain ⟨r, hr, w⟩ := cb_lift c ha.mono
  exact ⟨PE.weak (pe_callTy hr hg hm hv ha.pe hn hdb he hpl) w, .cb c.mono ha.mono⟩
theorem cbx_lift {f : Value} (c : CallX3 X f r3) (mt : MonoA t) : ∃ r, CallR X f r ∧ ∀ σ H Q, LE X.K (tB3 r3 t) σ H Q → tCB r (tCons (LX X.K t) tNil) σ H Q := by
  obtain ⟨r, hr, w⟩ := c.ok
  refine ⟨r, hr, fun σ H Q ⟨m, h, ρ, R, S, q⟩ => ?_⟩
  refine LX.bind mt R S q fun m1 H1 a vs xs h1 s1 R1 ea na hm rs S1 q1 => ?_
  exact w m1 h1 H1 a xs vs Q R1 ea rs (c.mono _ _ _ _ (fun d h' u => Up.step s1 u) q1)
theorem e3_cbx (c : CallX3 X (.builtin id) r3) (hm : X.mg x = none) (ha : PX3 X e t) (hg : Gl X x := by rfl) (hv : bootBuiltins x = some (.builtin id) := by decide +kernel) (hn : x ≠ "__name__" := by decide) (hdb : (x == ("__debug__" : Str)) = false := by decide)
    (he : starEach [e] X.env = (false, eval e X.env) :: starEach [] X.env := by rfl) (hpl : (backTo pos (starEach [] X.env)).any (·.1) = false := by rfl) : PE3 X (.Call (.Name x p) [e] [] pos) (tB3 r3 t) := by
  obtain ⟨r, hr, w⟩ := cbx_lift c ha.mono
  exact ⟨PE.weak (pe_callB hr hg hm hv (pa_cons ha.pe pa_nil he) hn hdb he hpl) w, .cb c.mono ha.mono⟩
theorem e3_ctx (c : CallX3 X (.type T) r3) (hm : X.mg x = none) (ha : PX3 X e t) (hg : Gl X x := by rfl) (hv : bootBuiltins x = some (.type T) := by decide +kernel) (hn : x ≠ "__name__" := by decide) (hdb : (x == ("__debug__" : Str)) = false := by decide)
    (he : starEach [e] X.env = (false, eval e X.env) :: starEach [] X.env := by rfl) (hpl : (backTo pos (starEach [] X.env)).any (·.1) = false := by rfl) : PE3 X (.Call (.Name x p) [e] [] pos) (tB3 r3 t) := by
  obtain ⟨r, hr, w⟩ := cbx_lift c ha.mono
  exact ⟨PE.weak (pe_callTy hr hg hm hv (pa_cons ha.pe pa_nil he) hn hdb he hpl) w, .cb c.mono ha.mono⟩
/-! ### a call that gives a new list -/
abbrev M3 := List D → Sto → (List D → Sto → Prop) → Prop
structure CallL3 (X : Cx) (f : Value) (r3 : M3) : Prop where
  mono : ∀ xs h (Q Q' : List D → Sto → Prop), (∀ d h', Q d h' → Q' d h') → r3 xs h Q → r3 xs h Q'
  ok : ∃ r, CallR X f r ∧ ∀ m h H xs vs Q, Rep X.K m h H → RelDs X.K m H xs vs → r3 xs h (UpX X.K m H Q) → r vs H Q
structure CallLX3 (X : Cx) (f : Value) (r3 : M3) : Prop where
  mono : ∀ xs h (Q Q' : List D → Sto → Prop), (∀ d h', Q d h' → Q' d h') → r3 xs h Q → r3 xs h Q'
  ok : ∃ r, CallR X f r ∧ ∀ m h H a xs vs Q, Rep X.K m h H → H a = some (.lst vs) → RelDs X.K m H xs vs → r3 xs h (UpX X.K m H Q) → r [.ref a] H Q
def tL3 (r : M3) (ta : A3) : A3 := fun ρ h Q => ta ρ h fun xs h1 => r xs h1 Q
theorem UpX.step {K : PySem.W.Frag} {m m' : List Addr} {H H' : Hp} {h h' : Sto} (s : Step m H m' H') (R : Rep K m' h' H') {Q : VK} {d : List D} (u : UpX K m H Q d h) : UpX K m' H' Q d h := fun m2 H2 a vs st rp e n na rd => u m2 H2 a vs (s.trans st) rp e (s.none R n) na rd
theorem UpX.laid {K : PySem.W.Frag} {m : List Addr} {h : Sto} {H : Hp} {Q : VK} {xs : List D} {vs : List V} (R : Rep K m h H) (rs : RelDs K m H xs vs) (q : UpX K m H Q xs h) : ∀ p, H p = none → Q (.ref p) (upd H p (.lst vs)) := fun p hp =>
  q m _ p vs (Step.lay hp) (R.lay hp) upd_same hp (R.nonone hp) (rs.step R (Step.lay hp))
theorem MonoA.cl {r3 : M3} (mr : ∀ xs h (Q Q' : List D → Sto → Prop), (∀ d h', Q d h' → Q' d h') → r3 xs h Q → r3 xs h Q') (mt : MonoA t) : MonoA (tL3 r3 t) := fun ρ h Q Q' w q => mt _ _ _ _ (fun xs h1 q1 => mr _ _ _ _ w q1) q
theorem x3_cb {r3 : M3} (c : CallL3 X (.builtin id) r3) (hm : X.mg x = none) (ha : PA3 X (e :: es) t) (hg : Gl X x := by rfl) (hv : bootBuiltins x = some (.builtin id) := by decide +kernel) (hn : x ≠ "__name__" := by decide) (hdb : (x == ("__debug__" : Str)) = false := by decide)
    (he : starEach (e :: es) X.env = (false, eval e X.env) :: starEach es X.env := by rfl) (hpl : (backTo pos (starEach es X.env)).any (·.1) = false := by rfl) : PX3 X (.Call (.Name x p) (e :: es) [] pos) (tL3 r3 t) := by
  obtain ⟨r, hr, w⟩ := c.ok
  refine ⟨PE.weak (pe_callB hr hg hm hv ha.pe hn hdb he hpl) fun σ H Q ⟨m, h, ρ, R, S, q⟩ => ?_, .cl c.mono ha.mono⟩
  refine LA.bind ha.mono R S q fun m1 H1 vs xs h1 s1 R1 rs S1 q1 => ?_
  exact w m1 h1 H1 xs vs Q R1 rs (c.mono _ _ _ _ (fun d h' u => UpX.step s1 R1 u) q1)
theorem x3_ct {r3 : M3} (c : CallL3 X (.type T) r3) (hm : X.mg x = none) (ha : PA3 X (e :: es) t) (hg : Gl X x := by rfl) (hv : bootBuiltins x = some (.type T) := by decide +kernel) (hn : x ≠ "__name__" := by decide) (hdb : (x == ("__debug__" : Str)) = false := by decide)
    (he : starEach (e :: es) X.env = (false, eval e X.env) :: starEach es X.env := by rfl) (hpl : (backTo pos (starEach es X.env)).any (·.1) = false := by rfl) : PX3 X (.Call (.Name x p) (e :: es) [] pos) (tL3 r3 t) := by
  obtain ⟨r, hr, w⟩ := c.ok
  refine ⟨PE.weak (pe_callTy hr hg hm hv ha.pe hn hdb he hpl) fun σ H Q ⟨m, h, ρ, R, S, q⟩ => ?_, .cl c.mono ha.mono⟩
  refine LA.bind ha.mono R S q fun m1 H1 vs xs h1 s1 R1 rs S1 q1 => ?_
  exact w m1 h1 H1 xs vs Q R1 rs (c.mono _ _ _ _ (fun d h' u => UpX.step s1 R1 u) q1)
theorem x3_cbx {r3 : M3} (c : CallLX3 X (.builtin id) r3) (hm : X.mg x = none) (ha : PX3 X e t) (hg : Gl X x := by rfl) (hv : bootBuiltins x = some (.builtin id) := by decide +kernel) (hn : x ≠ "__name__" := by decide) (hdb : (x == ("__debug__" : Str)) = false := by decide)
    (he : starEach [e] X.env = (false, eval e X.env) :: starEach [] X.env := by rfl) (hpl : (backTo pos (starEach [] X.env)).any (·.1) = false := by rfl) : PX3 X (.Call (.Name x p) [e] [] pos) (tL3 r3 t) := by
  obtain ⟨r, hr, w⟩ := c.ok
  refine ⟨PE.weak (pe_callB hr hg hm hv (pa_cons ha.pe pa_nil he) hn hdb he hpl) fun σ H Q ⟨m, h, ρ, R, S, q⟩ => ?_, .cl c.mono ha.mono⟩
  refine LX.bind ha.mono R S q fun m1 H1 a vs xs h1 s1 R1 ea na hm rs S1 q1 => ?_
  exact w m1 h1 H1 a xs vs Q R1 ea rs (c.mono _ _ _ _ (fun d h' u => UpX.step s1 R1 u) q1)
end
/-! ### len, min, max, abs, int, isinstance, sum, all, any, tuple, list, sorted -/
def lenR : N3 := fun xs h Q => match xs with
  | [.str z] => z.length ≤ 16777216 ∧ Q (.int z.length) h
  | [d] => match itemsOf d h with
    | some ys => Q (.int ys.length) h
    | none => False
  | _ => False
def minR : N3 := fun xs h Q => match xs with
  | [.int i, .int j] => Q (.int (if j < i then j else i)) h
  | _ => False
def maxR : N3 := fun xs h Q => match xs with
  | [.int i, .int j] => Q (.int (if j > i then j else i)) h
  | _ => False
def absR : N3 := fun xs h Q => match xs with
  | [.int i] => Q (.int (if i < 0 then -i else i)) h
  | _ => False
def intR : N3 := fun xs h Q => match xs with
  | [.int i] => Q (.int i) h
  | [.bl k] => Q (.int (if k then 1 else 0)) h
  | _ => False
/-- the name of a thing's class -/
def tyN (d : D) (h : Sto) : Option String := match d with
  | .non => some "NoneType"
  | .bl _ => some "bool"
  | .int _ => some "int"
  | .str _ => some "str"
  | .tup _ => some "tuple"
  | .fl _ => some "list"
  | .ref n => match h[n]? with
    | some (.lst _) => some "list"
    | some (.dK _) => some "dict"
    | some (.dT _) => some "dict"
    | _ => none
  | _ => none
def isT (a T : String) : Bool := a == T || (a == "bool" && T == "int")
def isiR : N3 := fun xs h Q => match xs with
  | [x, .ty T] => (T ∈ ["int", "bool", "str", "tuple", "list", "dict"]) ∧ match tyN x h with
    | some a => Q (.bl (isT a T)) h
    | none => False
  | _ => False
def intsOf : List D → Option (List Int)
  | [] => some []
  | .int i :: r => (intsOf r).map (i :: ·)
  | _ :: _ => none
def blsOf : List D → Option (List Bool)
  | [] => some []
  | .bl i :: r => (blsOf r).map (i :: ·)
  | _ :: _ => none
theorem intsOf_map : ∀ ns : List Int, intsOf (ns.map D.int) = some ns
  | [] => rfl
  | n :: r => by simp [intsOf, intsOf_map r]
theorem blsOf_map : ∀ ns : List Bool, blsOf (ns.map D.bl) = some ns
  | [] => rfl
  | n :: r => by simp [blsOf, blsOf_map r]
theorem intsOf_eq : ∀ {xs : List D} {ns : List Int}, intsOf xs = some ns → xs = ns.map D.int
  | [], ns, e => by simp [intsOf] at e; subst e; rfl
  | .int i :: r, ns, e => by
    simp only [intsOf, Option.map_eq_some_iff] at e
    obtain ⟨ms, e, rfl⟩ := e
    rw [intsOf_eq e]; rfl
  | .non :: _, _, e => by simp [intsOf] at e
  | .bl _ :: _, _, e => by simp [intsOf] at e
  | .str _ :: _, _, e => by simp [intsOf] at e
  | .tup _ :: _, _, e => by simp [intsOf] at e
  | .fl _ :: _, _, e => by simp [intsOf] at e
  | .ref _ :: _, _, e => by simp [intsOf] at e
  | .ty _ :: _, _, e => by simp [intsOf] at e
  | .adr _ :: _, _, e => by simp [intsOf] at e
theorem blsOf_eq : ∀ {xs : List D} {ns : List Bool}, blsOf xs = some ns → xs = ns.map D.bl
  | [], ns, e => by simp [blsOf] at e; subst e; rfl
  | .bl i :: r, ns, e => by
    simp only [blsOf, Option.map_eq_some_iff] at e
    obtain ⟨ms, e, rfl⟩ := e
    rw [blsOf_eq e]; rfl
  | .non :: _, _, e => by simp [blsOf] at e
  | .int _ :: _, _, e => by simp [blsOf] at e
  | .str _ :: _, _, e => by simp [blsOf] at e
  | .tup _ :: _, _, e => by simp [blsOf] at e
  | .fl _ :: _, _, e => by simp [blsOf] at e
  | .ref _ :: _, _, e => by simp [blsOf] at e
  | .ty _ :: _, _, e => by simp [blsOf] at e
  | .adr _ :: _, _, e => by simp [blsOf] at e
def sumX : N3 := fun xs h Q => match intsOf xs with
  | some ns => Q (.int ns.sum) h
  | none => False
def allX : N3 := fun xs h Q => match blsOf xs with
  | some bs => Q (.bl (bs.all id)) h
  | none => False
def anyX : N3 := fun xs h Q => match blsOf xs with
  | some bs => Q (.bl (bs.any id)) h
  | none => False
def maxX : N3 := fun xs h Q => match intsOf xs with
  | some ns => 0 < ns.length ∧ ∀ m, m ∈ ns → (∀ y, y ∈ ns → y ≤ m) → Q (.int m) h
  | none => False
def minX : N3 := fun xs h Q => match intsOf xs with
  | some ns => 0 < ns.length ∧ ∀ m, m ∈ ns → (∀ y, y ∈ ns → m ≤ y) → Q (.int m) h
  | none => False
def tupX : N3 := fun xs h Q => Q (.tup xs) h
def lenX : N3 := fun xs h Q => Q (.int xs.length) h
/-- of a list that is a cell, by its items -/
def onL (r : N3) : N3 := fun xs h Q => match xs with
  | [d] => match listOf d h with
    | some ys => r ys h Q
    | none => False
  | _ => False
def tupR : N3 := fun xs h Q => match xs with
  | [.tup ys] => Q (.tup ys) h
  | [d] => match listOf d h with
    | some ys => Q (.tup ys) h
    | none => False
  | _ => False
def lstM : M3 := fun xs h Q => match xs with
  | [d] => match itemsOf d h with
    | some ys => Q ys h
    | none => False
  | _ => False
def srtX : M3 := fun xs h Q => match intsOf xs with
  | some ns => ∀ ns' : List Int, ns'.Perm ns → ns'.Pairwise (· ≤ ·) → Q (ns'.map .int) h
  | none => False
def onLM (r : M3) : M3 := fun xs h Q => match xs with
  | [d] => match listOf d h with
    | some ys => r ys h Q
    | none => False
  | _ => False
section
variable {X : Cx}
theorem k_len : Call3 X (.builtin "len") lenR := by
  refine ⟨fun xs h Q Q' w q => ?_, _, call_len_str.or call_len_seq, fun m h H xs vs Q R rs q => ?_⟩
  · unfold lenR at q ⊢
    split at q
    · exact ⟨q.1, w _ _ q.2⟩
    · split at q
      · exact w _ _ q
      · exact q.elim
    · exact q.elim
  · unfold lenR at q
    split at q
    · cases rs with
      | cons r rr => cases rr; cases r; exact .inl ⟨_, rfl, by rw [sizeLine_eq]; exact q.1, q.2 m H _ .refl R (.int _)⟩
    · split at q
      next ys e =>
        cases rs with
        | cons r rr =>
          cases rr
          obtain ⟨a, ws, rfl, sq, rw'⟩ := itemsOf_lift R r e
          exact .inr ⟨a, ws, rfl, sq, by rw [← rw'.length]; exact q m H _ .refl R (.int _)⟩
      next => exact q.elim
    · exact q.elim
theorem k_min (hc : X.calm = true) : Call3 X (.builtin "min") minR := by
  refine ⟨fun xs h Q Q' w q => ?_, _, call_min2 hc, fun m h H xs vs Q R rs q => ?_⟩
  · unfold minR at q ⊢
    split at q
    · exact w _ _ q
    · exact q.elim
  · unfold minR at q
    split at q
    · match vs, rs with
      | [_, _], .cons (.int i) (.cons (.int j) .nil) => exact ⟨i, j, rfl, q m H _ .refl R (.int _)⟩
    · exact q.elim
theorem k_max (hc : X.calm = true) : Call3 X (.builtin "max") maxR := by
  refine ⟨fun xs h Q Q' w q => ?_, _, call_max2 hc, fun m h H xs vs Q R rs q => ?_⟩
  · unfold maxR at q ⊢
    split at q
    · exact w _ _ q
    · exact q.elim
  · unfold maxR at q
    split at q
    · match vs, rs with
      | [_, _], .cons (.int i) (.cons (.int j) .nil) => exact ⟨i, j, rfl, q m H _ .refl R (.int _)⟩
    · exact q.elim
theorem k_abs : Call3 X (.builtin "abs") absR := by
  refine ⟨fun xs h Q Q' w q => ?_, _, call_abs, fun m h H xs vs Q R rs q => ?_⟩
  · unfold absR at q ⊢
    split at q
    · exact w _ _ q
    · exact q.elim
  · unfold absR at q
    split at q
    · match vs, rs with
      | [_], .cons (.int i) .nil => exact ⟨i, rfl, q m H _ .refl R (.int _)⟩
    · exact q.elim
theorem k_int : Call3 X (.type "int") intR := by
  refine ⟨fun xs h Q Q' w q => ?_, _, call_int1, fun m h H xs vs Q R rs q => ?_⟩
  · unfold intR at q ⊢
    split at q
    · exact w _ _ q
    · exact w _ _ q
    · exact q.elim
  · unfold intR at q
    split at q
    · match vs, rs with
      | [_], .cons (.int i) .nil => exact .inl ⟨i, rfl, q m H _ .refl R (.int _)⟩
    · match vs, rs with
      | [_], .cons (.bl i) .nil => exact .inr ⟨i, rfl, q m H _ .refl R (.int _)⟩
    · exact q.elim
theorem kitB_all : ∀ a ∈ ["NoneType", "bool", "int", "str", "tuple", "list", "dict"], ∀ T ∈ ["int", "bool", "str", "tuple", "list", "dict"], kitB a T = some (isT a T) := by decide +kernel
theorem RelD.tyx {K : PySem.W.Frag} {m : List Addr} {h : Sto} {H : Hp} {d : D} {v : V} {a : String} (R : Rep K m h H) (r : RelD K m H d v) (e : tyN d h = some a) : TyX K H v (.type a) ∧ a ∈ ["NoneType", "bool", "int", "str", "tuple", "list", "dict"] := by
  cases r with
  | non => simp [tyN] at e; subst e; exact ⟨.base .non, by simp⟩
  | bl b => simp [tyN] at e; subst e; exact ⟨.base (.bl b), by simp⟩
  | int b => simp [tyN] at e; subst e; exact ⟨.base (.int b), by simp⟩
  | str b => simp [tyN] at e; subst e; exact ⟨.base (.str b), by simp⟩
  | ty b => simp [tyN] at e
  | adr b => simp [tyN] at e
  | tup sq r =>
    simp [tyN] at e; subst e
    refine ⟨?_, by simp⟩
    exact .base (.tup sq)
  | fl sq r =>
    simp [tyN] at e; subst e
    refine ⟨?_, by simp⟩
    rcases sq with ⟨o, sq⟩ | ⟨o, its, n, k1, k2, _⟩
    · exact .base (.frz sq)
    · exact .kList k1 k2
  | ref em =>
    simp only [tyN] at e
    split at e
    next e2 =>
      cases e
      obtain ⟨vs, q, r⟩ := R.at_ _ _ _ em e2
      exact ⟨.base (.lst q), by simp⟩
    next e2 =>
      cases e
      obtain ⟨vs, q, r⟩ := R.at_ _ _ _ em e2
      exact ⟨.base (.dK q), by simp⟩
    next e2 =>
      cases e
      obtain ⟨vs, q, r⟩ := R.at_ _ _ _ em e2
      exact ⟨.base (.dT q), by simp⟩
    next => cases e
theorem k_isi : Call3 X (.builtin "isinstance") isiR := by
  refine ⟨fun xs h Q Q' w q => ?_, _, call_isi, fun m h H xs vs Q R rs q => ?_⟩
  · unfold isiR at q ⊢
    split at q
    · obtain ⟨hT, q⟩ := q
      refine ⟨hT, ?_⟩
      split at q
      · exact w _ _ q
      · exact q.elim
    · exact q.elim
  · unfold isiR at q
    split at q
    next x T =>
      obtain ⟨hT, q⟩ := q
      split at q
      next a e =>
        match vs, rs with
        | [v, _], .cons r (.cons (.ty _) .nil) =>
          obtain ⟨ty, ha⟩ := RelD.tyx R r e
          exact ⟨v, .ty T, _, _, isT a T, rfl, .ty T, ty, kit_ty (kitB_all a ha T hT), q m H _ .refl R (.bl _)⟩
      next => exact q.elim
    next => exact q.elim
theorem kx_sum (hc : X.calm = true) : CallX3 X (.builtin "sum") sumX := by
  refine ⟨fun xs h Q Q' w q => ?_, _, cr_sum hc, fun m h H a xs vs Q R ea rs q => ?_⟩
  · unfold sumX at q ⊢
    split at q
    · exact w _ _ q
    · exact q.elim
  · unfold sumX at q
    split at q
    next ns e =>
      have e1 := intsOf_eq e
      subst e1
      exact ⟨a, ns, rfl, by rw [← rs.ints]; exact .inl (.inl ea), q m H _ .refl R (.int _)⟩
    next => exact q.elim
theorem kx_all (hc : X.calm = true) : CallX3 X (.builtin "all") allX := by
  refine ⟨fun xs h Q Q' w q => ?_, _, cr_all hc, fun m h H a xs vs Q R ea rs q => ?_⟩
  · unfold allX at q ⊢
    split at q
    · exact w _ _ q
    · exact q.elim
  · unfold allX at q
    split at q
    next ns e =>
      have e1 := blsOf_eq e
      subst e1
      exact ⟨a, ns, rfl, by rw [← rs.bls]; exact .inl (.inl ea), q m H _ .refl R (.bl _)⟩
    next => exact q.elim
theorem kx_any (hc : X.calm = true) : CallX3 X (.builtin "any") anyX := by
  refine ⟨fun xs h Q Q' w q => ?_, _, cr_any hc, fun m h H a xs vs Q R ea rs q => ?_⟩
  · unfold anyX at q ⊢
    split at q
    · exact w _ _ q
    · exact q.elim
  · unfold anyX at q
    split at q
    next ns e =>
      have e1 := blsOf_eq e
      subst e1
      exact ⟨a, ns, rfl, by rw [← rs.bls]; exact .inl (.inl ea), q m H _ .refl R (.bl _)⟩
    next => exact q.elim
theorem kx_max (hc : X.calm = true) : CallX3 X (.builtin "max") maxX := by
  refine ⟨fun xs h Q Q' w q => ?_, _, cr_max hc, fun m h H a xs vs Q R ea rs q => ?_⟩
  · unfold maxX at q ⊢
    split at q
    · exact ⟨q.1, fun m hm hy => w _ _ (q.2 m hm hy)⟩
    · exact q.elim
  · unfold maxX at q
    split at q
    next ns e =>
      have e1 := intsOf_eq e
      subst e1
      exact ⟨a, ns, rfl, by rw [← rs.ints]; exact .inl (.inl ea), q.1, fun k hk hy => q.2 k hk hy m H _ .refl R (.int _)⟩
    next => exact q.elim
theorem kx_min (hc : X.calm = true) : CallX3 X (.builtin "min") minX := by
  refine ⟨fun xs h Q Q' w q => ?_, _, cr_min hc, fun m h H a xs vs Q R ea rs q => ?_⟩
  · unfold minX at q ⊢
    split at q
    · exact ⟨q.1, fun m hm hy => w _ _ (q.2 m hm hy)⟩
    · exact q.elim
  · unfold minX at q
    split at q
    next ns e =>
      have e1 := intsOf_eq e
      subst e1
      exact ⟨a, ns, rfl, by rw [← rs.ints]; exact .inl (.inl ea), q.1, fun k hk hy => q.2 k hk hy m H _ .refl R (.int _)⟩
    next => exact q.elim
theorem kx_tuple : CallX3 X (.type "tuple") tupX :=
  ⟨fun xs h Q Q' w q => w _ _ q, _, call_tuple_of, fun m h H a xs vs Q R ea rs q => ⟨a, vs, rfl, .inl ⟨.inl (.inl ea), fun l hl => q m _ (.ref l) (Step.lay hl) (R.lay hl) (.tup upd_same (rs.step R (Step.lay hl)))⟩⟩⟩
theorem kx_len : CallX3 X (.builtin "len") lenX :=
  ⟨fun xs h Q Q' w q => w _ _ q, _, call_len_seq, fun m h H a xs vs Q R ea rs q => ⟨a, vs, rfl, .inl (.inl (.inl ea)), by rw [← rs.length]; exact q m H _ .refl R (.int _)⟩⟩
theorem k_tuple : Call3 X (.type "tuple") tupR := by
  refine ⟨fun xs h Q Q' w q => ?_, _, call_tuple_of, fun m h H xs vs Q R rs q => ?_⟩
  · unfold tupR at q ⊢
    split at q
    · exact w _ _ q
    · split at q
      · exact w _ _ q
      · exact q.elim
    · exact q.elim
  · unfold tupR at q
    split at q
    · match vs, rs with
      | [_], .cons (.tup sq r) .nil => exact ⟨_, _, rfl, .inr ⟨TH sq, q m H _ .refl R (.tup sq r)⟩⟩
    · split at q
      next ys e =>
        match vs, rs with
        | [_], .cons r .nil =>
          obtain ⟨a, ws, rfl, sq, rr⟩ := listOf_lift R r e
          exact ⟨a, ws, rfl, .inl ⟨sq, fun l hl => q m _ (.ref l) (Step.lay hl) (R.lay hl) (.tup upd_same (rr.step R (Step.lay hl)))⟩⟩
      next => exact q.elim
    · exact q.elim
theorem kl_list : CallL3 X (.type "list") lstM := by
  refine ⟨fun xs h Q Q' w q => ?_, _, call_list_of, fun m h H xs vs Q R rs q => ?_⟩
  · unfold lstM at q ⊢
    split at q
    · split at q
      · exact w _ _ q
      · exact q.elim
    · exact q.elim
  · unfold lstM at q
    split at q
    · split at q
      next ys e =>
        match vs, rs with
        | [_], .cons r .nil =>
          obtain ⟨a, ws, rfl, sq, rr⟩ := itemsOf_lift R r e
          exact ⟨a, ws, rfl, sq, UpX.laid R rr q⟩
      next => exact q.elim
    · exact q.elim
theorem klx_list : CallLX3 X (.type "list") (fun xs h Q => Q xs h) :=
  ⟨fun xs h Q Q' w q => w _ _ q, _, call_list_of, fun m h H a xs vs Q R ea rs q => ⟨a, vs, rfl, .inl (.inl (.inl ea)), UpX.laid R rs q⟩⟩
theorem srt_ints {K : PySem.W.Frag} {m : List Addr} {H : Hp} (ns : List Int) : RelDs K m H (ns.map D.int) (ns.map V.int) := by
  induction ns with
  | nil => exact .nil
  | cons n r ih => exact .cons (.int n) ih
theorem klx_sorted : CallLX3 X (.builtin "sorted") srtX := by
  refine ⟨fun xs h Q Q' w q => ?_, _, cr_sortedI, fun m h H a xs vs Q R ea rs q => ?_⟩
  · unfold srtX at q ⊢
    split at q
    · exact fun ns' h1 h2 => w _ _ (q ns' h1 h2)
    · exact q.elim
  · unfold srtX at q
    split at q
    next ns e =>
      have e1 := intsOf_eq e
      subst e1
      exact ⟨a, ns, rfl, by rw [← rs.ints]; exact .inl (.inl ea), fun ns' p h1 h2 hp => UpX.laid R (srt_ints ns') (q ns' h1 h2) p hp⟩
    next => exact q.elim
theorem kl_sorted : CallL3 X (.builtin "sorted") (onLM srtX) := by
  refine ⟨fun xs h Q Q' w q => ?_, _, cr_sortedI, fun m h H xs vs Q R rs q => ?_⟩
  · unfold onLM at q ⊢
    split at q
    · split at q
      · unfold srtX at q ⊢
        split at q
        · exact fun ns' h1 h2 => w _ _ (q ns' h1 h2)
        · exact q.elim
      · exact q.elim
    · exact q.elim
  · unfold onLM at q
    split at q
    · split at q
      next ys e =>
        match vs, rs with
        | [_], .cons r .nil =>
          obtain ⟨a, ws, rfl, sq, rr⟩ := listOf_lift R r e
          unfold srtX at q
          split at q
          next ns e =>
            have e1 := intsOf_eq e
            subst e1
            exact ⟨a, ns, rfl, by rw [← rr.ints]; exact sq, fun ns' p h1 h2 hp => UpX.laid R (srt_ints ns') (q ns' h1 h2) p hp⟩
          next => exact q.elim
      next => exact q.elim
    · exact q.elim
/-- a rule over a new list serves a list that is a cell, where it hangs on the reading alone -/
theorem k_sum (hc : X.calm = true) : Call3 X (.builtin "sum") (onL sumX) := by
  refine ⟨fun xs h Q Q' w q => ?_, _, cr_sum hc, fun m h H xs vs Q R rs q => ?_⟩
  · unfold onL at q ⊢
    split at q
    · split at q
      · exact (kx_sum hc).mono _ _ _ _ w q
      · exact q.elim
    · exact q.elim
  · unfold onL at q
    split at q
    · split at q
      next ys e =>
        match vs, rs with
        | [_], .cons r .nil =>
          obtain ⟨a, ws, rfl, sq, rr⟩ := listOf_lift R r e
          unfold sumX at q
          split at q
          next ns e =>
            have e1 := intsOf_eq e
            subst e1
            exact ⟨a, ns, rfl, by rw [← rr.ints]; exact sq, q m H _ .refl R (.int _)⟩
          next => exact q.elim
      next => exact q.elim
    · exact q.elim
theorem k_max1 (hc : X.calm = true) : Call3 X (.builtin "max") (onL maxX) := by
  refine ⟨fun xs h Q Q' w q => ?_, _, cr_max hc, fun m h H xs vs Q R rs q => ?_⟩
  · unfold onL at q ⊢
    split at q
    · split at q
      · exact (kx_max hc).mono _ _ _ _ w q
      · exact q.elim
    · exact q.elim
  · unfold onL at q
    split at q
    · split at q
      next ys e =>
        match vs, rs with
        | [_], .cons r .nil =>
          obtain ⟨a, ws, rfl, sq, rr⟩ := listOf_lift R r e
          unfold maxX at q
          split at q
          next ns e =>
            have e1 := intsOf_eq e
            subst e1
            exact ⟨a, ns, rfl, by rw [← rr.ints]; exact sq, q.1, fun k hk hy => q.2 k hk hy m H _ .refl R (.int _)⟩
          next => exact q.elim
      next => exact q.elim
    · exact q.elim
theorem k_min1 (hc : X.calm = true) : Call3 X (.builtin "min") (onL minX) := by
  refine ⟨fun xs h Q Q' w q => ?_, _, cr_min hc, fun m h H xs vs Q R rs q => ?_⟩
  · unfold onL at q ⊢
    split at q
    · split at q
      · exact (kx_min hc).mono _ _ _ _ w q
      · exact q.elim
    · exact q.elim
  · unfold onL at q
    split at q
    · split at q
      next ys e =>
        match vs, rs with
        | [_], .cons r .nil =>
          obtain ⟨a, ws, rfl, sq, rr⟩ := listOf_lift R r e
          unfold minX at q
          split at q
          next ns e =>
            have e1 := intsOf_eq e
            subst e1
            exact ⟨a, ns, rfl, by rw [← rr.ints]; exact sq, q.1, fun k hk hy => q.2 k hk hy m H _ .refl R (.int _)⟩
          next => exact q.elim
      next => exact q.elim
    · exact q.elim
/-! ### methods -/
def tBits3 (to : E3) : E3 := fun ρ h Q => to ρ h fun x h1 => match x with
  | .int i => Q (.int (Builtin.Int.intBits i : Nat)) h1
  | _ => False
theorem e3_bits {o : Expr} {to : E3} {apos pos : Pos} (ho : PE3 X o to) (hbase : attributeBase o "bit_length" X.env (eval o X.env) = eval o X.env := by rfl) (hline : (apos.endLine == pos.line) = true := by rfl) : PE3 X (.Call (.Attribute o "bit_length" apos) [] [] pos) (tBits3 to) := by
  refine ⟨PE.weak (pe_bits ho.pe hbase hline) fun σ H Q ⟨m, h, ρ, R, S, q⟩ => ?_, fun ρ h Q Q' w q => ho.mono _ _ _ _ (fun d h1 q1 => ?_) q⟩
  · refine LE.bind ho.mono R S q fun m1 H1 u y h1 s1 R1 ry S1 q1 => ?_
    cases ry with
    | int i => exact ⟨i, rfl, q1 m1 H1 _ s1 R1 (.int _)⟩
    | _ => exact q1.elim
  · cases d <;> first | exact w _ _ q1 | exact q1
/-- a method of a list that is a cell: what becomes of the list, and what is told -/
abbrev T3 := List D → List D → Sto → (D → List D → Prop) → Prop
def tLM (r : T3) (to : E3) (ta : A3) : E3 := fun ρ h Q => to ρ h fun x h1 => match x with
  | .ref n => (match h1[n]? with
    | some (.lst _) => True
    | _ => False) ∧ ta ρ h1 fun ds h2 => match h2[n]? with
      | some (.lst xs) => r xs ds h2 fun d ys => Q d (h2.set n (.lst ys))
      | _ => False
  | _ => False
structure Mt3 (X : Cx) (id : String) (r3 : T3) : Prop where
  mono : ∀ xs ds h (Q Q' : D → List D → Prop), (∀ d h', Q d h' → Q' d h') → r3 xs ds h Q → r3 xs ds h Q'
  ok : ∃ r, MtM X id r ∧ ∀ m h H a xs vs ds ws Q, Rep X.K m h H → H a = some (.lst vs) → a ∈ m → RelDs X.K m H xs vs → RelDs X.K m H ds ws →
    r3 xs ds h (fun d ys => ∀ v us, RelD X.K m H d v → RelDs X.K m H ys us → Q v (upd H a (.lst us))) → r (.ref a) ws H Q
theorem MonoE.lm {r : T3} {to : E3} {ta : A3} (mr : ∀ xs ds h (Q Q' : D → List D → Prop), (∀ d h', Q d h' → Q' d h') → r xs ds h Q → r xs ds h Q') (mo : MonoE to) (ma : MonoA ta) : MonoE (tLM r to ta) := fun ρ h Q Q' w q => mo _ _ _ _ (fun x h1 q1 => by
  cases x with
  | ref n =>
    refine ⟨q1.1, ma _ _ _ _ (fun ds h2 q2 => ?_) q1.2⟩
    split at q2
    · exact mr _ _ _ _ _ (fun d ys q => w _ _ q) q2
    · exact q2.elim
  | _ => exact q1) q
theorem lm_lift {id : String} {r3 : T3} {to : E3} {ta : A3} (c : Mt3 X id r3) (mo : MonoE to) (ma : MonoA ta) : ∃ r, MtM X id r ∧ ∀ σ H Q, LE X.K (tLM r3 to ta) σ H Q → tBM X.K "list" r (LE X.K to) (LA X.K ta) σ H Q := by
  obtain ⟨r, hr, w⟩ := c.ok
  refine ⟨r, hr, fun σ H Q ⟨m, h, ρ, R, S, q⟩ => ?_⟩
  refine LE.bind mo R S q fun m1 H1 u y h1 s1 R1 ry S1 q1 => ?_
  cases ry with
  | @ref n a em =>
    obtain ⟨t1, q1⟩ := q1
    refine ⟨?_, LA.bind ma R1 S1 q1 fun m2 H2 ws ds h2 s2 R2 rs S2 q2 => ?_⟩
    · split at t1
      next xs e =>
        obtain ⟨vs, q, r⟩ := R1.at_ _ _ _ em e
        exact .inl ⟨rfl, vs, .inl (.inl q)⟩
      next => exact t1.elim
    · split at q2
      next xs e =>
        have em2 := s2.get em
        obtain ⟨vs, ea, rx⟩ := R2.at_ _ _ _ em2 e
        have hm : a ∈ m2 := List.mem_of_getElem? em2
        refine w m2 h2 H2 a xs vs ds ws Q R2 ea hm rx rs (c.mono _ _ _ _ _ (fun d ys u v us rd ry => ?_) q2)
        exact u m2 _ v ((s1.trans s2).trans (Step.put hm)) (R2.put em2 ⟨us, upd_same, ry.step R2 (Step.put hm)⟩) (rd.step R2 (Step.put hm))
      next => exact q2.elim
  | _ => exact q1.elim
theorem e3_lm {o e : Expr} {es : List Expr} {name : Str} {id : String} {apos cpos : Pos} {r3 : T3} {to : E3} {ta : A3} (c : Mt3 X id r3) (slot : Slot "list" name id) (hty : typeOf (.builtin id) = pure (.type "method_descriptor")) (ho : PE3 X o to) (ha : PA3 X (e :: es) ta)
    (hbase : attributeBase o name X.env (eval o X.env) = eval o X.env := by rfl)
    (hfew : ((backTo cpos (starEach (e :: es) X.env)).all (fun x => !x.1) && (backToKw cpos (keywordEach [] X.env)).all (fun x => x.1.isSome)
      && decide ((e :: es).length + ([] : List Keyword).length + (if ([] : List Keyword).isEmpty then 0 else 1) < 30)) = true := by rfl)
    (hline : (apos.endLine == cpos.line) = true := by rfl) (hs : starEach (e :: es) X.env = (false, eval e X.env) :: starEach es X.env := by rfl) (hplain : (backTo cpos (starEach es X.env)).any (·.1) = false := by rfl) :
    PE3 X (.Call (.Attribute o name apos) (e :: es) [] cpos) (tLM r3 to ta) := by
  obtain ⟨r, hr, w⟩ := lm_lift c ho.mono ha.mono
  exact ⟨PE.weak (pe_bm PySem.F.plainAttrs_list slot hty hr ho.pe ha.pe hbase hfew hline hs hplain) w, .lm c.mono ho.mono ha.mono⟩
theorem MonoA.n3 : MonoA tN3 := fun ρ h Q Q' w q => w _ _ q
theorem e3_lm0 {o : Expr} {name : Str} {id : String} {apos cpos : Pos} {r3 : T3} {to : E3} (c : Mt3 X id r3) (slot : Slot "list" name id) (hty : typeOf (.builtin id) = pure (.type "method_descriptor")) (ho : PE3 X o to)
    (hbase : attributeBase o name X.env (eval o X.env) = eval o X.env := by rfl) (hline : (apos.endLine == cpos.line) = true := by rfl) :
    PE3 X (.Call (.Attribute o name apos) [] [] cpos) (tLM r3 to tN3) := by
  obtain ⟨r, hr, w⟩ := lm_lift c ho.mono MonoA.n3
  refine ⟨PE.weak (pe_bm0 PySem.F.plainAttrs_list slot hty hr ho.pe hbase hline) fun σ H Q q => ?_, .lm c.mono ho.mono MonoA.n3⟩
  obtain ⟨m, h, ρ, R, S, q⟩ := w σ H Q q
  refine ⟨m, h, ρ, R, S, ho.mono _ _ _ _ (fun d h1 q1 m1 H1 v s1 R1 rd => ?_) q⟩
  obtain ⟨t1, m2, h2, ρ2, R2, S2, q2⟩ := q1 m1 H1 v s1 R1 rd
  exact ⟨t1, q2 m2 H1 [] .refl R2 .nil⟩
def appT : T3 := fun xs ds _ Q => match ds with
  | [y] => xs.length < 16777216 ∧ Q .non (xs ++ [y])
  | _ => False
def extT : T3 := fun xs ds h Q => match ds with
  | [.ref n] => match h[n]? with
    | some (.lst zs) => xs.length + zs.length ≤ 16777216 ∧ Q .non (xs ++ zs)
    | _ => False
  | _ => False
def popT : T3 := fun xs ds _ Q => match ds with
  | [] => match xs[xs.length - 1]? with
    | some y => Q y xs.dropLast
    | none => False
  | _ => False
def popAtT : T3 := fun xs ds _ Q => match ds with
  | [.int i] => (-(2 ^ 63) ≤ i ∧ i < 2 ^ 63) ∧ match seqIndex? i xs.length with
    | some k => (match xs[k]? with
      | some y => Q y (xs.eraseIdx k)
      | none => False)
    | none => False
  | _ => False
def revT : T3 := fun xs ds _ Q => match ds with
  | [] => Q .non xs.reverse
  | _ => False
theorem m_append : Mt3 X "list.append" appT := by
  refine ⟨fun xs ds h Q Q' w q => ?_, _, mt_append, fun m h H a xs vs ds ws Q R ea hm rx rs q => ?_⟩
  · unfold appT at q ⊢
    split at q
    · exact ⟨q.1, w _ _ q.2⟩
    · exact q.elim
  · unfold appT at q
    split at q
    · match ws, rs with
      | [v], .cons r .nil => exact ⟨a, vs, v, rfl, rfl, ea, by rw [sizeLine_eq, ← rx.length]; exact q.1, q.2 _ _ .non (rx.append (.cons r .nil))⟩
    · exact q.elim
theorem m_pop : Mt3 X "list.pop" popT := by
  refine ⟨fun xs ds h Q Q' w q => ?_, _, mt_pop, fun m h H a xs vs ds ws Q R ea hm rx rs q => ?_⟩
  · unfold popT at q ⊢
    split at q
    · split at q
      · exact w _ _ q
      · exact q.elim
    · exact q.elim
  · unfold popT at q
    split at q
    · split at q
      next y ey =>
        cases rs
        rw [rx.length] at ey
        obtain ⟨v, ev, rv⟩ := rx.get ey
        exact ⟨a, vs, v, rfl, rfl, ea, ev, q _ _ rv rx.dropLast⟩
      next => exact q.elim
    · exact q.elim
theorem m_popAt : Mt3 X "list.pop" popAtT := by
  refine ⟨fun xs ds h Q Q' w q => ?_, _, mt_popAt, fun m h H a xs vs ds ws Q R ea hm rx rs q => ?_⟩
  · unfold popAtT at q ⊢
    split at q
    · refine ⟨q.1, ?_⟩
      have q2 := q.2
      split at q2
      · split at q2
        · exact w _ _ q2
        · exact q2.elim
      · exact q2.elim
    · exact q.elim
  · unfold popAtT at q
    split at q
    next i =>
      obtain ⟨hb, q2⟩ := q
      split at q2
      next k ek =>
        split at q2
        next y ey =>
          match ws, rs with
          | [_], .cons (.int _) .nil =>
            obtain ⟨v, ev, rv⟩ := rx.get ey
            exact ⟨a, vs, i, k, v, rfl, rfl, ea, hb.1, hb.2, by rw [← rx.length]; exact ek, ev, q2 _ _ rv (rx.erase k)⟩
        next => exact q2.elim
      next => exact q2.elim
    next => exact q.elim
theorem m_reverse : Mt3 X "list.reverse" revT := by
  refine ⟨fun xs ds h Q Q' w q => ?_, _, mt_reverse, fun m h H a xs vs ds ws Q R ea hm rx rs q => ?_⟩
  · unfold revT at q ⊢
    split at q
    · exact w _ _ q
    · exact q.elim
  · unfold revT at q
    split at q
    · cases rs
      exact ⟨a, vs, rfl, rfl, ea, q _ _ .non rx.reverse⟩
    · exact q.elim
theorem m_extend : Mt3 X "list.extend" extT := by
  refine ⟨fun xs ds h Q Q' w q => ?_, _, mt_extend, fun m h H a xs vs ds ws Q R ea hm rx rs q => ?_⟩
  · unfold extT at q ⊢
    split at q
    · split at q
      · exact ⟨q.1, w _ _ q.2⟩
      · exact q.elim
    · exact q.elim
  · unfold extT at q
    split at q
    · split at q
      next zs e =>
        match ws, rs with
        | [_], .cons r .nil =>
          obtain ⟨b, us, rfl, _, eb, r2⟩ := RelD.inst R r e
          exact ⟨a, b, vs, us, rfl, rfl, ea, eb, by rw [sizeLine_eq, ← rx.length, ← r2.length]; exact q.1, q.2 _ _ .non (rx.append r2)⟩
      next => exact q.elim
    · exact q.elim
end
end F3
/-! FI: small helps: targets, list(range(..)), promises in one form, the law's start, loops by invariants. -/
namespace F3
open PySem PySem.Spec PyProof.Rows L2

theorem gm_n {i : Nat} : ∀ d ρ h (Q Q' : S3 → Sto → Prop), (∀ ρ h, Q ρ h → Q' ρ h) → gN i d ρ h Q → gN i d ρ h Q' := fun d ρ h Q Q' w q => w _ _ q
theorem gm_nil : ∀ d ρ h (Q Q' : S3 → Sto → Prop), (∀ ρ h, Q ρ h → Q' ρ h) → gNil3 d ρ h Q → gNil3 d ρ h Q' := fun d ρ h Q Q' w q => by
  cases d with
  | nil => exact w _ _ q
  | cons a b => exact q
theorem gm_cons {g : G3} {r : Gs3} (h1 : ∀ d ρ h (Q Q' : S3 → Sto → Prop), (∀ ρ h, Q ρ h → Q' ρ h) → g d ρ h Q → g d ρ h Q') (h2 : ∀ d ρ h (Q Q' : S3 → Sto → Prop), (∀ ρ h, Q ρ h → Q' ρ h) → r d ρ h Q → r d ρ h Q') :
    ∀ d ρ h (Q Q' : S3 → Sto → Prop), (∀ ρ h, Q ρ h → Q' ρ h) → gCons3 g r d ρ h Q → gCons3 g r d ρ h Q' := fun d ρ h Q Q' w q => by
  cases d with
  | nil => exact q
  | cons a b => exact h1 _ _ _ _ _ (fun _ _ q => h2 _ _ _ _ _ w q) q
theorem gm_tup {n : Nat} {r : Gs3} (h2 : ∀ d ρ h (Q Q' : S3 → Sto → Prop), (∀ ρ h, Q ρ h → Q' ρ h) → r d ρ h Q → r d ρ h Q') :
    ∀ d ρ h (Q Q' : S3 → Sto → Prop), (∀ ρ h, Q ρ h → Q' ρ h) → gTup3 n r d ρ h Q → gTup3 n r d ρ h Q' := fun d ρ h Q Q' w q => by
  cases d with
  | tup xs => exact ⟨q.1, h2 _ _ _ _ _ w q.2⟩
  | _ => exact q

/-! ### promises in one form -/
/-- called with the arguments of a, where pre holds, any end that res tells -/
def spR {α : Type} (args : α → List D) (pre : α → Sto → Prop) (res : α → Sto → D → Sto → Prop) : Sp3 := fun ds h Q _ => ∃ a, ds = args a ∧ pre a h ∧ ∀ d h', res a h d h' → Q d h'
theorem mono_spR {α : Type} {args : α → List D} {pre : α → Sto → Prop} {res : α → Sto → D → Sto → Prop} : MonoS (spR args pre res) := fun ds h Q Q' E E' w _ ⟨a, e, p, q⟩ => ⟨a, e, p, fun d h' r => w _ _ (q d h' r)⟩
theorem len_spR {α : Type} {args : α → List D} {pre : α → Sto → Prop} {res : α → Sto → D → Sto → Prop} {n : Nat} (hl : ∀ a, (args a).length = n) : ∀ ds h Q E, spR args pre res ds h Q E → ds.length = n := fun ds h Q E ⟨a, e, _⟩ => by rw [e]; exact hl a
/-- the same where the end is one alone -/
def spD {α : Type} (args : α → List D) (pre : α → Sto → Prop) (val : α → Sto → D) (sto : α → Sto → Sto) : Sp3 := fun ds h Q _ => ∃ a, ds = args a ∧ pre a h ∧ Q (val a h) (sto a h)
theorem mono_spD {α : Type} {args : α → List D} {pre : α → Sto → Prop} {val : α → Sto → D} {sto : α → Sto → Sto} : MonoS (spD args pre val sto) := fun ds h Q Q' E E' w _ ⟨a, e, p, q⟩ => ⟨a, e, p, w _ _ q⟩
theorem len_spD {α : Type} {args : α → List D} {pre : α → Sto → Prop} {val : α → Sto → D} {sto : α → Sto → Sto} {n : Nat} (hl : ∀ a, (args a).length = n) : ∀ ds h Q E, spD args pre val sto ds h Q E → ds.length = n := fun ds h Q E ⟨a, e, _⟩ => by rw [e]; exact hl a
/-- the law: a script of at most 63 ints, True told -/
def sp_law : Sp3 := fun ds h Q _ => ∃ ns : List Int, ds = [.fl (ns.map .int)] ∧ ns.length ≤ 63 ∧ h = [] ∧ ∀ h', Q (.bl true) h'
theorem mono_law : MonoS sp_law := fun ds h Q Q' E E' w _ ⟨a, e, p, r, q⟩ => ⟨a, e, p, r, fun h' => w _ _ (q h')⟩
theorem len_law : ∀ ds h Q E, sp_law ds h Q E → ds.length = 1 := fun ds h Q E ⟨a, e, _⟩ => by rw [e]; rfl
theorem law_start {K : PySem.W.Frag} {H : Hp} {a : Addr} {ns : List Int} (hl : ns.length ≤ 63) (o : Only H) (s : SqL K H a (ns.map V.int)) {E : XK} (_ : True) : LSp K sp_law [.ref a] H (fun v _ => v = .bl true) E :=
  ⟨[], [], [.fl (ns.map .int)], ⟨rfl, List.nodup_nil, fun n b c e => by simp at e⟩, .cons (script3 o s) .nil, ns, rfl, hl, rfl, fun h' m' H' v _ _ r => by cases r; rfl⟩
theorem start_law : True := trivial

/-! ### loops by invariants -/
/-- a for: what holds ahead of each turn, by what is left -/
theorem forI_inv {g : G3} {b : C3} {st : Sto → Prop} {E : Ends3} (Inv : List D → S3 → Sto → Prop) (hs : ∀ xs ρ h, Inv xs ρ h → st h) (h0 : ∀ ρ h, Inv [] ρ h → E.nx ρ h)
    (h1 : ∀ x r ρ h, Inv (x :: r) ρ h → g x ρ h fun ρ' h' => b { E with nx := Inv r, ct := Inv r, bk := E.nx } ρ' h')
    (mg : ∀ d ρ h (Q Q' : S3 → Sto → Prop), (∀ ρ h, Q ρ h → Q' ρ h) → g d ρ h Q → g d ρ h Q') (mb : MonoC b) : ∀ xs ρ h, Inv xs ρ h → forI g b st E xs ρ h
  | [], ρ, h, i => ⟨hs _ _ _ i, h0 _ _ i⟩
  | x :: r, ρ, h, i => ⟨hs _ _ _ i, mg _ _ _ _ _ (fun ρ' h' q => mb { E with nx := Inv r, ct := Inv r, bk := E.nx } _ _ _ ⟨fun ρ h i => forI_inv Inv hs h0 h1 mg mb r ρ h i, fun _ _ q => q, fun _ _ q => q, fun ρ h i => forI_inv Inv hs h0 h1 mg mb r ρ h i⟩ q) (h1 x r ρ h i)⟩

/-! ### list(range(..)), list(reversed(..)) -/
def xIt (it : I3) : A3 := fun ρ h Q => it ρ h fun xs _ h1 => Q xs h1
end F3
/-! FJ: the readings' rows for the simplifier: each rule at values of a known kind. -/
namespace F3
open PySem PySem.Spec PyProof.Rows L2

section
variable {h : Sto} {Q : DK} {i j : Int} {a b : Bool} {x y : Str} {xs ys : List D} {n m : Nat} {d e : D} {ρ : S3}
/-- what stands at a cell that is a list -/
def onLst (o : Option Cell) (k : List D → Prop) : Prop := match o with
  | some (.lst xs) => k xs
  | _ => False
theorem onLst_some {k : List D → Prop} : onLst (some (.lst xs)) k = k xs := rfl
theorem addR_ii : addR (.int i) (.int j) h Q = Q (.int (i + j)) h := rfl
theorem addR_ss : addR (.str x) (.str y) h Q = (x.length + y.length ≤ 16777216 ∧ Q (.str (x ++ y)) h) := rfl
theorem addR_tt : addR (.tup xs) (.tup ys) h Q = (xs ≠ [] ∧ xs.length + ys.length ≤ 16777216 ∧ Q (.tup (xs ++ ys)) h) := rfl
theorem addR_rr : addR (.ref n) (.ref m) h Q = onLst h[n]? fun xs => onLst h[m]? fun ys => xs.length + ys.length ≤ 16777216 ∧ Q (.ref h.length) (h ++ [.lst (xs ++ ys)]) := by
  unfold addR onLst
  simp only
  cases h[n]? with
  | none => rfl
  | some c =>
    cases c with
    | lst xs =>
      cases h[m]? with
      | none => rfl
      | some c => cases c <;> rfl
    | _ => rfl
theorem subR_ii : subR (.int i) (.int j) h Q = Q (.int (i - j)) h := rfl
theorem mulR_ii : mulR (.int i) (.int j) h Q = (mulOk i j ∧ Q (.int (i * j)) h) := rfl
theorem mulR_ri : mulR (.ref n) (.int j) h Q = onLst h[n]? fun xs => (-(2 ^ 63) ≤ j ∧ j < 2 ^ 63 ∧ xs.length * j.toNat ≤ 16777216) ∧ Q (.ref h.length) (h ++ [.lst (List.replicate j.toNat xs).flatten]) := rfl
theorem divR_ii : divR (.int i) (.int j) h Q = (divOk j ∧ Q (.int (i / j)) h) := rfl
theorem modR_ii : modR (.int i) (.int j) h Q = (0 < j ∧ Q (.int (i % j)) h) := rfl
theorem powR_ii : powR (.int i) (.int j) h Q = ((0 ≤ j ∧ j ≤ 1000000 ∧ i.natAbs < 2 ^ 64) ∧ Q (.int (i ^ j.toNat)) h) := rfl
theorem ltR_ii : ltR (.int i) (.int j) h Q = Q (.bl (decide (i < j))) h := rfl
theorem leR_ii : leR (.int i) (.int j) h Q = Q (.bl (decide (i ≤ j))) h := rfl
theorem gtR_ii : gtR (.int i) (.int j) h Q = Q (.bl (decide (j < i))) h := rfl
theorem geR_ii : geR (.int i) (.int j) h Q = Q (.bl (decide (j ≤ i))) h := rfl
theorem negR_i : negR (.int i) h Q = Q (.int (-i)) h := rfl
/-- == by the data -/
def eqP (o p : Option PyData) (k : Bool → Prop) : Prop := match o, p with
  | some p, some q => k (PyData.eqv p q)
  | _, _ => False
theorem eqP_some {p q : PyData} {k : Bool → Prop} : eqP (some p) (some q) k = k (PyData.eqv p q) := rfl
theorem eqR_ii : eqR (.int i) (.int j) h Q = Q (.bl (decide (i = j))) h := rfl
theorem neR_ii : neR (.int i) (.int j) h Q = Q (.bl (!decide (i = j))) h := rfl
theorem eqR_bb : eqR (.bl a) (.bl b) h Q = Q (.bl (a == b)) h := rfl
theorem neR_bb : neR (.bl a) (.bl b) h Q = Q (.bl (!(a == b))) h := rfl
theorem eqR_gen (hd : ∀ i j, d = .int i → e = .int j → False) : eqR d e h Q = eqP (toP h 9 d) (toP h 9 e) fun b => Q (.bl b) h := by
  unfold eqR eqP
  split
  · exact (hd _ _ rfl rfl).elim
  · rfl
theorem neR_gen (hd : ∀ i j, d = .int i → e = .int j → False) : neR d e h Q = eqP (toP h 9 d) (toP h 9 e) fun b => Q (.bl (!b)) h := by
  unfold neR eqP
  split
  · exact (hd _ _ rfl rfl).elim
  · rfl
theorem eqR_te : eqR (.tup xs) e h Q = eqP (toP h 9 (.tup xs)) (toP h 9 e) fun b => Q (.bl b) h := eqR_gen (by simp)
theorem neR_te : neR (.tup xs) e h Q = eqP (toP h 9 (.tup xs)) (toP h 9 e) fun b => Q (.bl (!b)) h := neR_gen (by simp)
theorem eqR_re : eqR (.ref n) e h Q = eqP (toP h 9 (.ref n)) (toP h 9 e) fun b => Q (.bl b) h := eqR_gen (by simp)
theorem neR_re : neR (.ref n) e h Q = eqP (toP h 9 (.ref n)) (toP h 9 e) fun b => Q (.bl (!b)) h := neR_gen (by simp)
theorem eqR_se : eqR (.str x) e h Q = eqP (toP h 9 (.str x)) (toP h 9 e) fun b => Q (.bl b) h := eqR_gen (by simp)
theorem neR_se : neR (.str x) e h Q = eqP (toP h 9 (.str x)) (toP h 9 e) fun b => Q (.bl (!b)) h := neR_gen (by simp)
theorem eqR_ne : eqR .non e h Q = eqP (toP h 9 .non) (toP h 9 e) fun b => Q (.bl b) h := eqR_gen (by simp)
theorem neR_ne : neR .non e h Q = eqP (toP h 9 .non) (toP h 9 e) fun b => Q (.bl (!b)) h := neR_gen (by simp)
theorem isR_n : isR d .non h Q = Q (.bl d.isN) h := rfl
theorem isnR_n : isnR d .non h Q = Q (.bl (!d.isN)) h := rfl
theorem isR_bb : isR (.bl a) (.bl b) h Q = Q (.bl (decide (a = b))) h := rfl
theorem isnR_bb : isnR (.bl a) (.bl b) h Q = Q (.bl (!decide (a = b))) h := rfl
theorem isN_non : D.isN .non = true := rfl
theorem isN_int : D.isN (.int i) = false := rfl
theorem isN_tup : D.isN (.tup xs) = false := rfl
theorem isN_ref : D.isN (.ref n) = false := rfl
theorem isN_bl : D.isN (.bl a) = false := rfl
theorem isN_str : D.isN (.str x) = false := rfl
theorem itemsOf_t : itemsOf (.tup xs) h = some xs := rfl
theorem itemsOf_f : itemsOf (.fl xs) h = some xs := rfl
theorem itemsOf_r (e : h[n]? = some (.lst xs)) : itemsOf (.ref n) h = some xs := by unfold itemsOf; simp only [e]
theorem listOf_f : listOf (.fl xs) h = some xs := rfl
theorem listOf_r (e : h[n]? = some (.lst xs)) : listOf (.ref n) h = some xs := by unfold listOf; simp only [e]
theorem ixR_ti : ixR (.tup xs) (.int i) h Q = atD xs i fun d => Q d h := rfl
theorem ixR_fi : ixR (.fl xs) (.int i) h Q = atD xs i fun d => Q d h := rfl
theorem ixR_ri : ixR (.ref n) (.int i) h Q = onLst h[n]? fun xs => atD xs i fun d => Q d h := by
  unfold ixR onLst itemsOf
  simp only
  cases h[n]? with
  | none => rfl
  | some c => cases c <;> rfl
theorem ixR_si : ixR (.str x) (.int i) h Q = (x.length ≤ 16777216 ∧ (match atI x.cps.toList i with | some c => Q (.str ⟨#[c]⟩) h | none => False)) := rfl
theorem atD_of {k : D → Prop} (e : atI xs i = some d) : atD xs i k = k d := by unfold atD; rw [e]
theorem atD_all {k : D → Prop} (h0 : 0 ≤ i) (h1 : i < xs.length) (q : ∀ d ∈ xs, k d) : atD xs i k := by
  have e : atI xs i = xs[i.toNat]? := by
    unfold atI ixN
    rw [if_pos h0, if_pos h1]; rfl
  have hl : i.toNat < xs.length := by omega
  rw [atD_of (e.trans (List.getElem?_eq_getElem hl))]
  exact q _ (List.getElem_mem _)
theorem atD_0 {k : D → Prop} : atD (d :: xs) 0 k = k d := by
  have : atI (d :: xs) 0 = some d := by
    unfold atI ixN
    rw [if_pos (by decide), if_pos (by simp only [List.length_cons]; omega)]; rfl
  unfold atD; rw [this]
theorem atD_s {k : D → Prop} {i : Int} (hi : 0 ≤ i) : atD (d :: xs) (i + 1) k = atD xs i k := by
  have : atI (d :: xs) (i + 1) = atI xs i := by
    unfold atI ixN
    rw [if_pos (by omega), if_pos hi]
    by_cases hl : i < xs.length
    · rw [if_pos (by simp only [List.length_cons]; omega), if_pos hl, show (i + 1).toNat = i.toNat + 1 by omega]; rfl
    · rw [if_neg (by simp only [List.length_cons]; omega), if_neg hl]; rfl
  unfold atD; rw [this]
theorem atD_1 {k : D → Prop} : atD (d :: xs) 1 k = atD xs 0 k := atD_s (i := 0) (by decide)
theorem atD_2 {k : D → Prop} : atD (d :: xs) 2 k = atD xs 1 k := atD_s (i := 1) (by decide)
theorem atD_3 {k : D → Prop} : atD (d :: xs) 3 k = atD xs 2 k := atD_s (i := 2) (by decide)
theorem atD_last {k : D → Prop} : atD (xs ++ [d]) (-1) k = k d := by
  unfold atD
  rw [atI_last]
theorem setR_ri {Q : Sto → Prop} : setR (.ref n) (.int i) d h Q = onLst h[n]? fun xs => (match ixN xs.length i with | some j => Q (h.set n (.lst (xs.set j d))) | none => False) := rfl
theorem ixN2_0 : ixN 2 0 = some 0 := rfl
theorem ixN2_1 : ixN 2 1 = some 1 := rfl
theorem ixN1_0 : ixN 1 0 = some 0 := rfl
theorem slR_t {lo hi : Option Int} : slR (.tup xs) lo hi h Q = (¬ (HT.sIx xs.length 0 lo = 0 ∧ HT.sIx xs.length xs.length hi = xs.length) ∧ Q (.tup (cutD xs lo hi)) h) := rfl
theorem slR_f {lo hi : Option Int} : slR (.fl xs) lo hi h Q = Q (.ref h.length) (h ++ [.lst (cutD xs lo hi)]) := rfl
theorem slR_r {lo hi : Option Int} : slR (.ref n) lo hi h Q = onLst h[n]? fun xs => Q (.ref h.length) (h ++ [.lst (cutD xs lo hi)]) := by
  unfold slR onLst listOf
  simp only
  cases h[n]? with
  | none => rfl
  | some c => cases c <;> rfl
theorem slR_s {lo hi : Option Int} : slR (.str x) lo hi h Q = (x.length ≤ 16777216 ∧ Q (.str (cutS x lo hi)) h) := rfl
theorem oSo_i {t : E3} {Q : Option Int → Sto → Prop} : oSo t ρ h Q = t ρ h fun d h1 => match d with | .int i => Q (some i) h1 | _ => False := rfl
theorem lenR_s : lenR [.str x] h Q = (x.length ≤ 16777216 ∧ Q (.int x.length) h) := rfl
theorem lenR_t : lenR [.tup xs] h Q = Q (.int xs.length) h := rfl
theorem lenR_f : lenR [.fl xs] h Q = Q (.int xs.length) h := rfl
theorem lenR_r : lenR [.ref n] h Q = onLst h[n]? fun xs => Q (.int xs.length) h := by
  unfold lenR onLst itemsOf
  simp only
  cases h[n]? with
  | none => rfl
  | some c => cases c <;> rfl
theorem minR_ii : minR [.int i, .int j] h Q = Q (.int (if j < i then j else i)) h := rfl
theorem maxR_ii : maxR [.int i, .int j] h Q = Q (.int (if j > i then j else i)) h := rfl
theorem absR_i : absR [.int i] h Q = Q (.int (if i < 0 then -i else i)) h := rfl
theorem intR_i : intR [.int i] h Q = Q (.int i) h := rfl
theorem intR_b : intR [.bl a] h Q = Q (.int (if a then 1 else 0)) h := rfl
/-- isinstance, by the names of the classes -/
def isB (o : Option String) (T : String) (k : Bool → Prop) : Prop := match o with
  | some a => k (isT a T)
  | none => False
theorem isB_some {s T : String} {k : Bool → Prop} : isB (some s) T k = k (isT s T) := rfl
theorem isiR_gen {T : String} (hT : T ∈ ["int", "bool", "str", "tuple", "list", "dict"]) : isiR [d, .ty T] h Q = isB (tyN d h) T fun b => Q (.bl b) h := by
  have e : isiR [d, .ty T] h Q = (T ∈ ["int", "bool", "str", "tuple", "list", "dict"] ∧ isB (tyN d h) T fun b => Q (.bl b) h) := rfl
  rw [e]
  exact propext ⟨fun q => q.2, fun q => ⟨hT, q⟩⟩
theorem isiR_int : isiR [d, .ty "int"] h Q = isB (tyN d h) "int" fun b => Q (.bl b) h := isiR_gen (by decide)
theorem isiR_bool : isiR [d, .ty "bool"] h Q = isB (tyN d h) "bool" fun b => Q (.bl b) h := isiR_gen (by decide)
theorem isiR_str : isiR [d, .ty "str"] h Q = isB (tyN d h) "str" fun b => Q (.bl b) h := isiR_gen (by decide)
theorem isiR_tuple : isiR [d, .ty "tuple"] h Q = isB (tyN d h) "tuple" fun b => Q (.bl b) h := isiR_gen (by decide)
theorem isiR_list : isiR [d, .ty "list"] h Q = isB (tyN d h) "list" fun b => Q (.bl b) h := isiR_gen (by decide)
theorem isiR_dict : isiR [d, .ty "dict"] h Q = isB (tyN d h) "dict" fun b => Q (.bl b) h := isiR_gen (by decide)
theorem tyN_non : tyN .non h = some "NoneType" := rfl
theorem tyN_bl : tyN (.bl a) h = some "bool" := rfl
theorem tyN_int : tyN (.int i) h = some "int" := rfl
theorem tyN_str : tyN (.str x) h = some "str" := rfl
theorem tyN_tup : tyN (.tup xs) h = some "tuple" := rfl
theorem tyN_fl : tyN (.fl xs) h = some "list" := rfl
theorem tyN_r (e : h[n]? = some (.lst xs)) : tyN (.ref n) h = some "list" := by unfold tyN; simp only [e]
theorem isT_1 : isT "bool" "int" = true := by decide
theorem isT_2 : isT "bool" "bool" = true := by decide
theorem isT_3 : isT "int" "int" = true := by decide
theorem isT_4 : isT "int" "bool" = false := by decide
theorem isT_5 : isT "tuple" "tuple" = true := by decide
theorem isT_6 : isT "list" "list" = true := by decide
theorem isT_7 : isT "str" "str" = true := by decide
theorem isT_8 : isT "tuple" "list" = false := by decide
theorem isT_9 : isT "list" "tuple" = false := by decide
theorem isT_10 : isT "tuple" "int" = false := by decide
theorem isT_11 : isT "list" "int" = false := by decide
theorem isT_12 : isT "str" "int" = false := by decide
theorem isT_13 : isT "NoneType" "int" = false := by decide
theorem isT_14 : isT "int" "tuple" = false := by decide
theorem isT_15 : isT "bool" "tuple" = false := by decide
theorem isT_16 : isT "str" "tuple" = false := by decide
theorem isT_17 : isT "NoneType" "tuple" = false := by decide
theorem isT_18 : isT "int" "list" = false := by decide
theorem isT_19 : isT "bool" "list" = false := by decide
theorem isT_20 : isT "str" "list" = false := by decide
theorem isT_21 : isT "NoneType" "list" = false := by decide
theorem isT_22 : isT "tuple" "bool" = false := by decide
theorem isT_23 : isT "list" "bool" = false := by decide
theorem isT_24 : isT "str" "bool" = false := by decide
theorem isT_25 : isT "NoneType" "bool" = false := by decide
theorem isT_26 : isT "int" "str" = false := by decide
theorem isT_27 : isT "bool" "str" = false := by decide
theorem isT_28 : isT "tuple" "str" = false := by decide
theorem isT_29 : isT "list" "str" = false := by decide
theorem isT_30 : isT "NoneType" "str" = false := by decide
theorem onL_f {r : N3} : onL r [.fl xs] h Q = r xs h Q := rfl
theorem onL_r {r : N3} : onL r [.ref n] h Q = onLst h[n]? fun xs => r xs h Q := by
  unfold onL onLst listOf
  simp only
  cases h[n]? with
  | none => rfl
  | some c => cases c <;> rfl
theorem tupR_t : tupR [.tup xs] h Q = Q (.tup xs) h := rfl
theorem tupR_f : tupR [.fl xs] h Q = Q (.tup xs) h := rfl
theorem tupR_r : tupR [.ref n] h Q = onLst h[n]? fun xs => Q (.tup xs) h := by
  unfold tupR onLst listOf
  simp only
  cases h[n]? with
  | none => rfl
  | some c => cases c <;> rfl
theorem lstM_t {Q : List D → Sto → Prop} : lstM [.tup xs] h Q = Q xs h := rfl
theorem lstM_f {Q : List D → Sto → Prop} : lstM [.fl xs] h Q = Q xs h := rfl
theorem lstM_r {Q : List D → Sto → Prop} : lstM [.ref n] h Q = onLst h[n]? fun xs => Q xs h := by
  unfold lstM onLst itemsOf
  simp only
  cases h[n]? with
  | none => rfl
  | some c => cases c <;> rfl
theorem onLM_f {r : M3} {Q : List D → Sto → Prop} : onLM r [.fl xs] h Q = r xs h Q := rfl
theorem onLM_r {r : M3} {Q : List D → Sto → Prop} : onLM r [.ref n] h Q = onLst h[n]? fun xs => r xs h Q := by
  unfold onLM onLst listOf
  simp only
  cases h[n]? with
  | none => rfl
  | some c => cases c <;> rfl
/-! ### truths -/
def ifB (d : D) (A B : Prop) : Prop := match d with
  | .bl true => A
  | .bl false => B
  | _ => False
theorem ifB_b {A B : Prop} : ifB (.bl a) A B = (if a = true then A else B) := by cases a <;> simp [ifB]
theorem tAndE_eq {ta tb : E3} : tAndE ta tb ρ h Q = ta ρ h fun x h1 => ifB x (tb ρ h1 Q) (Q (.bl false) h1) := rfl
theorem tOrE_eq {ta tb : E3} : tOrE ta tb ρ h Q = ta ρ h fun x h1 => ifB x (Q (.bl true) h1) (tb ρ h1 Q) := rfl
theorem tCh_eq {r r' : R3} {ta tb tc : E3} : tCh r r' ta tb tc ρ h Q = ta ρ h fun x h1 => tb ρ h1 fun y h2 => r x y h2 fun z h3 => ifB z (tc ρ h3 fun w h4 => r' y w h4 Q) (Q (.bl false) h3) := rfl
/-! ### walked things -/
def iSeqD (d : D) (h : Sto) (Q : List D → (Sto → Prop) → Sto → Prop) : Prop := match d with
  | .tup xs => Q xs (fun _ => True) h
  | .fl xs => Q xs (fun _ => True) h
  | .ref n => onLst h[n]? fun xs => Q xs (fun h' => h'[n]? = some (.lst xs)) h
  | _ => False
theorem iSeq_eq {t : E3} {Q : List D → (Sto → Prop) → Sto → Prop} : iSeq t ρ h Q = t ρ h fun d h1 => iSeqD d h1 Q := by
  have : (fun (d : D) (h1 : Sto) => iSeqD d h1 Q) = fun d h1 => match d with
      | .tup xs => Q xs (fun _ => True) h1
      | .fl xs => Q xs (fun _ => True) h1
      | .ref n => match h1[n]? with
        | some (.lst xs) => Q xs (fun h' => h'[n]? = some (.lst xs)) h1
        | _ => False
      | _ => False := by
    funext d h1
    unfold iSeqD onLst
    cases d <;> rfl
  rw [this]
  rfl
theorem iSeqD_t {Q : List D → (Sto → Prop) → Sto → Prop} : iSeqD (.tup xs) h Q = Q xs (fun _ => True) h := rfl
theorem iSeqD_f {Q : List D → (Sto → Prop) → Sto → Prop} : iSeqD (.fl xs) h Q = Q xs (fun _ => True) h := rfl
theorem iSeqD_r {Q : List D → (Sto → Prop) → Sto → Prop} : iSeqD (.ref n) h Q = onLst h[n]? fun xs => Q xs (fun h' => h'[n]? = some (.lst xs)) h := rfl
def rngD (vs : List D) (h : Sto) (Q : List D → (Sto → Prop) → Sto → Prop) : Prop := match vs with
  | [.int j] => (-(2 ^ 62) ≤ j ∧ j < 2 ^ 62) ∧ Q ((List.range j.toNat).map fun (k : Nat) => D.int k) (fun _ => True) h
  | [.int i, .int j] => (-(2 ^ 62) ≤ i ∧ i < 2 ^ 62 ∧ -(2 ^ 62) ≤ j ∧ j < 2 ^ 62) ∧ Q ((List.range (j - i).toNat).map fun (k : Nat) => D.int (i + k)) (fun _ => True) h
  | _ => False
theorem iRng_eq {ta : A3} {Q : List D → (Sto → Prop) → Sto → Prop} : iRng ta ρ h Q = ta ρ h fun vs h1 => rngD vs h1 Q := rfl
theorem rngD_1 {Q : List D → (Sto → Prop) → Sto → Prop} : rngD [.int j] h Q = ((-(2 ^ 62) ≤ j ∧ j < 2 ^ 62) ∧ Q ((List.range j.toNat).map fun (k : Nat) => D.int k) (fun _ => True) h) := rfl
theorem rngD_2 {Q : List D → (Sto → Prop) → Sto → Prop} : rngD [.int i, .int j] h Q = ((-(2 ^ 62) ≤ i ∧ i < 2 ^ 62 ∧ -(2 ^ 62) ≤ j ∧ j < 2 ^ 62) ∧ Q ((List.range (j - i).toNat).map fun (k : Nat) => D.int (i + k)) (fun _ => True) h) := rfl
theorem seqOf_f {Q : List D → (Sto → Prop) → Prop} : seqOf (.fl xs) h Q = Q xs fun _ => True := rfl
theorem seqOf_r {Q : List D → (Sto → Prop) → Prop} : seqOf (.ref n) h Q = onLst h[n]? fun xs => Q xs fun h' => h'[n]? = some (.lst xs) := rfl
def zipD (vs : List D) (h : Sto) (Q : List D → (Sto → Prop) → Sto → Prop) : Prop := match vs with
  | [.tup xs, .tup ys] => Q (List.zipWith (fun x y => D.tup [x, y]) xs ys) (fun _ => True) h
  | [x, y] => seqOf x h fun xs s1 => seqOf y h fun ys s2 => Q (List.zipWith (fun x y => D.tup [x, y]) xs ys) (fun h => s1 h ∧ s2 h) h
  | _ => False
theorem iZip3_eq {ta : A3} {Q : List D → (Sto → Prop) → Sto → Prop} : iZip3 ta ρ h Q = ta ρ h fun vs h1 => zipD vs h1 Q := rfl
theorem zipD_tt {Q : List D → (Sto → Prop) → Sto → Prop} : zipD [.tup xs, .tup ys] h Q = Q (List.zipWith (fun x y => D.tup [x, y]) xs ys) (fun _ => True) h := rfl
theorem zipD_rr {Q : List D → (Sto → Prop) → Sto → Prop} : zipD [.ref n, .ref m] h Q = seqOf (.ref n) h fun xs s1 => seqOf (.ref m) h fun ys s2 => Q (List.zipWith (fun x y => D.tup [x, y]) xs ys) (fun h => s1 h ∧ s2 h) h := rfl
end
end F3
/-! FK: list(range(..)), list(reversed(..)). -/
namespace F3
open PySem PySem.Spec PyProof.Rows L2

def xRg (i j : Int) (h : Sto) (Q : List D → Sto → Prop) : Prop := (-(2 ^ 62) ≤ i ∧ i < 2 ^ 62 ∧ -(2 ^ 62) ≤ j ∧ j < 2 ^ 62 ∧ (j - i).toNat ≤ 2 ^ 24) ∧ Q ((List.range (j - i).toNat).map fun (k : Nat) => D.int (i + k)) h
def xRg1 (t : E3) : A3 := fun ρ h Q => t ρ h fun d h1 => match d with
  | .int n => xRg 0 n h1 Q
  | _ => False
def xRg2 (t u : E3) : A3 := fun ρ h Q => t ρ h fun d h1 => u ρ h1 fun e h2 => match d, e with
  | .int i, .int j => xRg i j h2 Q
  | _, _ => False
section
variable {X : Cx}
theorem rel_rg {K : PySem.W.Frag} {m : List Addr} {H : Hp} (i : Int) : ∀ ks : List Nat, RelDs K m H (ks.map fun (k : Nat) => D.int (i + k)) (ks.map fun (k : Nat) => V.int (i + k))
  | [] => .nil
  | _ :: r => .cons (.int _) (rel_rg i r)
theorem x3_rg1 {a : Expr} {t : E3} {p pos p2 pos2 : Pos} (hc : X.calm = true) (hm : X.mg "list" = none) (hm2 : X.mg "range" = none) (ha : PE3 X a t) (hg : Gl X "list" := by rfl) (hg2 : Gl X "range" := by rfl)
    (na : starEach [a] X.env = (false, eval a X.env) :: starEach [] X.env := by rfl) (na2 : starEach [.Call (.Name "range" p2) [a] [] pos2] X.env = (false, eval (.Call (.Name "range" p2) [a] [] pos2) X.env) :: starEach [] X.env := by rfl) :
    PX3 X (.Call (.Name "list" p) [.Call (.Name "range" p2) [a] [] pos2] [] pos) (xRg1 t) := by
  refine ⟨PE.weak (pe_listRg hc hg hm (prg_1 hg2 hm2 ha.pe na) na2) fun σ H Q ⟨m, h, ρ, R, S, q⟩ => ?_, fun ρ h Q Q' w q => ha.mono _ _ _ _ (fun d h1 q1 => ?_) q⟩
  · refine LE.bind ha.mono R S q fun m1 H1 v x h1 s1 R1 rx S1 q1 => ?_
    cases rx with
    | int n => exact ⟨n, rfl, q1.1, UpX.laid R1 (rel_rg 0 _) (UpX.step s1 R1 q1.2)⟩
    | _ => exact q1.elim
  · cases d with
    | int n => exact ⟨q1.1, w _ _ q1.2⟩
    | _ => exact q1
theorem x3_rg2 {a b : Expr} {t u : E3} {p pos p2 pos2 : Pos} (hc : X.calm = true) (hm : X.mg "list" = none) (hm2 : X.mg "range" = none) (ha : PE3 X a t) (hb : PE3 X b u) (hg : Gl X "list" := by rfl) (hg2 : Gl X "range" := by rfl)
    (na : starEach [a, b] X.env = (false, eval a X.env) :: starEach [b] X.env := by rfl) (nb : starEach [b] X.env = (false, eval b X.env) :: starEach [] X.env := by rfl) (hp : (backTo pos2 (starEach [b] X.env)).any (·.1) = false := by rfl)
    (na2 : starEach [.Call (.Name "range" p2) [a, b] [] pos2] X.env = (false, eval (.Call (.Name "range" p2) [a, b] [] pos2) X.env) :: starEach [] X.env := by rfl) :
    PX3 X (.Call (.Name "list" p) [.Call (.Name "range" p2) [a, b] [] pos2] [] pos) (xRg2 t u) := by
  refine ⟨PE.weak (pe_listRg hc hg hm (prg_2 hg2 hm2 ha.pe hb.pe na nb hp) na2) fun σ H Q ⟨m, h, ρ, R, S, q⟩ => ?_, fun ρ h Q Q' w q => ha.mono _ _ _ _ (fun d h1 q1 => hb.mono _ _ _ _ (fun e h2 q2 => ?_) q1) q⟩
  · refine LE.bind ha.mono R S q fun m1 H1 v x h1 s1 R1 rx S1 q1 => ?_
    refine LE.bind hb.mono R1 S1 q1 fun m2 H2 v2 y h2 s2 R2 ry S2 q2 => ?_
    cases rx with
    | int i =>
      cases ry with
      | int j => exact ⟨i, j, rfl, rfl, q2.1, UpX.laid R2 (rel_rg i _) (UpX.step (s1.trans s2) R2 q2.2)⟩
      | _ => exact q2.elim
    | _ => exact q2.elim
  · cases d with
    | int i =>
      cases e with
      | int j => exact ⟨q2.1, w _ _ q2.2⟩
      | _ => exact q2
    | _ => exact q2
end
/-! ### the store made smaller, in use -/
theorem cl_ints {n : Nat} : ∀ ns : List Int, ClDs n (ns.map .int)
  | [] => by simp only [List.map_nil, ClDs]
  | _ :: r => by simp only [List.map_cons, ClDs, ClD, true_and]; exact cl_ints r
theorem ClS.set {n : Nat} {h : Sto} (hs : ClS n h) (a : Nat) {c : Cell} (hc : ClC n c) : ClS n (h.set a c) := fun c' hm => by
  rcases List.mem_or_eq_of_mem_set hm with z | z
  · exact hs c' z
  · rw [z]; exact hc
theorem cl_draw {n : Nat} {c s : Int} : ClC n (.lst [.int c, .int s]) := by simp only [ClC, ClDs, ClD, and_self]
theorem gq_one {h g : Sto} {k n : Nat} {xs : List D} {Q : DK} (hn : n = h.length) (hk : g[k]? = some (.lst xs)) (hx : ClDs h.length xs) (hs : ClS h.length h) (q : Q (.ref h.length) (h ++ [.lst xs])) : GQ n Q (.ref (h.length + k)) (h ++ g) := by
  subst hn
  exact .inr ⟨_, _, Gc.one hk hx hs, q⟩
theorem gq_tail {h g : Sto} {n : Nat} {d : D} {Q : DK} (hn : n = h.length) (hd : ClD h.length d) (hs : ClS h.length h) (q : Q d h) : GQ n Q d (h ++ g) := by
  subst hn
  exact .inr ⟨_, _, Gc.tail hd hs, q⟩
theorem ClDs.all {n : Nat} : ∀ {xs : List D}, (∀ x ∈ xs, ClD n x) → ClDs n xs
  | [], _ => by simp only [ClDs]
  | x :: r, h => by simp only [ClDs]; exact ⟨h x List.mem_cons_self, ClDs.all fun y hy => h y (List.mem_cons_of_mem _ hy)⟩
theorem ClDs.mem {n : Nat} : ∀ {xs : List D}, ClDs n xs → ∀ x ∈ xs, ClD n x
  | _ :: _, h, x, hx => by
    simp only [ClDs] at h
    rcases List.mem_cons.mp hx with e | e
    · rw [e]; exact h.1
    · exact ClDs.mem h.2 x e
theorem get_app {h g : Sto} {k : Nat} : (h ++ g)[h.length + k]? = g[k]? := by rw [List.getElem?_append_right (by omega)]; congr 1; omega
theorem get_app0 {h : Sto} {c : Cell} {g : Sto} : (h ++ c :: g)[h.length]? = some c := by rw [List.getElem?_append_right (by omega)]; simp
theorem set_app0 {h : Sto} {c c' : Cell} {g : Sto} : (h ++ c :: g).set h.length c' = h ++ c' :: g := by rw [List.set_append]; simp
/-- one turn of a for; what follows the turn has a name -/
theorem forI_step {g : G3} {b : C3} {st : Sto → Prop} {E : Ends3} {x : D} {r : List D} {ρ : S3} {h : Sto} (hs : st h) (q : ∀ F : S3 → Sto → Prop, F = forI g b st E r → g x ρ h fun ρ' h' => b { E with nx := F, ct := F, bk := E.nx } ρ' h') : forI g b st E (x :: r) ρ h := ⟨hs, q _ rfl⟩
end F3
/-! FL: sorted(set(xs)) of a list of ints. -/
namespace F3
open PySem PySem.Spec PyProof.Rows L2

/-- the new set that a call of set lays, empty -/
abbrev bareSet (w : World) : Obj := { cls := .type "set", dict := none, data := .set #[] 0 (.fresh 0 0 (!w.params.followText "set-order")) }
section
variable {P : Program} {w : World} {A : Around} {E : Value → Shared → Prop} {s : Shared}
set_option maxHeartbeats 6400000 in
/-- set(xs), xs a list of ints: what stands then, told by SetR -/
theorem set_of_lst {l : Addr} {items : Array Value} (ns : List Int) {Q : Value → Shared → Prop} (hh : A.handled = none) (hl : s.heap.IsList l items) (hit : IntsAre items.toList ns) (hb : ns.length + 1 < scanBound)
    (q : ∀ (h' : Heap) (tk c : Nat), SetR w h' s.heap.objs.size (fun j => decide (j ∈ ns)) c → c ≤ ns.length → (∀ b o, s.heap.get? b = some o → h'.get? b = some o) → Q (.ref s.heap.objs.size) { s with heap := h', toks := tk }) :
    wpAny (model P w) A (call (.type "set") [.ref l]) Q E s := by
  have hz : items.size = ns.length := by have e := IntsAre.length hit; rwa [Array.length_toList] at e
  obtain ⟨_, _, mro⟩ := PySem.F.called_set.mro
  have f1 := PySem.F.called_set.made; have f2 := PySem.F.called_set.sub
  refine wpAny_call (codeAny_of_tree (?_ : wpAny _ _ (callAny (.type "set") _) _ _ _))
  refine wpAny_pure ⟨Code.quiet_builtin _ (by decide +kernel), codeAny_builtin PySem.F.entry_type_call ?_⟩
  rw [Around.under_plain (weight_type_call_type "set" [.ref l] []) rfl]
  have f3 := PySem.F.called_set.notType; have f4 := PySem.F.called_set.canCreate; have f5 := PySem.F.typeCall_set_1 (.ref l)
  repeat (any_goals (first | assumption | wp_step))
  -- the object itself
  refine codeAny_mono (code_set_led1 (.ref l) (E := E) (Q₁ := fun x t => x = .ref s.heap.objs.size ∧ t = { s with heap := s.heap.push (bareSet w) }) ⟨rfl, rfl⟩) fun r t hr => ?_
  match r, hr with
  | .error _, hr => exact hr
  | .ok .next, hr => exact hr.elim
  | .ok .brk, hr => exact hr.elim
  | .ok .cont, hr => exact hr.elim
  | .ok (.ret x), hr =>
    obtain ⟨rfl, rfl⟩ := hr
    have g0 : (s.heap.push (bareSet w)).get? s.heap.objs.size = some (bareSet w) := Heap.get?_push_size _ rfl
    have ty : Shared.TypeIs { s with heap := s.heap.push (bareSet w) } (.ref s.heap.objs.size) "set" := ⟨_, g0, rfl⟩
    have f6 := PySem.F.called_set.init.lookup; have f7 := PySem.F.called_set.init.bind (.ref s.heap.objs.size)
    repeat (any_goals (first | assumption | wp_step))
    -- its items, one by one
    refine codeAny_mono (codeAny_call_builtin (R := wants (fun r t => r = .none ∧ ∃ h' tk c, t = { s with heap := h', toks := tk } ∧ SetR w h' s.heap.objs.size (fun j => decide (j ∈ ns)) c ∧ c ≤ ns.length ∧ ∀ b o, s.heap.get? b = some o → h'.get? b = some o) E)
      PySem.F.called_set.init.plain PySem.F.entry_set_init (check_set_init_1 ty ?_)) fun r t hr => ?_
    · obtain ⟨⟨oc, od, oa, os⟩, g1, k1, nl, k2⟩ := hl
      simp only at k1 k2
      subst k1; subst k2
      have lt : l < s.heap.objs.size := Heap.lt_size g1
      have g2 : (s.heap.push (bareSet w)).get? l = some { cls := .type "list", dict := od, data := .seq items nl, slots := os } := Heap.get?_push_of_some _ g1
      have isl : (s.heap.push (bareSet w)).IsList l items := ⟨_, g2, rfl, nl, rfl⟩
      have f8 := PySem.F.sub_list_set; have f9 := PySem.F.sub_list_frozenset
      have f10 : (Value.type "list" == Value.type "dict") = false := by decide
      unfold Builtin.«set.__init__» noKeywords Builtin.Frozenset.updateFrom
      generalize eIt : pyIter = it
      wp_walk
      subst eIt
      refine wpAny_pyIter_list isl (wpAny_bind (wpAny_runValue ?_))
      have sz : (s.heap.push (bareSet w)).objs.size = s.heap.objs.size + 1 := Heap.size_push ..
      have n1 : l ≠ (s.heap.push (bareSet w)).objs.size := by rw [sz]; exact Nat.ne_of_lt (Nat.lt_succ_of_lt lt)
      have n2 : s.heap.objs.size ∉ [(s.heap.push (bareSet w)).objs.size, l] := by
        rw [sz]; simp only [List.mem_cons, List.not_mem_nil, or_false, not_or]; exact ⟨Nat.ne_of_lt (Nat.lt_succ_self _), Nat.ne_of_gt lt⟩
      refine set_update_ints ((Walks.list (show A.in1.in1.in1.handled = none by simp [hh]) _ l n1 items).toS) s.heap.objs.size n2 ns hz hb (fun i v hv => ?_) (items.size - 0) 0 _ (by omega) (Nat.zero_le _)
        ⟨⟨_, Heap.get?_push_size _ rfl, rfl, rfl⟩, isl.push _⟩ ⟨0, Nat.le_refl 0, setR_new_at (Heap.get?_push_of_some _ g0)⟩ fun t c mv hc R => ?_
      · have hi : i < ns.length := by rw [← hz]; exact (Array.getElem?_eq_some_iff.mp hv).1
        obtain ⟨tk, e⟩ := PyProof.Rows.IntsAre.int_at hit i v (by rw [Array.getElem?_toList]; exact hv)
        exact ⟨ns[i], tk, List.getElem?_eq_getElem hi, by rw [e, List.getD_eq_getElem?_getD, List.getElem?_eq_getElem hi]; rfl⟩
      · obtain ⟨h', g', d', tk', o'⟩ := t
        cases (show g' = s.gens from mv.gens); cases (show d' = s.drawn from mv.drawn); cases (show o' = s.os from mv.os)
        refine wpAny_pure (?_ : wpAny _ _ (ret Value.none) _ _ _)
        refine wpAny_pure ⟨rfl, h', tk', c, rfl, R, by omega, fun b o e => mv.heap b o ?_ (Heap.get?_push_of_some _ (Heap.get?_push_of_some _ e))⟩
        have lb := Heap.lt_size e
        rw [sz]; simp only [List.mem_cons, List.not_mem_nil, or_false, not_or]; exact ⟨Nat.ne_of_lt lb, Nat.ne_of_lt (Nat.lt_succ_of_lt lb)⟩
    · match r, hr with
      | .error _, hr => exact hr
      | .ok .next, hr => exact hr.elim
      | .ok .brk, hr => exact hr.elim
      | .ok .cont, hr => exact hr.elim
      | .ok (.ret _), hr =>
        obtain ⟨rfl, h', tk, c, rfl, R, hc, kp⟩ := hr
        repeat (any_goals (first | assumption | wp_step))
        exact q _ _ _ R hc kp
end
/-- a list's items -/
def onLst' (d : D) (h : Sto) (k : List D → Prop) : Prop := match listOf d h with
  | some xs => k xs
  | none => False
theorem onLst'_mono {d : D} {h : Sto} {k k' : List D → Prop} (w : ∀ xs, k xs → k' xs) (q : onLst' d h k) : onLst' d h k' := by
  unfold onLst' at q ⊢
  split at q
  · exact w _ q
  · exact q
theorem onLst'_some {d : D} {h : Sto} {k : List D → Prop} (q : onLst' d h k) : ∃ xs, listOf d h = some xs ∧ k xs := by
  unfold onLst' at q
  split at q
  next xs e => exact ⟨xs, e, q⟩
  next => exact q.elim
theorem onLst'_r {n : Nat} {h : Sto} {k : List D → Prop} : onLst' (.ref n) h k = onLst h[n]? k := by
  unfold onLst' onLst listOf
  simp only
  cases h[n]? with
  | none => rfl
  | some c => cases c <;> rfl
theorem onLst'_f {xs : List D} {h : Sto} {k : List D → Prop} : onLst' (.fl xs) h k = k xs := rfl
section
variable {X : Cx}
def rSetL (K : PySem.W.Frag) (w : World) : List V → Hp → VK → Prop := fun vs H Q => ∃ (l : Addr) (ns : List Int), vs = [.ref l] ∧ SqL K H l (ns.map V.int) ∧ ns.length < 64 ∧ ∀ a c, H a = none → c ≤ ns.length → Q (.ref a) (upd H a (SetO w a (fun j => decide (j ∈ ns)) c))
theorem cr_setL (hc : X.calm = true) : CallR X (.type "set") (rSetL X.K X.w) := by
  intro pins s σ H xs us Q I r h
  obtain ⟨l, ns, rfl, hs, hn, q⟩ := h
  rw [Vals.ref1 r]
  obtain ⟨its, rv, pl, hz⟩ := I.list hs
  refine set_of_lst ns (I.ok.hd hc) pl.isList ?_ (by unfold scanBound; omega) fun h' tk c R hcl kp => ?_
  · rw [List.toList_toArray]
    exact Vals.ints rv
  · exact ⟨.ref s.heap.objs.size, _, I.laid (t' := tk) kp (Nat.le_refl _) (setO_new R), rfl, q _ c (I.hok.fresh (Nat.le_refl _)) hcl⟩
def tSSet (t : A3) : A3 := fun ρ h Q => t ρ h fun xs h1 => match intsOf xs with
  | some ns => ns.length < 64 ∧ ∀ ms : List Int, ms.Pairwise (· < ·) → (∀ k, k ∈ ms ↔ k ∈ ns) → Q (ms.map .int) h1
  | none => False
theorem MonoA.sset {t : A3} (mt : MonoA t) : MonoA (tSSet t) := fun ρ h Q Q' w q => mt _ _ _ _ (fun xs h1 q1 => by
  split at q1
  · exact ⟨q1.1, fun ms h1 h2 => w _ _ (q1.2 ms h1 h2)⟩
  · exact q1) q
theorem sset_core {K : PySem.W.Frag} {w : World} {m m1 : List Addr} {H H1 : Hp} {h1 : Sto} {l : Addr} {xs : List D} {vs : List V} {Q : VK} (s1 : Step m H m1 H1) (R1 : Rep K m1 h1 H1) (sq : SqL K H1 l vs) (rs : RelDs K m1 H1 xs vs)
    (q : match intsOf xs with
      | some ns => ns.length < 64 ∧ ∀ ms : List Int, ms.Pairwise (· < ·) → (∀ k, k ∈ ms ↔ k ∈ ns) → UpX K m H Q (ms.map .int) h1
      | none => False) : rSetL K w [.ref l] H1 fun x H2 => rSortedSet w [x] H2 Q := by
  split at q
  next ns e =>
    have e1 := intsOf_eq e
    subst e1
    refine ⟨l, ns, rfl, by rw [← rs.ints]; exact sq, q.1, fun a c ha hcl => ⟨a, _, c, rfl, upd_same, by omega, fun ms p h1' h2 h3 hp => ?_⟩⟩
    refine UpX.laid (R1.lay ha) (srt_ints ms) ?_ p hp
    exact UpX.step (s1.trans (Step.lay ha)) (R1.lay ha) (q.2 ms h1' fun k => by rw [h2 k]; exact decide_eq_true_iff)
  next => exact q.elim
theorem x3_ssetx {e : Expr} {t : A3} {p pos p2 pos2 : Pos} (hc : X.calm = true) (hm : X.mg "sorted" = none) (hm2 : X.mg "set" = none) (ha : PX3 X e t) (hg : Gl X "sorted" := by rfl) (hg2 : Gl X "set" := by rfl)
    (he : starEach [e] X.env = (false, eval e X.env) :: starEach [] X.env := by rfl) (hpl : (backTo pos2 (starEach [] X.env)).any (·.1) = false := by rfl)
    (he2 : starEach [.Call (.Name "set" p2) [e] [] pos2] X.env = (false, eval (.Call (.Name "set" p2) [e] [] pos2) X.env) :: starEach [] X.env := by rfl) (hpl2 : (backTo pos (starEach [] X.env)).any (·.1) = false := by rfl) :
    PX3 X (.Call (.Name "sorted" p) [.Call (.Name "set" p2) [e] [] pos2] [] pos) (tSSet t) := by
  refine ⟨PE.weak (pe_callB (cr_sortedSet hc) hg hm (by decide +kernel) (pa_cons (pe_callTy (cr_setL hc) hg2 hm2 (by decide +kernel) (pa_cons ha.pe pa_nil he) (by decide) (by decide) he hpl) pa_nil he2) (by decide) (by decide) he2 hpl2) fun σ H Q ⟨m, h, ρ, R, S, q⟩ => ?_, .sset ha.mono⟩
  refine LX.bind ha.mono R S q fun m1 H1 a vs xs h1 s1 R1 ea na hm rs S1 q1 => ?_
  exact sset_core s1 R1 (.inl (.inl ea)) rs q1
theorem x3_sset {e : Expr} {t : E3} {p pos p2 pos2 : Pos} (hc : X.calm = true) (hm : X.mg "sorted" = none) (hm2 : X.mg "set" = none) (ha : PE3 X e t) (hg : Gl X "sorted" := by rfl) (hg2 : Gl X "set" := by rfl)
    (he : starEach [e] X.env = (false, eval e X.env) :: starEach [] X.env := by rfl) (hpl : (backTo pos2 (starEach [] X.env)).any (·.1) = false := by rfl)
    (he2 : starEach [.Call (.Name "set" p2) [e] [] pos2] X.env = (false, eval (.Call (.Name "set" p2) [e] [] pos2) X.env) :: starEach [] X.env := by rfl) (hpl2 : (backTo pos (starEach [] X.env)).any (·.1) = false := by rfl) :
    PX3 X (.Call (.Name "sorted" p) [.Call (.Name "set" p2) [e] [] pos2] [] pos) (tSSet fun ρ h Q => t ρ h fun d h1 => onLst' d h1 fun xs => Q xs h1) := by
  have mo : MonoA (fun ρ h Q => t ρ h fun d h1 => onLst' d h1 fun xs => Q xs h1) := fun ρ h Q Q' w q => ha.mono _ _ _ _ (fun d h1 q1 => onLst'_mono (fun xs q => w _ _ q) q1) q
  refine ⟨PE.weak (pe_callB (cr_sortedSet hc) hg hm (by decide +kernel) (pa_cons (pe_callTy (cr_setL hc) hg2 hm2 (by decide +kernel) (pa_cons ha.pe pa_nil he) (by decide) (by decide) he hpl) pa_nil he2) (by decide) (by decide) he2 hpl2) fun σ H Q ⟨m, h, ρ, R, S, q⟩ => ?_, .sset mo⟩
  refine LE.bind ha.mono R S q fun m1 H1 v d h1 s1 R1 rd S1 q1 => ?_
  obtain ⟨xs, e, q2⟩ := onLst'_some q1
  obtain ⟨a, vs, rfl, sq, rs⟩ := listOf_lift R1 rd e
  exact sset_core s1 R1 sq rs q2
end
end F3
set_option maxHeartbeats 1000000
/-! FM: sorted of a tuple of ints; sorted(set(xs)) of a list of pairs of ints. -/
namespace F3
open PySem PySem.Spec PyProof.Rows L2

section
variable {prog : Program} {w : World} {A : Around} {E : Value → Shared → Prop} {s : Shared}
theorem collect_tup {l : Addr} {vs : List Value} {Q : List Value → Shared → Prop} (hl : IsTup s.heap l vs.toArray)
    (h : Q vs { s with heap := (s.heap.push (seqObj "list" #[] 0)).update s.heap.objs.size (Obj.mapSeq (· ++ vs.toArray)) }) (hsz : vs.length ≤ sizeLine) :
    wpAny (model prog w) A (collect (.ref l)) Q E s := by
  obtain ⟨o, ho, hc, n, hd⟩ := id hl
  unfold collect
  refine wpAny_bind (wpAny_runValue (codeAny_builtin entry_proto_collect' ?_))
  refine wpAny_bind (wpAny_newList (wpAny_pure ⟨Code.quiet_builtin _ (by decide +kernel), codeAny_builtin entry_list_iadd' ?_⟩))
  show wpAny _ _ (Builtin.List.listExtendWith (.ref s.heap.objs.size) (.ref l) (.ref s.heap.objs.size)) _ _ { s with heap := s.heap.push (seqObj "list" #[] 0) }
  unfold Builtin.List.listExtendWith
  have ho' : (s.heap.push (seqObj "list" #[] 0)).get? l = some o := Heap.get?_push_of_some _ ho
  refine wpAny_bind (wpAny_typeOf (T := "tuple") ⟨o, ho', hc⟩ ?_)
  have ht : (Value.type "tuple" == Value.type "tuple") = true := by rfl
  rw [if_pos (by rw [ht]; simp)]
  refine wpAny_bind (listItems_at ho' hd ?_)
  refine wpAny_bind (listItems_at (xs := #[]) (n := 0) (Heap.get?_push_size _ rfl) rfl ?_)
  rw [if_neg (by simp)]
  refine wpAny_bind (listUpdate_at (xs := #[]) (n := 0) (Heap.get?_push_size _ rfl) rfl ?_ (Nat.zero_le _) (by show (#[] ++ vs.toArray).size ≤ sizeLine + 1; simp only [Array.size_append, List.size_toArray, List.length_nil]; omega))
  refine wpAny_pure ?_
  refine wpAny_bind (wpAny_load (get?_update_seq (Heap.get?_push_size _ rfl) _) ?_)
  show wpAny _ _ (pure ((#[] : Array Value) ++ vs.toArray).toList) Q E _
  rw [show ((#[] : Array Value) ++ vs.toArray).toList = vs by simp]
  exact wpAny_pure h
open SrtO in
theorem sorted_tup {l : Addr} {vs : List Value} {ltv : Value → Value → Bool} {Q : Value → Shared → Prop} (O : Swo ltv) (hl : IsTup s.heap l vs.toArray) (hz : vs.length ≤ sizeLine)
    (hS : 2 ≤ vs.length → ∀ (h₁ : Heap) (a : Addr), h₁.get? a = some (seqObj "list" vs.toArray 0) → (∀ b o, s.heap.get? b = some o → b ≠ a ∧ h₁.get? b = some o) → SortableO prog w A.in1.in1 { s with heap := h₁ } a vs ltv)
    (h : ∀ out : List Value, Srtd ltv out → Stb ltv out vs → Q (.ref (s.heap.objs.size + 1)) { s with heap := sortedAll s.heap vs out.toArray }) :
    wpAny (model prog w) A (call (.builtin "sorted") [.ref l]) Q E s := by
  refine Calls.call_function_entry kind_sorted plain_sorted entry_sorted (args_sorted1 _) ?_
  unfold Builtin.«sorted»
  refine wpAny_bind (m := checkCount "sorted" 1 1 _) (wpAny_pure ?_)
  refine wpAny_bind (collect_tup hl ?_ hz)
  refine wpAny_bind (wpAny_newList ?_ hz)
  have hsz : ((s.heap.push (seqObj "list" #[] 0)).update s.heap.objs.size (Obj.mapSeq (· ++ vs.toArray))).objs.size = s.heap.objs.size + 1 := by
    rw [Heap.size_update, size_push']
  have hoL : (((s.heap.push (seqObj "list" #[] 0)).update s.heap.objs.size (Obj.mapSeq (· ++ vs.toArray))).push (seqObj "list" vs.toArray 0)).get? (s.heap.objs.size + 1) = some (seqObj "list" vs.toArray 0) := by
    rw [← hsz]; exact Heap.get?_push_size _ rfl
  have keep : ∀ b o, s.heap.get? b = some o → b ≠ s.heap.objs.size + 1 ∧ (((s.heap.push (seqObj "list" #[] 0)).update s.heap.objs.size (Obj.mapSeq (· ++ vs.toArray))).push (seqObj "list" vs.toArray 0)).get? b = some o := fun b o q => by
    have hlt : b < s.heap.objs.size := Heap.lt_size q
    refine ⟨Nat.ne_of_lt (Nat.lt_succ_of_lt hlt), Heap.get?_push_of_some _ ?_⟩
    rw [Heap.get?_update_ne _ _ _ _ (Nat.ne_of_lt hlt)]
    exact Heap.get?_push_of_some _ q
  show wpAny _ _ _ _ _ { s with heap := ((s.heap.push (seqObj "list" #[] 0)).update s.heap.objs.size (Obj.mapSeq (· ++ vs.toArray))).push (seqObj "list" vs.toArray 0) }
  rw [hsz]
  refine wpAny_bind (wpAny_holding (wpAny_call_entry slot_list_sort ⟨_, hoL, rfl⟩ entry_list_sort (list_sort_ord O hoL hz (fun h2 => hS h2 _ _ hoL keep) fun out hs hb => ⟨_, rfl, ?_⟩) (args_list_sort _)))
  exact wpAny_pure ⟨_, rfl, h out hs hb⟩
end
section
variable {X : Cx}
def rSortedIT (K : PySem.W.Frag) : List V → Hp → VK → Prop := fun vs H Q => ∃ (a : Addr) (ns : List Int), vs = [V.ref a] ∧ SqT K H a (ns.map V.int) ∧
  ∀ (ns' : List Int) (p : Addr), ns'.Perm ns → ns'.Pairwise (· ≤ ·) → H p = none → Q (.ref p) (upd H p (.lst (ns'.map V.int)))
theorem cr_sortedIT : CallR X (.builtin "sorted") (rSortedIT X.K) := by
  intro pins s σ H vs us Q I r h
  obtain ⟨a, ns, rfl, hs, q⟩ := h
  obtain ⟨its, rv, hl, hz⟩ := I.tuple hs
  rw [Vals.ref1 r]
  have hi := rv.ints
  refine sorted_tup SrtO.swo_int hl (by rw [← rv.length]; exact hz) (fun h2 h₁ a' _ _ => SrtO.ints_sortable hi h2) fun out h1 h2 => ?_
  obtain ⟨k1, k2, k3⟩ := SrtO.ints_out hi h1 h2
  obtain ⟨ep, he'⟩ := PyProof.Rows.sortedAll_at s.heap its out.toArray
  have hlen : ((out.map SrtO.iv).map V.int).length ≤ sizeLine := by
    rw [List.length_map, k2.length_eq]
    rw [List.length_map] at hz
    exact hz
  exact ⟨.ref _, upd H (s.heap.objs.size + 1) (.lst ((out.map SrtO.iv).map V.int)), I.laid (t' := s.toks) (fun _ _ => PyProof.Rows.sortedAll_old) (Nat.le_succ _) ⟨hlen, out, ep, vals_of_ints k1, he'⟩, rfl, q _ _ k2 k3 (I.hok.fresh (Nat.le_succ _))⟩
/-- of a tuple -/
def onTM (r : M3) : M3 := fun xs h Q => match xs with
  | [.tup ys] => r ys h Q
  | _ => False
theorem onTM_t {r : M3} {ys : List D} {h : Sto} {Q : List D → Sto → Prop} : onTM r [.tup ys] h Q = r ys h Q := rfl
theorem kl_sortedT : CallL3 X (.builtin "sorted") (onTM srtX) := by
  refine ⟨fun xs h Q Q' w q => ?_, _, cr_sortedIT, fun m h H xs vs Q R rs q => ?_⟩
  · unfold onTM at q ⊢
    split at q
    · unfold srtX at q ⊢
      split at q
      · exact fun ns' h1 h2 => w _ _ (q ns' h1 h2)
      · exact q.elim
    · exact q.elim
  · unfold onTM at q
    split at q
    · match vs, rs with
      | [_], .cons (.tup sq rr) .nil =>
        unfold srtX at q
        split at q
        next ns e =>
          have e1 := intsOf_eq e
          subst e1
          exact ⟨_, ns, rfl, by rw [← rr.ints]; exact TH sq, fun ns' p h1 h2 hp => UpX.laid R (srt_ints ns') (q ns' h1 h2) p hp⟩
        next => exact q.elim
    · exact q.elim
/-! ### pairs -/
def prD (p : Int × Int) : D := .tup [.int p.1, .int p.2]
def prsOf : List D → Option (List (Int × Int))
  | [] => some []
  | .tup [.int x, .int y] :: r => (prsOf r).map ((x, y) :: ·)
  | _ :: _ => none
theorem prsOf_map : ∀ ns : List (Int × Int), prsOf (ns.map prD) = some ns
  | [] => rfl
  | p :: r => by
    rw [List.map_cons]
    unfold prD
    simp only [prsOf]
    have := prsOf_map r
    unfold prD at this
    rw [this]
    rfl
theorem prsOf_eq : ∀ {xs : List D} {ns : List (Int × Int)}, prsOf xs = some ns → xs = ns.map prD := by
  intro xs
  induction xs with
  | nil => intro ns e; simp [prsOf] at e; subst e; rfl
  | cons x r ih =>
    intro ns e
    unfold prsOf at e
    split at e
    next => simp_all
    next z1 a b r' ez =>
      injection ez with e1 e2
      subst e1 e2
      simp only [Option.map_eq_some_iff] at e
      obtain ⟨ms, e, rfl⟩ := e
      rw [ih e]
      rfl
    next => cases e
def pkey (p : Int × Int) : Int := p.1 * 10000000000000000000000000000000000000000000000000000000000000000000000 + p.2
def PB (p : Int × Int) : Prop := 0 ≤ p.1 ∧ p.1 < 10000000000000000000000000000000000000000000000000000000000000000000000 ∧ 0 ≤ p.2 ∧ p.2 < 10000000000000000000000000000000000000000000000000000000000000000000000
def tSSet2 (t : A3) : A3 := fun ρ h Q => t ρ h fun xs h1 => match prsOf xs with
  | some ns => ns.length < 64 ∧ (∀ p ∈ ns, PB p) ∧ ∀ ms : List (Int × Int), ms.Pairwise (fun p q => pkey p < pkey q) → (∀ p, p ∈ ms ↔ p ∈ ns) → Q (ms.map prD) h1
  | none => False
theorem MonoA.sset2 {t : A3} (mt : MonoA t) : MonoA (tSSet2 t) := fun ρ h Q Q' w q => mt _ _ _ _ (fun xs h1 q1 => by
  split at q1
  · exact ⟨q1.1, q1.2.1, fun ms h1 h2 => w _ _ (q1.2.2 ms h1 h2)⟩
  · exact q1) q
theorem rel_prs {K : PySem.W.Frag} {m : List Addr} {H : Hp} : ∀ {ns : List (Int × Int)} {vs : List V}, RelDs K m H (ns.map prD) vs → ∃ ks : List (Addr × List Int), vs = ks.map (fun p => V.ref p.1) ∧ ks.map (·.2) = ns.map (fun p => [p.1, p.2]) ∧ ∀ p ∈ ks, H p.1 = some (.tup (p.2.map V.int))
  | [], _, .nil => ⟨[], rfl, rfl, fun _ h => nomatch h⟩
  | p :: ns, _, .cons (.tup (a := a) sq rr) t => by
    obtain ⟨ks, e1, e2, e3⟩ := rel_prs t
    have e4 := RelDs.ints (ns := [p.1, p.2]) rr
    refine ⟨(a, [p.1, p.2]) :: ks, by rw [e1]; rfl, by rw [List.map_cons, List.map_cons, e2], fun q hq => ?_⟩
    rcases List.mem_cons.mp hq with rfl | hq
    · rw [← e4]; exact sq
    · exact e3 q hq
theorem code128 (x y : Int) : TS.code 10000000000000000000000000000000000000000000000000000000000000000000000 [x, y] = x * 10000000000000000000000000000000000000000000000000000000000000000000000 + y := by
  have e1 : (10000000000000000000000000000000000000000000000000000000000000000000000 : Int) ^ 1 = 10000000000000000000000000000000000000000000000000000000000000000000000 := by rw [Int.pow_succ, Int.pow_zero, Int.one_mul]
  have e0 : (10000000000000000000000000000000000000000000000000000000000000000000000 : Int) ^ 0 = 1 := Int.pow_zero _
  show x * 10000000000000000000000000000000000000000000000000000000000000000000000 ^ 1 + (y * 10000000000000000000000000000000000000000000000000000000000000000000000 ^ 0 + 0) = x * 10000000000000000000000000000000000000000000000000000000000000000000000 + y
  rw [e1, e0, Int.mul_one, Int.add_zero]
def tp : List Int → Int × Int
  | [x, y] => (x, y)
  | _ => (0, 0)
theorem rel_tp {K : PySem.W.Frag} {m : List Addr} {H : Hp} : ∀ (L : List (Addr × List Int)), (∀ q ∈ L, H q.1 = some (.tup (q.2.map V.int)) ∧ ∃ x y, q.2 = [x, y]) → RelDs K m H ((L.map fun q => tp q.2).map prD) (L.map fun q => V.ref q.1)
  | [], _ => .nil
  | q :: L, h => by
    obtain ⟨sq, x, y, e⟩ := h q List.mem_cons_self
    refine .cons ?_ (rel_tp L fun q hq => h q (List.mem_cons_of_mem _ hq))
    show RelD K m H (prD (tp q.2)) (V.ref q.1)
    rw [e] at sq ⊢
    exact .tup sq (.cons (.int x) (.cons (.int y) .nil))
theorem sset2_core {K : PySem.W.Frag} {P : Program} {w : World} {m m1 : List Addr} {H H1 : Hp} {h1 : Sto} {l : Addr} {xs : List D} {vs : List V} {Q : VK} (s1 : Step m H m1 H1) (R1 : Rep K m1 h1 H1) (sq : SqL K H1 l vs) (rs : RelDs K m1 H1 xs vs)
    (q : match prsOf xs with
      | some ns => ns.length < 64 ∧ (∀ p ∈ ns, PB p) ∧ ∀ ms : List (Int × Int), ms.Pairwise (fun p q => pkey p < pkey q) → (∀ p, p ∈ ms ↔ p ∈ ns) → UpX K m H Q (ms.map prD) h1
      | none => False) : rSetOfT K P w [.ref l] H1 fun x H2 => rSortedT K P w [x] H2 Q := by
  split at q
  next ns e =>
    have e1 := prsOf_eq e
    subst e1
    obtain ⟨ks, ek, en, hk⟩ := rel_prs rs
    have hpr : ∀ p ∈ ks, ∃ x y, p.2 = [x, y] ∧ (x, y) ∈ ns := fun p hp => by
      have : p.2 ∈ ns.map (fun p => [p.1, p.2]) := by rw [← en]; exact List.mem_map_of_mem hp
      obtain ⟨r, hr, er⟩ := List.mem_map.mp this
      exact ⟨r.1, r.2, er.symm, hr⟩
    have hback : ∀ r ∈ ns, ∃ p ∈ ks, p.2 = [r.1, r.2] := fun r hr => by
      have : [r.1, r.2] ∈ ks.map (·.2) := by rw [en]; exact List.mem_map_of_mem (f := fun p : Int × Int => [p.1, p.2]) hr
      obtain ⟨p, hp, ep⟩ := List.mem_map.mp this
      exact ⟨p, hp, ep⟩
    have hlen : ks.length = ns.length := by have := congrArg List.length en; simpa using this
    refine ⟨l, ks, rfl, by rw [← ek]; exact sq, fun p hp => TH (hk p hp), by rw [hlen]; exact q.1, fun a L ha h1' h2 => ⟨a, L, 2, 10000000000000000000000000000000000000000000000000000000000000000000000, rfl, upd_same, fun p hp => SqT.step R1 (Step.lay ha) (TH (hk p (h1' p hp))), by decide, fun p hp => ?_, fun L' p pm nd _ pw hp => ?_⟩⟩
    · obtain ⟨x, y, exy, hm⟩ := hpr p (h1' p hp)
      have b := q.2.1 _ hm
      unfold PB at b
      refine ⟨by rw [exy]; rfl, ?_⟩
      rw [exy]
      intro z hz
      rcases List.mem_cons.mp hz with rfl | hz
      · exact ⟨b.1, b.2.1⟩
      · rw [List.mem_singleton.mp hz]; exact ⟨b.2.2.1, b.2.2.2⟩
    · have hin : ∀ r ∈ L', r ∈ ks := fun r hr => h1' r (pm.mem_iff.mp hr)
      refine UpX.laid (R1.lay ha) (rel_tp L' fun r hr => ?_) ?_ p hp
      · obtain ⟨x, y, exy, _⟩ := hpr r (hin r hr)
        exact ⟨(Step.lay ha).keep _ _ (R1.notup (hk r (hin r hr))) (hk r (hin r hr)), x, y, exy⟩
      · refine UpX.step (s1.trans (Step.lay ha)) (R1.lay ha) (q.2.2 _ ?_ fun r => ?_)
        · rw [List.pairwise_map]
          have nd' : L'.Pairwise (fun a b => a.2 ≠ b.2) := List.pairwise_map.mp nd
          refine (pw.and nd').imp_of_mem fun {u v} hu hv ⟨h3, h4⟩ => ?_
          obtain ⟨x, y, exy, hm⟩ := hpr u (hin u hu)
          obtain ⟨x', y', exy', hm'⟩ := hpr v (hin v hv)
          rw [exy, exy', code128, code128] at h3
          rw [exy, exy'] at h4 ⊢
          have b := q.2.1 _ hm
          have b' := q.2.1 _ hm'
          simp only [PB] at b b'
          simp only [tp, pkey]
          rcases Int.lt_or_eq_of_le h3 with h3 | h3
          · exact h3
          · exfalso
            apply h4
            have e1 : x = x' := by omega
            have e2 : y = y' := by omega
            rw [e1, e2]
        · constructor
          · intro hr
            obtain ⟨u, hu, rfl⟩ := List.mem_map.mp hr
            obtain ⟨x, y, exy, hm⟩ := hpr u (hin u hu)
            rw [exy]
            exact hm
          · intro hr
            obtain ⟨u, hu, eu⟩ := hback r hr
            obtain ⟨v, hv, ev⟩ := List.mem_map.mp (h2 u hu)
            refine List.mem_map.mpr ⟨v, pm.mem_iff.mpr hv, ?_⟩
            rw [ev, eu]
            rfl
  next => exact q.elim
theorem x3_sset2 {e : Expr} {t : A3} {p pos p2 pos2 : Pos} (hc : X.calm = true) (hu : X.A.units + 64 < cLine) (hm : X.mg "sorted" = none) (hm2 : X.mg "set" = none) (ha : PX3 X e t) (hg : Gl X "sorted" := by rfl) (hg2 : Gl X "set" := by rfl)
    (he : starEach [e] X.env = (false, eval e X.env) :: starEach [] X.env := by rfl) (hpl : (backTo pos2 (starEach [] X.env)).any (·.1) = false := by rfl)
    (he2 : starEach [.Call (.Name "set" p2) [e] [] pos2] X.env = (false, eval (.Call (.Name "set" p2) [e] [] pos2) X.env) :: starEach [] X.env := by rfl) (hpl2 : (backTo pos (starEach [] X.env)).any (·.1) = false := by rfl) :
    PX3 X (.Call (.Name "sorted" p) [.Call (.Name "set" p2) [e] [] pos2] [] pos) (tSSet2 t) := by
  refine ⟨PE.weak (pe_callB (cr_sortedT hc) hg hm (by decide +kernel) (pa_cons (pe_callTy (cr_setOfT hc hu) hg2 hm2 (by decide +kernel) (pa_cons ha.pe pa_nil he) (by decide) (by decide) he hpl) pa_nil he2) (by decide) (by decide) he2 hpl2) fun σ H Q ⟨m, h, ρ, R, S, q⟩ => ?_, .sset2 ha.mono⟩
  refine LX.bind ha.mono R S q fun m1 H1 a vs xs h1 s1 R1 ea na hm rs S1 q1 => ?_
  exact sset2_core s1 R1 (.inl (.inl ea)) rs q1
end
end F3
/-! LP: the laws' own helps: a cell of the script, a purse of draws, a digit taken. -/
namespace F3
open PySem PySem.Spec PyProof.Rows L2

theorem atI_get {α : Type} {xs : List α} {k : Int} (h0 : 0 ≤ k) (h1 : k < xs.length) : atI xs k = xs[k.toNat]? := by
  unfold atI ixN
  rw [if_pos h0, if_pos h1]; rfl
theorem atI_some {α : Type} {xs : List α} {k : Int} (h0 : 0 ≤ k) (h1 : k < xs.length) : ∃ x, atI xs k = some x ∧ xs[k.toNat]? = some x := by
  rw [atI_get h0 h1]
  have hl : k.toNat < xs.length := by omega
  exact ⟨xs[k.toNat], List.getElem?_eq_getElem hl, List.getElem?_eq_getElem hl⟩
theorem atI_map {α β : Type} (f : α → β) (xs : List α) (k : Int) : atI (xs.map f) k = (atI xs k).map f := by
  unfold atI
  rw [List.length_map]
  cases ixN xs.length k with
  | none => rfl
  | some j => simp

def t_cell_at : C3 :=
  (cSeq (cIf (tT (tO ltR (tV 1) (tB3 lenR (tC3 (tV 0) tN3)))) (cRet (tO ixR (tV 0) (tV 1))) cNext)
    (cRet (tK (.int 0))))

def sp_cell_at : Sp3 := spR (fun (a : List Int × Int) => [.fl (a.1.map .int), .int a.2]) (fun a _ => 0 ≤ a.2) (fun a h d h' => ∃ c : Int, .int c = d ∧ h = h')
theorem mono_cell_at : MonoS sp_cell_at := mono_spR
theorem len_cell_at : ∀ ds h Q E, sp_cell_at ds h Q E → ds.length = 2 := len_spR fun _ => rfl
theorem rd_cell_at : ∀ ds h Q E, ClS h.length h → ClDs h.length ds → sp_cell_at ds h Q E → t_cell_at (ends3 (GQ h.length Q)) (start3 2 ds) h := by
  rintro ds h Q E _ _ ⟨⟨ns, k⟩, rfl, hk, q⟩
  try simp only [tV, tK, tO, tT, tN3, tC3, cNext, cSeq, cRet, cIf, tB3, start3, ends3, ltR_ii, ixR_fi, lenR_f, List.getElem?_cons_zero, List.getElem?_cons_succ, List.map_cons, List.map_nil, List.cons_append, List.nil_append, List.length_cons, List.length_nil, List.replicate_zero, decide_eq_true_eq, Nat.reduceAdd, Nat.reduceSub, t_cell_at]
  split
  next hlt =>
    obtain ⟨x, e, _⟩ := atI_some (xs := ns) (k := k) hk (by simpa using hlt)
    rw [atD_of (by rw [atI_map, e]; rfl)]
    exact .inl (q _ _ ⟨x, rfl, rfl⟩)
  next => exact .inl (q _ _ ⟨0, rfl, rfl⟩)

/-- a purse of draws: a number and a seed -/
def DrawOk (c s : Int) : Prop := 0 ≤ c ∧ 0 ≤ s ∧ s < 2147483648
def draw (c s : Int) : Cell := .lst [.int c, .int s]
def b_purse_1 : C3 :=
  (cSeq (cAsg (tO addR (tO addR (tO mulR (tV 3) (tK (.int 48271))) (tO modR (tCall3 sp_cell_at (tC3 (tV 0) (tC3 (tO addR (tV 1) (tV 4)) tN3))) (tK (.int 2147483647)))) (tO mulR (tK (.int 131)) (tV 4))) (gN 3))
    (cAsg (tO modR (tV 3) (tK (.int 2147483629))) (gN 3)))
def r_purse_1 : C3 :=
  (cSeq (cAsg (tO addR (tO mulR (tK (.int 17)) (tV 1)) (tK (.int 5))) (gN 3))
    (cSeq (cFor (iRng (tC3 (tK (.int 9)) tN3)) (gN 4) b_purse_1)
    (cRet (tNew (tC3 (tK (.int 0)) (tC3 (tO addR (tV 3) (tK (.int 1))) tN3))))))
def t_purse : C3 :=
  (cSeq (cAsg (tCall3 sp_cell_at (tC3 (tV 0) (tC3 (tV 1) tN3))) (gN 2))
    (cSeq (cIf (tT (tO geR (tV 2) (tO powR (tK (.int 10)) (tK (.int 18))))) (cRet (tNew (tC3 (tV 2) (tC3 (tK (.int 0)) tN3)))) cNext)
    r_purse_1))

def sp_purse : Sp3 := spR (fun (a : List Int × Int) => [.fl (a.1.map .int), .int a.2]) (fun a _ => 0 ≤ a.2 ∧ a.2 < 1000) (fun a h d h' => ∃ c s : Int, DrawOk c s ∧ .ref h.length = d ∧ h' = h ++ [draw c s])
theorem mono_purse : MonoS sp_purse := mono_spR
theorem len_purse : ∀ ds h Q E, sp_purse ds h Q E → ds.length = 2 := len_spR fun _ => rfl
theorem purse_loop {E : Ends3} {ns : List Int} {k : Int} {o2 : Option D} {h : Sto} (hk : 0 ≤ k) : ∀ (xs : List D), (∀ x ∈ xs, ∃ j : Int, x = .int j ∧ 0 ≤ j) → ∀ (seed : Int) (o4 : Option D), 0 ≤ seed → seed < 2147483647 →
    (∀ (seed : Int) (o4 : Option D), 0 ≤ seed → seed < 2147483647 → E.nx [some (.fl (ns.map .int)), some (.int k), o2, some (.int seed), o4] h) →
    forI (gN 4) b_purse_1 (fun _ => True) E xs [some (.fl (ns.map .int)), some (.int k), o2, some (.int seed), o4] h := by
  intro xs
  induction xs with
  | nil => exact fun _ seed o4 h0 h1 q => ⟨trivial, q seed o4 h0 h1⟩
  | cons x r ih =>
    intro hx seed o4 h0 h1 q
    obtain ⟨j, rfl, hj⟩ := hx x List.mem_cons_self
    try simp only [tV, tK, tO, tN3, tC3, cSeq, cAsg, gN, tCall3, addR_ii, mulR_ii, List.getElem?_cons_zero, List.getElem?_cons_succ, List.set_cons_zero, List.set_cons_succ, true_and, forI, b_purse_1]
    refine ⟨mulOk_r (by decide), (ns, k + j), rfl, by show 0 ≤ k + j; omega, ?_⟩
    rintro _ _ ⟨c', rfl, rfl⟩
    try simp only [addR_ii, modR_ii]
    refine ⟨by decide, mulOk_l (by decide), by decide, ?_⟩
    exact ih (fun x hx' => hx x (List.mem_cons_of_mem _ hx')) _ _ (by omega) (by omega) q
theorem rd_purse : ∀ ds h Q E, ClS h.length h → ClDs h.length ds → sp_purse ds h Q E → t_purse (ends3 (GQ h.length Q)) (start3 5 ds) h := by
  rintro ds h Q E _ _ ⟨⟨ns, k⟩, rfl, hk, q⟩
  try simp only [tV, tK, tO, tT, tN3, tC3, tNew, cNext, cSeq, cRet, cIf, cAsg, gN, tCall3, start3, ends3, powR_ii, List.getElem?_cons_zero, List.getElem?_cons_succ, List.set_cons_zero, List.set_cons_succ, List.map_cons, List.map_nil, List.cons_append, List.nil_append, List.length_cons, List.length_nil, List.replicate_succ, List.replicate_zero, Nat.reduceAdd, Nat.reduceSub, t_purse]
  refine ⟨(ns, k), rfl, hk.1, ?_⟩
  rintro _ _ ⟨c, rfl, rfl⟩
  try simp only [geR_ii, decide_eq_true_eq]
  refine ⟨by decide, ?_⟩
  split
  next h18 =>
    have : (0 : Int) ≤ 10 ^ (Int.toNat 18) := by decide
    exact .inl (q _ _ ⟨c, 0, ⟨by omega, by decide, by decide⟩, rfl, rfl⟩)
  next =>
    refine ⟨mulOk_l (by decide), by decide, ?_⟩
    have hk' : 0 ≤ k ∧ k < 1000 := hk
    refine purse_loop hk'.1 _ (fun x hx => ?_) _ _ (by omega) (by omega) fun seed o4 h0 h1 => ?_
    · obtain ⟨j, hj, rfl⟩ := List.mem_map.mp hx
      have := List.mem_range.mp hj
      exact ⟨j, rfl, by omega⟩
    · try simp only [tV, tK, tO, tN3, tC3, tNew, cRet, addR_ii, List.getElem?_cons_zero, List.getElem?_cons_succ]
      exact .inl (q _ _ ⟨0, seed + 1, ⟨by decide, by omega, by omega⟩, rfl, rfl⟩)

def b_take_1 : C3 :=
  (cSeq (cAsg (tO modR (tO mulR (tO ixR (tV 0) (tK (.int 1))) (tK (.int 48271))) (tK (.int 2147483647))) (gSub3 (tV 0) (tK (.int 1))))
    (cAsg (tO addR (tO mulR (tV 3) (tK (.int 2147483647))) (tO modR (tO mulR (tO ixR (tV 0) (tK (.int 1))) (tO ixR (tV 0) (tK (.int 1)))) (tK (.int 2147483629)))) (gN 3)))
def r_take_1 : C3 :=
  (cSeq (cAsg (tK (.int 0)) (gN 3))
    (cSeq (cFor (iRng (tC3 (tO addR (tK (.int 1)) (tO divR (tBits3 (tV 1)) (tK (.int 28)))) tN3)) (gN 4) b_take_1)
    (cRet (tO modR (tO divR (tV 3) (tK (.int 7))) (tV 1)))))
def t_take : C3 :=
  (cSeq (cIf (tT (tO eqR (tO ixR (tV 0) (tK (.int 1))) (tK (.int 0)))) (cSeq (cAsg (tO modR (tO ixR (tV 0) (tK (.int 0))) (tV 1)) (gN 2))
    (cSeq (cAsg (tO divR (tO ixR (tV 0) (tK (.int 0))) (tV 1)) (gSub3 (tV 0) (tK (.int 0))))
    (cRet (tV 2)))) cNext)
    r_take_1)

def sp_take : Sp3 := spR (fun (a : Nat × Int × Int × Int) => [.ref a.1, .int a.2.2.2]) (fun a h => h[a.1]? = some (draw a.2.1 a.2.2.1) ∧ DrawOk a.2.1 a.2.2.1 ∧ 0 < a.2.2.2 ∧ a.2.2.2 < 2 ^ 2000)
  (fun a h d h' => ∃ c s r : Int, DrawOk c s ∧ 0 ≤ r ∧ r < a.2.2.2 ∧ .int r = d ∧ h' = h.set a.1 (draw c s))
theorem mono_take : MonoS sp_take := mono_spR
theorem len_take : ∀ ds h Q E, sp_take ds h Q E → ds.length = 2 := len_spR fun _ => rfl
theorem getElem?_set_of {α : Type} {h : List α} {n : Nat} {c c' : α} (e : h[n]? = some c) : (h.set n c')[n]? = some c' := List.getElem?_set_self (List.getElem?_eq_some_iff.mp e).1
theorem intBits_le {n : Int} (h0 : 0 < n) (h : n < 2 ^ 2000) : Builtin.Int.intBits n ≤ 2001 := by
  unfold Builtin.Int.intBits
  split
  · omega
  · have : n.natAbs < 2 ^ 2000 := by omega
    have := PySem.Flt.log2_lt_of (by decide) this
    omega
theorem set_same {α : Type} {h : List α} {n : Nat} {c : α} (e : h[n]? = some c) : h.set n c = h := by
  apply List.ext_getElem?
  intro i
  by_cases hi : n = i
  · subst hi
    rw [getElem?_set_of e, e]
  · rw [List.getElem?_set_ne hi]
theorem take_loop {E : Ends3} {a : Nat} {c n : Int} {o2 : Option D} : ∀ (xs : List D) (h : Sto) (s found : Int) (o4 : Option D), h[a]? = some (draw c s) → 0 ≤ s → s < 2147483648 →
    (∀ (s found : Int) (o4 : Option D), 0 ≤ s → s < 2147483648 → E.nx [some (.ref a), some (.int n), o2, some (.int found), o4] (h.set a (draw c s))) →
    forI (gN 4) b_take_1 (fun _ => True) E xs [some (.ref a), some (.int n), o2, some (.int found), o4] h := by
  intro xs
  induction xs with
  | nil =>
    intro h s found o4 ha h0 h1 q
    have := q s found o4 h0 h1
    rw [set_same ha] at this
    exact ⟨trivial, this⟩
  | cons x r ih =>
    intro h s found o4 ha h0 h1 q
    have ha' : h[a]? = some (Cell.lst [.int c, .int s]) := ha
    have i1 : ∀ u v : D, atI [u, v] 1 = some v := fun _ _ => rfl
    have j1 : ixN 2 1 = some 1 := rfl
    try simp only [tV, tK, tO, cSeq, cAsg, gN, gSub3, onLst_some, mulR_ii, modR_ii, ixR_ri, atD_0, atD_1, setR_ri, List.getElem?_cons_zero, List.getElem?_cons_succ, List.set_cons_zero, List.set_cons_succ, List.length_cons, List.length_nil, Nat.reduceAdd, true_and, forI, b_take_1, ha', j1]
    refine ⟨mulOk_r (by decide), by decide, ?_⟩
    try simp only [onLst_some, addR_ii, mulR_ii, modR_ii, atD_0, atD_1, getElem?_set_of ha']
    refine ⟨mulOk_r (by decide), mulOk_l (by omega), by decide, ?_⟩
    refine ih _ (s * 48271 % 2147483647) _ _ (getElem?_set_of ha') (by omega) (by omega) fun s' f' o' g0 g1 => ?_
    rw [List.set_set]
    exact q s' f' o' g0 g1
theorem rd_take : ∀ ds h Q E, ClS h.length h → ClDs h.length ds → sp_take ds h Q E → t_take (ends3 (GQ h.length Q)) (start3 5 ds) h := by
  rintro ds h Q E _ _ ⟨⟨a, c, s, n⟩, rfl, ⟨ha, hd, hn0, hn1⟩, q⟩
  have ha' : h[a]? = some (Cell.lst [.int c, .int s]) := ha
  have hn0' : 0 < n := hn0
  have hn1' : n < 2 ^ 2000 := hn1
  have hd' : 0 ≤ c ∧ 0 ≤ s ∧ s < 2147483648 := hd
  have i1 : ∀ u v : D, atI [u, v] 1 = some v := fun _ _ => rfl
  have i0 : ∀ u v : D, atI [u, v] 0 = some u := fun _ _ => rfl
  have j0 : ixN 2 0 = some 0 := rfl
  have j1 : ixN 2 1 = some 1 := rfl
  have hdiv : divOk n := divOk_of hn0' (Int.lt_of_lt_of_le hn1' (by decide))
  try simp only [tV, tK, tO, tT, cNext, cSeq, cRet, cIf, cAsg, gN, gSub3, start3, ends3, onLst_some, divR_ii, modR_ii, eqR_ii, ixR_ri, atD_0, atD_1, setR_ri, ixN2_0, List.getElem?_cons_zero, List.getElem?_cons_succ, List.set_cons_zero, List.set_cons_succ, List.map_cons, List.map_nil, List.cons_append, List.nil_append, List.length_cons, List.length_nil, List.replicate_succ, List.replicate_zero, decide_eq_true_eq, Nat.reduceAdd, Nat.reduceSub, t_take, ha']
  split
  next hs =>
    refine ⟨hn0', hdiv, ?_⟩
    exact .inl (q _ _ ⟨c / n, s, c % n, ⟨Int.ediv_nonneg hd'.1 (by omega), hd'.2⟩, Int.emod_nonneg _ (by omega), Int.emod_lt_of_pos _ hn0', rfl, rfl⟩)
  next hs =>
    have hb := intBits_le hn0' hn1'
    refine ⟨⟨by decide, by decide⟩, ⟨by omega, by omega⟩, ?_⟩
    refine take_loop _ h s 0 _ ha hd'.2.1 hd'.2.2 fun s found o4 h0 h1 => ?_
    try simp only [tV, tK, tO, cRet, divR_ii, modR_ii, List.getElem?_cons_zero, List.getElem?_cons_succ]
    refine ⟨⟨by decide, by decide⟩, hn0', .inl (q _ _ ⟨c, s, found / 7 % n, ⟨hd'.1, h0, h1⟩, Int.emod_nonneg _ (by omega), Int.emod_lt_of_pos _ hn0', rfl, rfl⟩)⟩
end F3
/-! LQ: sizes and pairings drawn. -/
namespace F3
open PySem PySem.Spec PyProof.Rows L2

/-- a draw more from the purse at a -/
theorem take_at {a : Nat} {c s n : Int} {h : Sto} {Q : DK} {E : X3} (ha : h[a]? = some (draw c s)) (hd : DrawOk c s) (h0 : 0 < n) (h1 : n < 2 ^ 2000)
    (q : ∀ c s r : Int, DrawOk c s → 0 ≤ r → r < n → Q (.int r) (h.set a (draw c s))) : sp_take [.ref a, .int n] h Q E :=
  ⟨(a, c, s, n), rfl, ⟨ha, hd, h0, h1⟩, by
    rintro _ _ ⟨c, s, r, hd, h0, h1, rfl, rfl⟩
    exact q c s r hd h0 h1⟩
theorem atI3 {α : Type} {xs : List α} {r : Int} (h0 : 0 ≤ r) (h1 : r < xs.length) : ∃ x, x ∈ xs ∧ atI xs r = some x := by
  obtain ⟨x, e1, e2⟩ := atI_some (xs := xs) h0 h1
  exact ⟨x, List.mem_of_getElem? e2, e1⟩

def t_size : C3 :=
  (cRet (tCall3 sp_take (tC3 (tV 0) (tC3 (tIxX (tC3 (tK (.int 4)) (tC3 (tK (.int 12)) (tC3 (tK (.int 40)) (tC3 (tO powR (tK (.int 10)) (tK (.int 6))) (tC3 (tO powR (tK (.int 10)) (tK (.int 30))) (tC3 (tO powR (tK (.int 10)) (tK (.int 60))) tN3)))))) (tCall3 sp_take (tC3 (tV 0) (tC3 (tK (.int 6)) tN3)))) tN3))))

def sp_size : Sp3 := spR (fun (a : Nat × Int × Int) => [.ref a.1]) (fun a h => h[a.1]? = some (draw a.2.1 a.2.2) ∧ DrawOk a.2.1 a.2.2)
  (fun a h d h' => ∃ c s r : Int, DrawOk c s ∧ 0 ≤ r ∧ r < 10 ^ 60 ∧ .int r = d ∧ h' = h.set a.1 (draw c s))
theorem mono_size : MonoS sp_size := mono_spR
theorem len_size : ∀ ds h Q E, sp_size ds h Q E → ds.length = 1 := len_spR fun _ => rfl
theorem rd_size : ∀ ds h Q E, ClS h.length h → ClDs h.length ds → sp_size ds h Q E → t_size (ends3 (GQ h.length Q)) (start3 1 ds) h := by
  rintro ds h Q E _ _ ⟨⟨a, c, s⟩, rfl, ⟨ha, hd⟩, q⟩
  try simp only [tV, tK, tO, tN3, tC3, cRet, tCall3, tIxX, start3, ends3, powR_ii, List.getElem?_cons_zero, List.map_cons, List.map_nil, List.cons_append, List.nil_append, List.length_cons, List.length_nil, List.replicate_zero, Nat.reduceAdd, Nat.reduceSub, t_size]
  refine ⟨by decide, by decide, by decide, take_at ha hd (by decide) (by decide) fun c s r hd h0 h1 => ?_⟩
  refine atD_all h0 h1 fun x hx => ?_
  have hx : ∃ n : Int, x = .int n ∧ 0 < n ∧ n ≤ 10 ^ 60 := by
    simp only [List.mem_cons, List.not_mem_nil, or_false] at hx
    rcases hx with rfl | rfl | rfl | rfl | rfl | rfl <;> exact ⟨_, rfl, by decide, by decide⟩
  obtain ⟨n, rfl, hn0, hn1⟩ := hx
  refine take_at (getElem?_set_of ha) hd hn0 (Int.lt_of_le_of_lt hn1 (by decide)) fun c s r hd h0 h1 => ?_
  rw [List.set_set]
  exact .inl (q _ _ ⟨c, s, r, hd, h0, by omega, rfl, rfl⟩)
theorem size_at {a : Nat} {c s : Int} {h : Sto} {Q : DK} {E : X3} (ha : h[a]? = some (draw c s)) (hd : DrawOk c s)
    (q : ∀ c s r : Int, DrawOk c s → 0 ≤ r → r < 10 ^ 60 → Q (.int r) (h.set a (draw c s))) : sp_size [.ref a] h Q E :=
  ⟨(a, c, s), rfl, ⟨ha, hd⟩, by
    rintro _ _ ⟨c, s, r, hd, h0, h1, rfl, rfl⟩
    exact q c s r hd h0 h1⟩
/-- a pairing as a value -/
def pr (low high long : Int) (t : Bool) : D := .tup [.int low, .int high, .int long, .bl t]
def r_pairing_1 : C3 :=
  (cRet (tTup3 (tC3 (tV 1) (tC3 (tO addR (tV 1) (tV 4)) (tC3 (tV 2) (tC3 (tO eqR (tCall3 sp_take (tC3 (tV 0) (tC3 (tK (.int 2)) tN3))) (tK (.int 1))) tN3))))))
def t_pairing : C3 :=
  (cSeq (cAsg (tCall3 sp_size (tC3 (tV 0) tN3)) (gN 1))
    (cSeq (cAsg (tO addR (tK (.int 1)) (tCall3 sp_size (tC3 (tV 0) tN3))) (gN 2))
    (cSeq (cAsg (tCall3 sp_take (tC3 (tV 0) (tC3 (tK (.int 6)) tN3))) (gN 3))
    (cSeq (cAsg (tCall3 sp_size (tC3 (tV 0) tN3)) (gN 4))
    (cSeq (cIf (tT (tO ltR (tV 3) (tK (.int 4)))) (cAsg (tIxX (tC3 (tK (.int 0)) (tC3 (tO modR (tV 4) (tV 2)) (tC3 (tV 2) (tC3 (tO addR (tV 2) (tV 4)) tN3)))) (tV 3)) (gN 4)) cNext)
    r_pairing_1)))))

def sp_pairing : Sp3 := spR (fun (a : Nat × Int × Int) => [.ref a.1]) (fun a h => h[a.1]? = some (draw a.2.1 a.2.2) ∧ DrawOk a.2.1 a.2.2)
  (fun a h d h' => ∃ c s low gap long : Int, ∃ t : Bool, DrawOk c s ∧ 0 ≤ low ∧ 0 ≤ gap ∧ 1 ≤ long ∧ low < 10 ^ 60 ∧ gap ≤ 2 * 10 ^ 60 ∧ long ≤ 10 ^ 60 ∧ pr low (low + gap) long t = d ∧ h' = h.set a.1 (draw c s))
theorem mono_pairing : MonoS sp_pairing := mono_spR
theorem len_pairing : ∀ ds h Q E, sp_pairing ds h Q E → ds.length = 1 := len_spR fun _ => rfl
theorem rd_pairing : ∀ ds h Q E, ClS h.length h → ClDs h.length ds → sp_pairing ds h Q E → t_pairing (ends3 (GQ h.length Q)) (start3 5 ds) h := by
  rintro ds h Q E _ _ ⟨⟨a, c, s⟩, rfl, ⟨ha, hd⟩, q⟩
  try simp only [tV, tK, tO, tT, tN3, tC3, cNext, cSeq, cIf, cAsg, gN, tCall3, tIxX, start3, ends3, List.getElem?_cons_zero, List.getElem?_cons_succ, List.set_cons_zero, List.set_cons_succ, List.map_cons, List.map_nil, List.cons_append, List.nil_append, List.length_cons, List.length_nil, List.replicate_succ, List.replicate_zero, Nat.reduceAdd, Nat.reduceSub, t_pairing]
  refine size_at ha hd fun c s low hd l0 l1 => ?_
  have ha := getElem?_set_of (c' := draw c s) ha
  refine size_at ha hd fun c s long hd g0 g1 => ?_
  have ha := getElem?_set_of (c' := draw c s) ha
  try simp only [addR_ii]
  refine take_at ha hd (by decide) (by decide) fun c s way hd w0 w1 => ?_
  have ha := getElem?_set_of (c' := draw c s) ha
  refine size_at ha hd fun c s gap hd p0 p1 => ?_
  have ha := getElem?_set_of (c' := draw c s) ha
  try simp only [addR_ii, modR_ii, ltR_ii, decide_eq_true_eq, List.set_set]
  try simp only [List.set_set] at ha
  have fin : ∀ gap : Int, 0 ≤ gap → gap ≤ 2 * 10 ^ 60 → r_pairing_1 (ends3 (GQ h.length Q)) [some (.ref a), some (.int low), some (.int (1 + long)), some (.int way), some (.int gap)] (h.set a (draw c s)) := fun gap q0 q1 => by
    try simp only [tV, tK, tO, tN3, tC3, tTup3, cRet, tCall3, ends3, addR_ii, List.getElem?_cons_zero, List.getElem?_cons_succ, r_pairing_1]
    refine take_at ha hd (by decide) (by decide) fun c s r hd h0 h1 => ?_
    try simp only [eqR_ii, List.set_set]
    exact .inl (q _ _ ⟨c, s, low, gap, 1 + long, decide (r = 1), hd, l0, q0, by omega, l1, q1, by omega, rfl, rfl⟩)
  split
  next hw =>
    refine ⟨by omega, ?_⟩
    refine atD_all w0 hw fun x hx => ?_
    have hx : ∃ n : Int, x = .int n ∧ 0 ≤ n ∧ n ≤ 2 * 10 ^ 60 := by
      have m0 := Int.emod_nonneg gap (show (1 + long) ≠ 0 by omega)
      have m1 := Int.emod_lt_of_pos gap (show 0 < 1 + long by omega)
      simp only [List.mem_cons, List.not_mem_nil, or_false] at hx
      rcases hx with rfl | rfl | rfl | rfl <;> exact ⟨_, rfl, by omega, by omega⟩
    obtain ⟨n, rfl, hn0, hn1⟩ := hx
    exact fin n hn0 hn1
  next hw => exact fin gap p0 (by omega)
theorem pairing_at {a : Nat} {c s : Int} {h : Sto} {Q : DK} {E : X3} (ha : h[a]? = some (draw c s)) (hd : DrawOk c s)
    (q : ∀ c s low gap long t, DrawOk c s → 0 ≤ low → 0 ≤ gap → 1 ≤ long → low < 10 ^ 60 → gap ≤ 2 * 10 ^ 60 → long ≤ 10 ^ 60 → Q (pr low (low + gap) long t) (h.set a (draw c s))) : sp_pairing [.ref a] h Q E :=
  ⟨(a, c, s), rfl, ⟨ha, hd⟩, by
    rintro _ _ ⟨c, s, low, gap, long, t, hd, h0, h1, h2, h3, h4, h5, rfl, rfl⟩
    exact q c s low gap long t hd h0 h1 h2 h3 h4 h5⟩
end F3
/-! LR: pairings of the program: is_whole, is_pairing, paired, partner, forth, back, is_turn. -/
namespace F3
open PySem PySem.Spec PyProof.Rows L2

def isW : D → Bool
  | .int _ => true
  | _ => false
/-- a thing whose class is known -/
def Kn (h : Sto) (d : D) : Prop := ∃ a, tyN d h = some a
def t_is_whole : C3 :=
  (cRet (tAndE (tB3 isiR (tC3 (tV 0) (tC3 (tK (.ty "int")) tN3))) (tNotE (tB3 isiR (tC3 (tV 0) (tC3 (tK (.ty "bool")) tN3))))))

def sp_is_whole : Sp3 := spD (fun (d : D) => [d]) (fun d h => Kn h d) (fun d _ => .bl (isW d)) (fun _ h => h)
theorem mono_is_whole : MonoS sp_is_whole := mono_spD
theorem len_is_whole : ∀ ds h Q E, sp_is_whole ds h Q E → ds.length = 1 := len_spD fun _ => rfl
theorem tyN_w {d : D} {h : Sto} {a : String} (e : tyN d h = some a) : (isT a "int" && !isT a "bool") = isW d ∧ (isT a "bool" = true → ∃ b, d = .bl b) ∧ (isT a "tuple" = true → ∃ xs, d = .tup xs) := by
  have no : ∀ {a T : String}, isT a T = false → isT a T = true → False := fun h1 h2 => by rw [h1] at h2; cases h2
  have nob : ∀ {a : String} {d : D}, isT a "int" = false → isT a "bool" = false → isT a "tuple" = false → isW d = false → (isT a "int" && !isT a "bool") = isW d ∧ (isT a "bool" = true → ∃ b, d = .bl b) ∧ (isT a "tuple" = true → ∃ xs, d = .tup xs) := fun h1 h2 h3 h4 =>
    ⟨by rw [h1, h4]; rfl, fun h => (no h2 h).elim, fun h => (no h3 h).elim⟩
  cases d with
  | ref n =>
    simp only [tyN] at e
    split at e <;> first | (cases e; exact nob (by decide) (by decide) (by decide) rfl) | (cases e)
  | non => cases e; exact nob (by decide) (by decide) (by decide) rfl
  | bl b => cases e; exact ⟨rfl, fun _ => ⟨b, rfl⟩, fun h => (no (by decide) h).elim⟩
  | int b => cases e; exact ⟨rfl, fun h => (no (by decide) h).elim, fun h => (no (by decide) h).elim⟩
  | str b => cases e; exact nob (by decide) (by decide) (by decide) rfl
  | tup b => cases e; exact ⟨rfl, fun h => (no (by decide) h).elim, fun _ => ⟨b, rfl⟩⟩
  | fl b => cases e; exact nob (by decide) (by decide) (by decide) rfl
  | ty b => cases e
  | adr b => cases e
theorem rd_is_whole : ∀ ds h Q E, ClS h.length h → ClDs h.length ds → sp_is_whole ds h Q E → t_is_whole (ends3 (GQ h.length Q)) (start3 1 ds) h := by
  rintro ds h Q E _ _ ⟨d, rfl, ⟨a, e⟩, q⟩
  try simp only [tV, tK, tNotE, tN3, tC3, cRet, tB3, start3, ends3, isB_some, isiR_int, isiR_bool, ifB_b, tAndE_eq, List.getElem?_cons_zero, List.map_cons, List.map_nil, List.cons_append, List.nil_append, List.length_cons, List.length_nil, List.replicate_zero, Nat.reduceAdd, Nat.reduceSub, t_is_whole, e]
  have e2 := (tyN_w e).1
  have q' : Q (.bl (isW d)) h := q
  rw [← e2] at q'
  cases h1 : isT a "int" <;> cases h2 : isT a "bool" <;> simp only [h1, h2, Bool.not_true, Bool.not_false, Bool.and_true, Bool.and_false, Bool.true_and, Bool.false_and, if_true, if_false, Bool.false_eq_true] at q' ⊢ <;> exact .inl q'
theorem whole_at {d : D} {h : Sto} {Q : DK} {E : X3} (hk : Kn h d) (q : Q (.bl (isW d)) h) : sp_is_whole [d] h Q E := ⟨d, rfl, hk, q⟩
theorem kn_int {h : Sto} {i : Int} : Kn h (.int i) := ⟨_, rfl⟩
theorem kn_bl {h : Sto} {i : Bool} : Kn h (.bl i) := ⟨_, rfl⟩
theorem kn_tup {h : Sto} {i : List D} : Kn h (.tup i) := ⟨_, rfl⟩
theorem kn_str {h : Sto} {i : Str} : Kn h (.str i) := ⟨_, rfl⟩
theorem kn_non {h : Sto} : Kn h .non := ⟨_, rfl⟩
theorem kn_lst {h : Sto} {n : Nat} {xs : List D} (e : h[n]? = some (.lst xs)) : Kn h (.ref n) := ⟨_, tyN_r e⟩

def isPairing : D → Bool
  | .tup [.int low, .int high, .int long, .bl _] => decide (0 ≤ low) && (decide (low ≤ high) && decide (1 ≤ long))
  | _ => false
def r_is_pairing_2 : C3 :=
  (cRet (tAndE (tCh leR leR (tK (.int 0)) (tV 1) (tV 2)) (tO geR (tV 3) (tK (.int 1)))))
def r_is_pairing_1 : C3 :=
  (cSeq (cAsg (tV 0) (gTup3 4 (gCons3 (gN 1) (gCons3 (gN 2) (gCons3 (gN 3) (gCons3 (gN 4) gNil3))))))
    (cSeq (cIf (tOr3 (tNot3 (tT (tCall3 sp_is_whole (tC3 (tV 1) tN3)))) (tOr3 (tNot3 (tT (tCall3 sp_is_whole (tC3 (tV 2) tN3)))) (tOr3 (tNot3 (tT (tCall3 sp_is_whole (tC3 (tV 3) tN3)))) (tNot3 (tT (tB3 isiR (tC3 (tV 4) (tC3 (tK (.ty "bool")) tN3)))))))) (cRet (tK (.bl false))) cNext)
    r_is_pairing_2))
def t_is_pairing : C3 :=
  (cSeq (cIf (tOr3 (tNot3 (tT (tB3 isiR (tC3 (tV 0) (tC3 (tK (.ty "tuple")) tN3))))) (tT (tO neR (tB3 lenR (tC3 (tV 0) tN3)) (tK (.int 4))))) (cRet (tK (.bl false))) cNext)
    r_is_pairing_1)

def sp_is_pairing : Sp3 := spD (fun (d : D) => [d]) (fun d h => Kn h d ∧ ∀ xs, d = .tup xs → ∀ x ∈ xs, Kn h x) (fun d _ => .bl (isPairing d)) (fun _ h => h)
theorem mono_is_pairing : MonoS sp_is_pairing := mono_spD
theorem len_is_pairing : ∀ ds h Q E, sp_is_pairing ds h Q E → ds.length = 1 := len_spD fun _ => rfl
theorem isW_int {d : D} (h : isW d = true) : ∃ i, d = .int i := by
  cases d <;> first | exact ⟨_, rfl⟩ | cases h
theorem not_pairing {d : D} (h : ∀ xs, d = .tup xs → xs.length ≠ 4) : isPairing d = false := by
  unfold isPairing
  split
  · exact absurd rfl (h _ rfl)
  · rfl
theorem not_pairing4 {a b c t : D} (h : isW a = false ∨ isW b = false ∨ isW c = false ∨ ∀ x, t ≠ .bl x) : isPairing (.tup [a, b, c, t]) = false := by
  unfold isPairing
  split
  next e =>
    cases e
    rcases h with h | h | h | h
    · cases h
    · cases h
    · cases h
    · exact absurd rfl (h _)
  · rfl
theorem rd_is_pairing : ∀ ds h Q E, ClS h.length h → ClDs h.length ds → sp_is_pairing ds h Q E → t_is_pairing (ends3 (GQ h.length Q)) (start3 5 ds) h := by
  rintro ds h Q E _ _ ⟨d, rfl, ⟨⟨ty, e⟩, hk⟩, q⟩
  have q' : Q (.bl (isPairing d)) h := q
  try simp only [tV, tK, tO, tT, tOr3, tNot3, tN3, tC3, cNext, cSeq, cRet, cIf, tB3, start3, ends3, isB_some, isiR_tuple, List.getElem?_cons_zero, List.map_cons, List.map_nil, List.cons_append, List.nil_append, List.length_cons, List.length_nil, List.replicate_succ, List.replicate_zero, Bool.not_eq_true', Nat.reduceAdd, Nat.reduceSub, if_true, t_is_pairing, e]
  cases ht : isT ty "tuple" with
  | false =>
    try simp only [if_true]
    rw [not_pairing] at q'
    · exact .inl q'
    · rintro xs rfl
      cases e
      exact absurd ht (by decide)
  | true =>
    obtain ⟨xs, rfl⟩ := (tyN_w e).2.2 ht
    try simp only [neR_ii, lenR_t, Bool.not_eq_true', decide_eq_false_iff_not, Bool.true_eq_false, if_false]
    by_cases hl : (xs.length : Int) = 4
    · match xs, hl, hk xs rfl, q' with
      | [a, b, c, t], _, hk, q' =>
        have ka := hk a (by simp)
        have kb := hk b (by simp)
        have kc := hk c (by simp)
        obtain ⟨tt, et⟩ := hk t (by simp)
        try simp only [tV, tK, tT, tOr3, tNot3, tN3, tC3, cNext, cSeq, cRet, cIf, cAsg, gN, gNil3, gCons3, gTup3, tCall3, tB3, isiR_bool, List.getElem?_cons_zero, List.getElem?_cons_succ, List.set_cons_zero, List.set_cons_succ, List.length_cons, List.length_nil, Bool.not_eq_true', Nat.reduceAdd, true_and, if_true, r_is_pairing_1]
        refine whole_at ka ?_
        cases wa : isW a with
        | false => try simp only [if_true]; rw [not_pairing4 (.inl wa)] at q'; exact .inl q'
        | true =>
          try simp only [Bool.true_eq_false, if_false]
          refine whole_at kb ?_
          cases wb : isW b with
          | false => try simp only [if_true]; rw [not_pairing4 (.inr (.inl wb))] at q'; exact .inl q'
          | true =>
            try simp only [Bool.true_eq_false, if_false]
            refine whole_at kc ?_
            cases wc : isW c with
            | false => try simp only [if_true]; rw [not_pairing4 (.inr (.inr (.inl wc)))] at q'; exact .inl q'
            | true =>
              try simp only [isB_some, Bool.true_eq_false, if_false, et]
              cases wt : isT tt "bool" with
              | false =>
                try simp only [if_true]
                rw [not_pairing4 (.inr (.inr (.inr ?_)))] at q'
                · exact .inl q'
                · rintro x rfl
                  cases et
                  exact absurd wt (by decide)
              | true =>
                obtain ⟨x, rfl⟩ := (tyN_w et).2.1 wt
                obtain ⟨low, rfl⟩ := isW_int wa
                obtain ⟨high, rfl⟩ := isW_int wb
                obtain ⟨long, rfl⟩ := isW_int wc
                try simp only [tV, tK, tO, cRet, leR_ii, geR_ii, ifB_b, tAndE_eq, tCh_eq, List.getElem?_cons_zero, List.getElem?_cons_succ, decide_eq_true_eq, Bool.true_eq_false, Bool.false_eq_true, if_false, r_is_pairing_2]
                have q2 : Q (.bl (decide (0 ≤ low) && (decide (low ≤ high) && decide (1 ≤ long)))) h := q'
                by_cases h1 : 0 ≤ low <;> by_cases h2 : low ≤ high <;> by_cases h3 : 1 ≤ long <;> simp only [h1, h2, h3, decide_true, decide_false, Bool.and_true, Bool.and_false, Bool.true_and, Bool.false_and, if_true, if_false, Bool.false_eq_true] at q2 ⊢ <;> exact .inl q2
    · simp only [hl, decide_false, Bool.not_false, if_true]
      rw [not_pairing] at q'
      · exact .inl q'
      · rintro ys e2 hl'
        cases e2
        exact hl (by omega)
theorem pairing_is {d : D} {h : Sto} {Q : DK} {E : X3} (hk : Kn h d) (hk2 : ∀ xs, d = .tup xs → ∀ x ∈ xs, Kn h x) (q : Q (.bl (isPairing d)) h) : sp_is_pairing [d] h Q E := ⟨d, rfl, ⟨hk, hk2⟩, q⟩
theorem pairing_is4 {a b c : Int} {t : Bool} {h : Sto} {Q : DK} {E : X3} (q : Q (.bl (isPairing (pr a b c t))) h) : sp_is_pairing [pr a b c t] h Q E :=
  pairing_is ⟨_, rfl⟩ (fun xs e x hx => by
    cases e
    simp only [List.mem_cons, List.not_mem_nil, or_false] at hx
    rcases hx with rfl | rfl | rfl | rfl
    · exact kn_int
    · exact kn_int
    · exact kn_int
    · exact kn_bl) q

def t_paired : C3 :=
  (cRet (tTup3 (tC3 (tB3 minR (tC3 (tV 0) (tC3 (tV 1) tN3))) (tC3 (tB3 maxR (tC3 (tV 0) (tC3 (tV 1) tN3))) (tC3 (tV 2) (tC3 (tV 3) tN3))))))

def mn (a b : Int) : Int := if b < a then b else a
def mx (a b : Int) : Int := if b > a then b else a
def sp_paired : Sp3 := spD (fun (a : Int × Int × Int × Bool) => [.int a.1, .int a.2.1, .int a.2.2.1, .bl a.2.2.2]) (fun _ _ => True) (fun a _ => pr (mn a.1 a.2.1) (mx a.1 a.2.1) a.2.2.1 a.2.2.2) (fun _ h => h)
theorem mono_paired : MonoS sp_paired := mono_spD
theorem len_paired : ∀ ds h Q E, sp_paired ds h Q E → ds.length = 4 := len_spD fun _ => rfl
theorem rd_paired : ∀ ds h Q E, ClS h.length h → ClDs h.length ds → sp_paired ds h Q E → t_paired (ends3 (GQ h.length Q)) (start3 4 ds) h := by
  rintro ds h Q E _ _ ⟨⟨a, b, c, t⟩, rfl, _, q⟩
  try simp only [tV, tN3, tC3, tTup3, cRet, tB3, start3, ends3, minR_ii, maxR_ii, List.getElem?_cons_zero, List.getElem?_cons_succ, List.map_cons, List.map_nil, List.cons_append, List.nil_append, List.length_cons, List.length_nil, List.replicate_zero, Nat.reduceAdd, Nat.reduceSub, t_paired]
  exact .inl q

/-- to where a place is led -/
def partnerV (b g l : Int) (t : Bool) (p : Int) : Option Int := if b ≤ p ∧ p < b + l then some (if t = true then g + b + l - 1 - p else g + p - b) else none
def optD : Option Int → D
  | some i => .int i
  | none => .non
def r_partner_2 : C3 :=
  (cRet (tO subR (tO addR (tV 1) (tV 4)) (tV 0)))
def r_partner_1 : C3 :=
  (cSeq (cIf (tT (tV 3)) (cRet (tO subR (tO subR (tO addR (tO addR (tV 1) (tV 0)) (tV 2)) (tK (.int 1))) (tV 4))) cNext)
    r_partner_2)
def t_partner : C3 :=
  (cSeq (cIf (tNot3 (tT (tCh leR ltR (tV 0) (tV 4) (tO addR (tV 0) (tV 2))))) (cRet (tK .non)) cNext)
    r_partner_1)

def sp_partner : Sp3 := spD (fun (a : Int × Int × Int × Bool × Int) => [.int a.1, .int a.2.1, .int a.2.2.1, .bl a.2.2.2.1, .int a.2.2.2.2]) (fun _ _ => True) (fun a _ => optD (partnerV a.1 a.2.1 a.2.2.1 a.2.2.2.1 a.2.2.2.2)) (fun _ h => h)
theorem mono_partner : MonoS sp_partner := mono_spD
theorem len_partner : ∀ ds h Q E, sp_partner ds h Q E → ds.length = 5 := len_spD fun _ => rfl
theorem rd_partner : ∀ ds h Q E, ClS h.length h → ClDs h.length ds → sp_partner ds h Q E → t_partner (ends3 (GQ h.length Q)) (start3 5 ds) h := by
  rintro ds h Q E _ _ ⟨⟨b, g, l, t, p⟩, rfl, _, q⟩
  have q' : Q (optD (if b ≤ p ∧ p < b + l then some (if t = true then g + b + l - 1 - p else g + p - b) else none)) h := q
  try simp only [tV, tK, tO, tT, tNot3, cNext, cSeq, cRet, cIf, start3, ends3, addR_ii, ltR_ii, leR_ii, ifB_b, tCh_eq, List.getElem?_cons_zero, List.getElem?_cons_succ, List.map_cons, List.map_nil, List.cons_append, List.nil_append, List.length_cons, List.length_nil, List.replicate_zero, decide_eq_true_eq, Bool.not_eq_true', decide_eq_false_iff_not, Nat.reduceAdd, Nat.reduceSub, if_true, t_partner]
  by_cases h1 : b ≤ p
  · by_cases h2 : p < b + l
    · simp only [h1, h2, and_self, if_true, optD] at q'
      simp only [h1, h2, if_true, decide_true, Bool.not_true, Bool.false_eq_true, if_false]
      try simp only [tV, tK, tO, tT, cNext, cSeq, cRet, cIf, addR_ii, subR_ii, List.getElem?_cons_zero, List.getElem?_cons_succ, if_false, not_true_eq_false, r_partner_1, r_partner_2]
      cases t
      · exact .inl q'
      · exact .inl q'
    · simp only [h2, and_false, if_false, optD] at q'
      simp only [h1, h2, if_true, decide_false, Bool.not_false]
      exact .inl q'
  · simp only [h1, false_and, if_false, optD] at q'
    simp only [h1, if_false, Bool.not_false, if_true]
    exact .inl q'
def t_forth : C3 :=
  (cSeq (cAsg (tV 0) (gTup3 4 (gCons3 (gN 2) (gCons3 (gN 3) (gCons3 (gN 4) (gCons3 (gN 5) gNil3))))))
    (cRet (tCall3 sp_partner (tC3 (tV 2) (tC3 (tV 3) (tC3 (tV 4) (tC3 (tV 5) (tC3 (tV 1) tN3))))))))

def t_back : C3 :=
  (cSeq (cAsg (tV 0) (gTup3 4 (gCons3 (gN 2) (gCons3 (gN 3) (gCons3 (gN 4) (gCons3 (gN 5) gNil3))))))
    (cRet (tCall3 sp_partner (tC3 (tV 3) (tC3 (tV 2) (tC3 (tV 4) (tC3 (tV 5) (tC3 (tV 1) tN3))))))))

def sp_forth : Sp3 := spD (fun (a : Int × Int × Int × Bool × Int) => [pr a.1 a.2.1 a.2.2.1 a.2.2.2.1, .int a.2.2.2.2]) (fun _ _ => True) (fun a _ => optD (partnerV a.1 a.2.1 a.2.2.1 a.2.2.2.1 a.2.2.2.2)) (fun _ h => h)
theorem mono_forth : MonoS sp_forth := mono_spD
theorem len_forth : ∀ ds h Q E, sp_forth ds h Q E → ds.length = 2 := len_spD fun _ => rfl
theorem rd_forth : ∀ ds h Q E, ClS h.length h → ClDs h.length ds → sp_forth ds h Q E → t_forth (ends3 (GQ h.length Q)) (start3 6 ds) h := by
  rintro ds h Q E _ _ ⟨⟨b, g, l, t, p⟩, rfl, _, q⟩
  try simp only [tV, tN3, tC3, cSeq, cRet, cAsg, gN, gNil3, gCons3, gTup3, tCall3, start3, ends3, List.getElem?_cons_zero, List.getElem?_cons_succ, List.set_cons_zero, List.set_cons_succ, List.map_cons, List.map_nil, List.cons_append, List.nil_append, List.length_cons, List.length_nil, List.replicate_succ, List.replicate_zero, Nat.reduceAdd, Nat.reduceSub, true_and, t_forth, pr]
  exact ⟨(b, g, l, t, p), rfl, trivial, .inl q⟩
def sp_back : Sp3 := spD (fun (a : Int × Int × Int × Bool × Int) => [pr a.1 a.2.1 a.2.2.1 a.2.2.2.1, .int a.2.2.2.2]) (fun _ _ => True) (fun a _ => optD (partnerV a.2.1 a.1 a.2.2.1 a.2.2.2.1 a.2.2.2.2)) (fun _ h => h)
theorem mono_back : MonoS sp_back := mono_spD
theorem len_back : ∀ ds h Q E, sp_back ds h Q E → ds.length = 2 := len_spD fun _ => rfl
theorem rd_back : ∀ ds h Q E, ClS h.length h → ClDs h.length ds → sp_back ds h Q E → t_back (ends3 (GQ h.length Q)) (start3 6 ds) h := by
  rintro ds h Q E _ _ ⟨⟨b, g, l, t, p⟩, rfl, _, q⟩
  try simp only [tV, tN3, tC3, cSeq, cRet, cAsg, gN, gNil3, gCons3, gTup3, tCall3, start3, ends3, List.getElem?_cons_zero, List.getElem?_cons_succ, List.set_cons_zero, List.set_cons_succ, List.map_cons, List.map_nil, List.cons_append, List.nil_append, List.length_cons, List.length_nil, List.replicate_succ, List.replicate_zero, Nat.reduceAdd, Nat.reduceSub, true_and, t_back, pr]
  exact ⟨(g, b, l, t, p), rfl, trivial, .inl q⟩
theorem forth_at {b g l p : Int} {t : Bool} {h : Sto} {Q : DK} {E : X3} (q : Q (optD (partnerV b g l t p)) h) : sp_forth [pr b g l t, .int p] h Q E := ⟨(b, g, l, t, p), rfl, trivial, q⟩
theorem back_at {b g l p : Int} {t : Bool} {h : Sto} {Q : DK} {E : X3} (q : Q (optD (partnerV g b l t p)) h) : sp_back [pr b g l t, .int p] h Q E := ⟨(b, g, l, t, p), rfl, trivial, q⟩
theorem paired_at {a b l : Int} {t : Bool} {h : Sto} {Q : DK} {E : X3} (q : Q (pr (mn a b) (mx a b) l t) h) : sp_paired [.int a, .int b, .int l, .bl t] h Q E := ⟨(a, b, l, t), rfl, trivial, q⟩
theorem purse_at {ns : List Int} {k : Int} {h : Sto} {Q : DK} {E : X3} (h0 : 0 ≤ k) (h1 : k < 1000) (q : ∀ c s, DrawOk c s → Q (.ref h.length) (h ++ [draw c s])) : sp_purse [.fl (ns.map .int), .int k] h Q E :=
  ⟨(ns, k), rfl, ⟨h0, h1⟩, by
    rintro _ _ ⟨c, s, hd, rfl, rfl⟩
    exact q c s hd⟩
end F3
/-! LS: the laws' helps about pairings: tiny ones, a place's mate, places to ask. -/
namespace F3
open PySem PySem.Spec PyProof.Rows L2

/-- a law's walk: the cells asked -/
theorem cells_range {n : Int} (hn : n ≤ 1000) : ∀ x ∈ (List.range n.toNat).map fun (k : Nat) => D.int k, ∃ j : Int, x = .int j ∧ 0 ≤ j ∧ j < 1000 := fun x hx => by
  obtain ⟨j, hj, rfl⟩ := List.mem_map.mp hx
  have := List.mem_range.mp hj
  exact ⟨j, rfl, by omega, by omega⟩
theorem min_len {n m : Int} {ns : List Int} (h0 : 0 ≤ n) (h1 : n ≤ 500) : -(2 ^ 62) ≤ (1 + if ((ns.map D.int).length : Int) < n then ((ns.map D.int).length : Int) else n) ∧ (1 + if ((ns.map D.int).length : Int) < n then ((ns.map D.int).length : Int) else n) < 2 ^ 62 ∧ (1 + if ((ns.map D.int).length : Int) < n then ((ns.map D.int).length : Int) else n) ≤ 1000 := by
  split <;> omega

def t_tiny : C3 :=
  (cSeq (cAsg (tO addR (tK (.int 1)) (tCall3 sp_take (tC3 (tV 0) (tC3 (tK (.int 20)) tN3)))) (gN 1))
    (cSeq (cAsg (tCall3 sp_take (tC3 (tV 0) (tC3 (tK (.int 20)) tN3))) (gN 2))
    (cSeq (cAsg (tIxX (tC3 (tK (.int 0)) (tC3 (tCall3 sp_take (tC3 (tV 0) (tC3 (tV 1) tN3))) (tC3 (tV 1) (tC3 (tCall3 sp_take (tC3 (tV 0) (tC3 (tK (.int 40)) tN3))) tN3)))) (tCall3 sp_take (tC3 (tV 0) (tC3 (tK (.int 4)) tN3)))) (gN 3))
    (cRet (tTup3 (tC3 (tV 2) (tC3 (tO addR (tV 2) (tV 3)) (tC3 (tV 1) (tC3 (tO eqR (tCall3 sp_take (tC3 (tV 0) (tC3 (tK (.int 2)) tN3))) (tK (.int 1))) tN3)))))))))

def sp_tiny : Sp3 := spR (fun (a : Nat × Int × Int) => [.ref a.1]) (fun a h => h[a.1]? = some (draw a.2.1 a.2.2) ∧ DrawOk a.2.1 a.2.2)
  (fun a h d h' => ∃ c s low gap long : Int, ∃ t : Bool, DrawOk c s ∧ 0 ≤ low ∧ 0 ≤ gap ∧ 1 ≤ long ∧ low < 20 ∧ gap < 40 ∧ long ≤ 20 ∧ pr low (low + gap) long t = d ∧ h' = h.set a.1 (draw c s))
theorem mono_tiny : MonoS sp_tiny := mono_spR
theorem len_tiny : ∀ ds h Q E, sp_tiny ds h Q E → ds.length = 1 := len_spR fun _ => rfl
theorem rd_tiny : ∀ ds h Q E, ClS h.length h → ClDs h.length ds → sp_tiny ds h Q E → t_tiny (ends3 (GQ h.length Q)) (start3 4 ds) h := by
  rintro ds h Q E _ _ ⟨⟨a, c, s⟩, rfl, ⟨ha, hd⟩, q⟩
  try simp only [tV, tK, tO, tN3, tC3, tTup3, cSeq, cRet, cAsg, gN, tCall3, tIxX, start3, ends3, List.getElem?_cons_zero, List.getElem?_cons_succ, List.set_cons_zero, List.set_cons_succ, List.map_cons, List.map_nil, List.cons_append, List.nil_append, List.length_cons, List.length_nil, List.replicate_succ, List.replicate_zero, Nat.reduceAdd, Nat.reduceSub, t_tiny]
  refine take_at ha hd (by decide) (by decide) fun c s long hd l0 l1 => ?_
  have ha := getElem?_set_of (c' := draw c s) ha
  try simp only [addR_ii]
  refine take_at ha hd (by decide) (by decide) fun c s low hd m0 m1 => ?_
  have ha := getElem?_set_of (c' := draw c s) ha
  skip
  refine take_at ha hd (by omega) (by omega) fun c s g1 hd g0 g1' => ?_
  have ha := getElem?_set_of (c' := draw c s) ha
  skip
  refine take_at ha hd (by decide) (by decide) fun c s g2 hd k0 k1 => ?_
  have ha := getElem?_set_of (c' := draw c s) ha
  skip
  refine take_at ha hd (by decide) (by decide) fun c s way hd w0 w1 => ?_
  have ha := getElem?_set_of (c' := draw c s) ha
  refine atD_all w0 w1 fun x hx => ?_
  have hx : ∃ n : Int, x = .int n ∧ 0 ≤ n ∧ n < 40 := by
    simp only [List.mem_cons, List.not_mem_nil, or_false] at hx
    rcases hx with rfl | rfl | rfl | rfl <;> exact ⟨_, rfl, by omega, by omega⟩
  obtain ⟨gap, rfl, hn0, hn1⟩ := hx
  try simp only [addR_ii]
  refine take_at ha hd (by decide) (by decide) fun c s r hd h0 h1 => ?_
  try simp only [eqR_ii, List.set_set]
  exact .inl (q _ _ ⟨c, s, low, gap, 1 + long, decide (r = 1), hd, m0, hn0, by omega, m1, hn1, by omega, rfl, rfl⟩)
theorem tiny_at {a : Nat} {c s : Int} {h : Sto} {Q : DK} {E : X3} (ha : h[a]? = some (draw c s)) (hd : DrawOk c s)
    (q : ∀ c s low gap long t, DrawOk c s → 0 ≤ low → 0 ≤ gap → 1 ≤ long → low < 20 → gap < 40 → long ≤ 20 → Q (pr low (low + gap) long t) (h.set a (draw c s))) : sp_tiny [.ref a] h Q E :=
  ⟨(a, c, s), rfl, ⟨ha, hd⟩, by
    rintro _ _ ⟨c, s, low, gap, long, t, hd, h0, h1, h2, h3, h4, h5, rfl, rfl⟩
    exact q c s low gap long t hd h0 h1 h2 h3 h4 h5⟩
def r_mate_1 : C3 :=
  (cRet (tO addR (tV 3) (tV 1)))
def t_mate : C3 :=
  (cSeq (cAsg (tV 0) (gTup3 4 (gCons3 (gN 2) (gCons3 (gN 3) (gCons3 (gN 4) (gCons3 (gN 5) gNil3))))))
    (cSeq (cIf (tT (tV 5)) (cRet (tO subR (tO subR (tO addR (tV 3) (tV 4)) (tK (.int 1))) (tV 1))) cNext)
    r_mate_1))

def mate (high long : Int) (t : Bool) (i : Int) : Int := if t = true then high + long - 1 - i else high + i
def sp_mate : Sp3 := spD (fun (a : Int × Int × Int × Bool × Int) => [pr a.1 a.2.1 a.2.2.1 a.2.2.2.1, .int a.2.2.2.2]) (fun _ _ => True) (fun a _ => .int (mate a.2.1 a.2.2.1 a.2.2.2.1 a.2.2.2.2)) (fun _ h => h)
theorem mono_mate : MonoS sp_mate := mono_spD
theorem len_mate : ∀ ds h Q E, sp_mate ds h Q E → ds.length = 2 := len_spD fun _ => rfl
theorem rd_mate : ∀ ds h Q E, ClS h.length h → ClDs h.length ds → sp_mate ds h Q E → t_mate (ends3 (GQ h.length Q)) (start3 6 ds) h := by
  rintro ds h Q E _ _ ⟨⟨b, g, l, t, p⟩, rfl, _, q⟩
  try simp only [tV, tK, tO, tT, cNext, cSeq, cRet, cIf, cAsg, gN, gNil3, gCons3, gTup3, start3, ends3, addR_ii, subR_ii, List.getElem?_cons_zero, List.getElem?_cons_succ, List.set_cons_zero, List.set_cons_succ, List.map_cons, List.map_nil, List.cons_append, List.nil_append, List.length_cons, List.length_nil, List.replicate_succ, List.replicate_zero, Nat.reduceAdd, Nat.reduceSub, true_and, t_mate, pr, r_mate_1]
  cases t
  · exact .inl q
  · exact .inl q
theorem mate_at {b g l p : Int} {t : Bool} {h : Sto} {Q : DK} {E : X3} (q : Q (.int (mate g l t p)) h) : sp_mate [pr b g l t, .int p] h Q E := ⟨(b, g, l, t, p), rfl, trivial, q⟩
def t_whole : C3 :=
  (cRet (tAndE (tB3 isiR (tC3 (tV 0) (tC3 (tK (.ty "int")) tN3))) (tNotE (tB3 isiR (tC3 (tV 0) (tC3 (tK (.ty "bool")) tN3))))))

def sp_whole : Sp3 := sp_is_whole
theorem mono_whole : MonoS sp_whole := mono_spD
theorem len_whole : ∀ ds h Q E, sp_whole ds h Q E → ds.length = 1 := len_is_whole
theorem rd_whole : ∀ ds h Q E, ClS h.length h → ClDs h.length ds → sp_whole ds h Q E → t_whole (ends3 (GQ h.length Q)) (start3 1 ds) h := rd_is_whole
theorem whole_at' {d : D} {h : Sto} {Q : DK} {E : X3} (hk : Kn h d) (q : Q (.bl (isW d)) h) : sp_whole [d] h Q E := ⟨d, rfl, hk, q⟩
def b_numbers_1 : C3 :=
  (cDrop (tLM appT (tV 2) (tC3 (tCall3 sp_take (tC3 (tV 0) (tC3 (tV 1) tN3))) tN3)))
def r_numbers_1 : C3 :=
  (cSeq (cAsg (tNew (tC3 (tK (.int 0)) (tC3 (tK (.int 1)) (tC3 (tO subR (tV 1) (tK (.int 2))) (tC3 (tO subR (tV 1) (tK (.int 1))) tN3))))) (gN 2))
    (cSeq (cFor (iRng (tC3 (tK (.int 8)) tN3)) (gN 3) b_numbers_1)
    (cRet (tV 2))))
def t_numbers : C3 :=
  (cSeq (cIf (tT (tO ltR (tV 1) (tK (.int 21)))) (cRet (tNew (xRg1 (tV 1)))) cNext)
    r_numbers_1)

def sp_numbers : Sp3 := spR (fun (a : Nat × Int × Int × Int) => [.ref a.1, .int a.2.2.2]) (fun a h => h[a.1]? = some (draw a.2.1 a.2.2.1) ∧ DrawOk a.2.1 a.2.2.1 ∧ 1 ≤ a.2.2.2 ∧ a.2.2.2 < 2 ^ 2000)
  (fun a h d h' => ∃ c s : Int, ∃ ns : List Int, DrawOk c s ∧ (∀ n ∈ ns, 0 ≤ n ∧ n < a.2.2.2) ∧ .ref h.length = d ∧ h' = h.set a.1 (draw c s) ++ [.lst (ns.map .int)])
theorem mono_numbers : MonoS sp_numbers := mono_spR
theorem len_numbers : ∀ ds h Q E, sp_numbers ds h Q E → ds.length = 2 := len_spR fun _ => rfl
theorem numbers_loop {E : Ends3} {a : Nat} {long : Int} {h : Sto} (hl : 1 ≤ long ∧ long < 2 ^ 2000) (hal : a < h.length) : ∀ (xs : List D) (c s : Int) (ns : List Int) (o3 : Option D), DrawOk c s → (∀ n ∈ ns, 0 ≤ n ∧ n < long) → ns.length + xs.length ≤ 100 →
    (∀ (c s : Int) (ns : List Int) (o3 : Option D), DrawOk c s → (∀ n ∈ ns, 0 ≤ n ∧ n < long) → E.nx [some (.ref a), some (.int long), some (.ref h.length), o3] (h.set a (draw c s) ++ [.lst (ns.map .int)])) →
    forI (gN 3) b_numbers_1 (fun _ => True) E xs [some (.ref a), some (.int long), some (.ref h.length), o3] (h.set a (draw c s) ++ [.lst (ns.map .int)]) := by
  intro xs
  induction xs with
  | nil => exact fun c s ns o3 hd hn _ q => ⟨trivial, q c s ns o3 hd hn⟩
  | cons x r ih =>
    intro c s ns o3 hd hn hz q
    have e1 : (h.set a (draw c s) ++ [Cell.lst (ns.map .int)])[h.length]? = some (.lst (ns.map .int)) := by
      rw [List.getElem?_append_right (by simp)]; simp
    have e2 : (h.set a (draw c s) ++ [Cell.lst (ns.map .int)])[a]? = some (draw c s) := by
      rw [List.getElem?_append_left (by simpa using hal)]
      exact List.getElem?_set_self hal
    try simp only [tV, tN3, tC3, cDrop, gN, tCall3, tLM, appT, List.getElem?_cons_zero, List.getElem?_cons_succ, List.set_cons_zero, List.set_cons_succ, true_and, forI, b_numbers_1, e1]
    refine take_at e2 hd (by omega) hl.2 fun c' s' r' hd' r0 r1 => ?_
    have e3 : (h.set a (draw c s) ++ [Cell.lst (ns.map .int)]).set a (draw c' s') = h.set a (draw c' s') ++ [.lst (ns.map .int)] := by
      rw [List.set_append, if_pos (by simpa using hal), List.set_set]
    have e4 : (h.set a (draw c' s') ++ [Cell.lst (ns.map .int)])[h.length]? = some (.lst (ns.map .int)) := by
      rw [List.getElem?_append_right (by simp)]; simp
    try simp only [e3, e4]
    refine ⟨by simp; simp at hz; omega, ?_⟩
    have e5 : (h.set a (draw c' s') ++ [Cell.lst (ns.map .int)]).set h.length (.lst (ns.map .int ++ [.int r'])) = h.set a (draw c' s') ++ [.lst ((ns ++ [r']).map .int)] := by
      rw [List.set_append, if_neg (by simp)]
      simp
    rw [e5]
    refine ih c' s' (ns ++ [r']) _ hd' (fun n hm => ?_) (by simp at hz ⊢; omega) q
    rcases List.mem_append.mp hm with z | z
    · exact hn n z
    · rw [List.mem_singleton.mp z]; exact ⟨r0, r1⟩
theorem rd_numbers : ∀ ds h Q E, ClS h.length h → ClDs h.length ds → sp_numbers ds h Q E → t_numbers (ends3 (GQ h.length Q)) (start3 4 ds) h := by
  rintro ds h Q E _ _ ⟨⟨a, c, s, long⟩, rfl, ⟨ha, hd, hl0, hl1⟩, q⟩
  have hl0' : 1 ≤ long := hl0
  have hl1' : long < 2 ^ 2000 := hl1
  have hal : a < h.length := (List.getElem?_eq_some_iff.mp ha).1
  have same : h.set a (draw c s) = h := set_same ha
  try simp only [tV, tK, tO, tT, tNew, cNext, cSeq, cRet, cIf, start3, ends3, ltR_ii, List.getElem?_cons_zero, List.getElem?_cons_succ, List.map_cons, List.map_nil, List.cons_append, List.nil_append, List.length_cons, List.length_nil, List.replicate_succ, List.replicate_zero, decide_eq_true_eq, Nat.reduceAdd, Nat.reduceSub, t_numbers]
  split
  next hlt =>
    refine ⟨by omega, .inl (q _ _ ⟨c, s, (List.range (long - 0).toNat).map fun (k : Nat) => 0 + (k : Int), hd, fun n hm => ?_, rfl, ?_⟩)⟩
    · obtain ⟨k, hk, rfl⟩ := List.mem_map.mp hm
      have := List.mem_range.mp hk
      show 0 ≤ 0 + (k : Int) ∧ 0 + (k : Int) < long
      omega
    · show _ = h.set a (draw c s) ++ _
      rw [same, List.map_map]
      rfl
  next hlt =>
    try simp only [tV, tK, tO, tN3, tC3, tNew, cSeq, cAsg, gN, cFor, subR_ii, iRng_eq, rngD_1, List.getElem?_cons_zero, List.getElem?_cons_succ, List.set_cons_zero, List.set_cons_succ, r_numbers_1]
    refine ⟨by decide, ?_⟩
    have := numbers_loop (E := { nx := cRet (tV 2) { nx := fun x h_1 => GQ h.length Q D.non h_1, rt := GQ h.length Q, bk := fun x x_1 => False, ct := fun x x_1 => False }, rt := GQ h.length Q, bk := fun x x_1 => False, ct := fun x x_1 => False }) (a := a) (h := h) ⟨hl0', hl1'⟩ hal ((List.range (Int.toNat 8)).map fun (k : Nat) => D.int k) c s [0, 1, long - 2, long - 1] none hd (fun n hm => by
      simp only [List.mem_cons, List.not_mem_nil, or_false] at hm
      omega) (by simp) (fun c s ns o3 hd hn => by
      try simp only [tV, cRet, List.getElem?_cons_zero, List.getElem?_cons_succ]
      exact .inl (q _ _ ⟨c, s, ns, hd, hn, rfl, rfl⟩))
    rw [same] at this
    exact this
theorem numbers_at {a : Nat} {c s long : Int} {h : Sto} {Q : DK} {E : X3} (ha : h[a]? = some (draw c s)) (hd : DrawOk c s) (h0 : 1 ≤ long) (h1 : long < 2 ^ 2000)
    (q : ∀ (c s : Int) (ns : List Int), DrawOk c s → (∀ n ∈ ns, 0 ≤ n ∧ n < long) → Q (.ref h.length) (h.set a (draw c s) ++ [.lst (ns.map .int)])) : sp_numbers [.ref a, .int long] h Q E :=
  ⟨(a, c, s, long), rfl, ⟨ha, hd, h0, h1⟩, by
    rintro _ _ ⟨c, s, ns, hd, hn, rfl, rfl⟩
    exact q c s ns hd hn⟩
def t_beside : C3 :=
  (cSeq (cAsg (tNew (tC3 (tO addR (tV 0) (tV 1)) (tC3 (tO addR (tO addR (tV 0) (tV 1)) (tK (.int 1))) (tC3 (tO addR (tO addR (tV 0) (tO mulR (tK (.int 2)) (tV 1))) (tK (.int 7))) tN3)))) (gN 2))
    (cSeq (cIf (tT (tO gtR (tV 0) (tK (.int 0)))) (cAsg (tO addR (tV 2) (tNew (tC3 (tO subR (tV 0) (tK (.int 1))) (tC3 (tK (.int 0)) tN3)))) (gN 2)) cNext)
    (cRet (tV 2))))

def sp_beside : Sp3 := spR (fun (a : Int × Int) => [.int a.1, .int a.2]) (fun a h => 0 ≤ a.1 ∧ 1 ≤ a.2)
  (fun a h d h' => ∃ ns : List Int, (∀ n ∈ ns, n < a.1 ∨ a.1 + a.2 ≤ n) ∧ ns.length ≤ 5 ∧ .ref h.length = d ∧ h' = h ++ [.lst (ns.map .int)])
theorem mono_beside : MonoS sp_beside := mono_spR
theorem len_beside : ∀ ds h Q E, sp_beside ds h Q E → ds.length = 2 := len_spR fun _ => rfl
theorem rd_beside : ∀ ds h Q E, ClS h.length h → ClDs h.length ds → sp_beside ds h Q E → t_beside (ends3 (GQ h.length Q)) (start3 3 ds) h := by
  rintro ds h Q E hcl _ ⟨⟨b, l⟩, rfl, ⟨hb, hl⟩, q⟩
  have hb' : 0 ≤ b := hb
  have hl' : 1 ≤ l := hl
  try simp only [tV, tK, tO, tT, tN3, tC3, tNew, cNext, cSeq, cRet, cIf, cAsg, gN, start3, ends3, addR_ii, addR_rr, subR_ii, mulR_ii, gtR_ii, List.getElem?_cons_zero, List.getElem?_cons_succ, List.set_cons_zero, List.set_cons_succ, List.map_cons, List.map_nil, List.cons_append, List.nil_append, List.length_cons, List.length_nil, List.replicate_succ, List.replicate_zero, decide_eq_true_eq, Nat.reduceAdd, Nat.reduceSub, t_beside]
  refine ⟨mulOk_l (by decide), ?_⟩
  split
  next hlt =>
    have e1 : ∀ (h : Sto) (c d : Cell), (h ++ [c] ++ [d])[h.length]? = some c := fun h c d => by
      rw [List.append_assoc]; exact get_app0
    have e2 : ∀ (h : Sto) (c d : Cell), (h ++ [c] ++ [d])[(h ++ [c]).length]? = some d := fun h c d => by simp
    try simp only [onLst_some, List.cons_append, List.nil_append, List.length_cons, List.length_nil, Nat.reduceAdd, Nat.reduceLeDiff, true_and, e1, e2]
    have : GQ h.length Q (.ref (h.length + 2)) (h ++ [.lst [.int (b + l), .int (b + l + 1), .int (b + 2 * l + 7)], .lst [.int (b - 1), .int 0], .lst [.int (b + l), .int (b + l + 1), .int (b + 2 * l + 7), .int (b - 1), .int 0]]) := by
      refine gq_one rfl (xs := [b + l, b + l + 1, b + 2 * l + 7, b - 1, 0].map .int) rfl (cl_ints _) hcl (q _ _ ⟨[b + l, b + l + 1, b + 2 * l + 7, b - 1, 0], fun n hm => ?_, by simp, rfl, rfl⟩)
      show n < b ∨ b + l ≤ n
      simp only [List.mem_cons, List.not_mem_nil, or_false] at hm
      omega
    simpa using this
  next hlt =>
    refine .inl (q _ _ ⟨[b + l, b + l + 1, b + 2 * l + 7], fun n hm => ?_, by simp, rfl, rfl⟩)
    show n < b ∨ b + l ≤ n
    simp only [List.mem_cons, List.not_mem_nil, or_false] at hm
    omega
theorem beside_at {b l : Int} {h : Sto} {Q : DK} {E : X3} (h0 : 0 ≤ b) (h1 : 1 ≤ l)
    (q : ∀ ns : List Int, (∀ n ∈ ns, n < b ∨ b + l ≤ n) → ns.length ≤ 5 → Q (.ref h.length) (h ++ [.lst (ns.map .int)])) : sp_beside [.int b, .int l] h Q E :=
  ⟨(b, l), rfl, ⟨h0, h1⟩, by
    rintro _ _ ⟨ns, hn, hl, rfl, rfl⟩
    exact q ns hn hl⟩
end F3
/-! LT: partners of a place. -/
namespace F3
open PySem PySem.Spec PyProof.Rows L2

/-- rising lists with the same members are one -/
theorem rising_ext : ∀ {ms ns : List Int}, ms.Pairwise (· < ·) → ns.Pairwise (· < ·) → (∀ k, k ∈ ms ↔ k ∈ ns) → ms = ns
  | [], [], _, _, _ => rfl
  | [], n :: r, _, _, h => by have := (h n).mpr List.mem_cons_self; cases this
  | m :: r, [], _, _, h => by have := (h m).mp List.mem_cons_self; cases this
  | m :: r, n :: q, h1, h2, h => by
    have a1 := List.pairwise_cons.mp h1
    have a2 := List.pairwise_cons.mp h2
    have e : m = n := by
      rcases List.mem_cons.mp ((h m).mp List.mem_cons_self) with e | e
      · exact e
      · rcases List.mem_cons.mp ((h n).mpr List.mem_cons_self) with e' | e'
        · exact e'.symm
        · have x := a1.1 n e'
          have y := a2.1 m e
          omega
    subst e
    rw [rising_ext a1.2 a2.2 fun k => ?_]
    have hk := h k
    constructor
    · intro hm
      rcases List.mem_cons.mp (hk.mp (List.mem_cons_of_mem _ hm)) with e | e
      · have := a1.1 k hm
        omega
      · exact e
    · intro hm
      rcases List.mem_cons.mp (hk.mpr (List.mem_cons_of_mem _ hm)) with e | e
      · have := a2.1 k hm
        omega
      · exact e
/-- k is one of the partners -/
def IsPartner (low high long : Int) (t : Bool) (p k : Int) : Prop := partnerV low high long t p = some k ∨ partnerV high low long t p = some k
def e_partners_1 : E3 :=
  (tV 3)
def t_partners : C3 :=
  (cSeq (cAsg (tNew (tC3 (tCall3 sp_forth (tC3 (tV 0) (tC3 (tV 1) tN3))) (tC3 (tCall3 sp_back (tC3 (tV 0) (tC3 (tV 1) tN3))) tN3))) (gN 2))
    (cRet (tNew (tSSet (tLc3 (iSeq (tV 2)) (gN 3) (tT (tO isnR (tV 3) (tK .non))) e_partners_1 [3])))))

def sp_partners : Sp3 := spR (fun (a : Int × Int × Int × Bool × Int) => [pr a.1 a.2.1 a.2.2.1 a.2.2.2.1, .int a.2.2.2.2]) (fun _ _ => True)
  (fun a h d h' => ∃ ms : List Int, ms.Pairwise (· < ·) ∧ (∀ k, k ∈ ms ↔ IsPartner a.1 a.2.1 a.2.2.1 a.2.2.2.1 a.2.2.2.2 k) ∧ .ref h.length = d ∧ h' = h ++ [.lst (ms.map .int)])
theorem mono_partners : MonoS sp_partners := mono_spR
theorem len_partners : ∀ ds h Q E, sp_partners ds h Q E → ds.length = 2 := len_spR fun _ => rfl
theorem rd_partners : ∀ ds h Q E, ClS h.length h → ClDs h.length ds → sp_partners ds h Q E → t_partners (ends3 (GQ h.length Q)) (start3 4 ds) h := by
  rintro ds h Q E hcl _ ⟨⟨b, g, l, t, p⟩, rfl, _, q⟩
  try simp only [tV, tN3, tC3, tNew, cSeq, cRet, cAsg, gN, iSeq_eq, tLc3, tCall3, start3, ends3, wipe3, tSSet, iSeqD_r, List.getElem?_cons_zero, List.getElem?_cons_succ, List.set_cons_zero, List.set_cons_succ, List.map_cons, List.map_nil, List.cons_append, List.nil_append, List.length_cons, List.length_nil, List.replicate_succ, List.replicate_zero, Nat.reduceAdd, Nat.reduceSub, t_partners]
  refine forth_at (back_at ?_)
  have e1 : ∀ c : Cell, (h ++ [c])[h.length]? = some c := fun c => by simp
  try simp only [onLst_some, List.length_cons, List.length_nil, Nat.reduceAdd, Nat.reduceLeDiff, true_and, e1]
  refine ⟨by simp, ?_⟩
  have fin : ∀ ns : List Int, ns.length < 64 → (∀ k, k ∈ ns ↔ IsPartner b g l t p k) → ∀ c : Cell, ns.length < 64 ∧ ∀ ms : List Int, ms.Pairwise (· < ·) → (∀ k, k ∈ ms ↔ k ∈ ns) → GQ h.length Q (.ref (h ++ [c]).length) (h ++ [c] ++ [.lst (ms.map .int)]) := fun ns hl hn c => ⟨hl, fun ms h1 h2 => by
    have : GQ h.length Q (.ref (h.length + 1)) (h ++ [c, .lst (ms.map .int)]) := gq_one rfl rfl (cl_ints ms) hcl (q _ _ ⟨ms, h1, fun k => (h2 k).trans (hn k), rfl, rfl⟩)
    simpa using this⟩
  cases e2 : partnerV b g l t p with
  | none =>
    cases e3 : partnerV g b l t p with
    | none =>
      try simp only [tV, tK, tO, tT, gN, isnR_n, isN_non, List.getElem?_cons_zero, List.getElem?_cons_succ, List.set_cons_zero, List.set_cons_succ, List.cons_append, List.nil_append, true_and, Bool.false_eq_true, if_false, Bool.not_true, optD, lcI, e_partners_1, e1]
      exact fin [] (by decide) (fun k => by simp [IsPartner, e2, e3]) _
    | some j =>
      try simp only [tV, tK, tO, tT, gN, isnR_n, isN_non, isN_int, List.getElem?_cons_zero, List.getElem?_cons_succ, List.set_cons_zero, List.set_cons_succ, List.cons_append, List.nil_append, true_and, Bool.false_eq_true, if_true, if_false, Bool.not_true, Bool.not_false, optD, lcI, e_partners_1, e1]
      exact fin [j] (by simp) (fun k => by simp [IsPartner, e2, e3]; exact eq_comm) _
  | some i =>
    cases e3 : partnerV g b l t p with
    | none =>
      try simp only [tV, tK, tO, tT, gN, isnR_n, isN_non, isN_int, List.getElem?_cons_zero, List.getElem?_cons_succ, List.set_cons_zero, List.set_cons_succ, List.cons_append, List.nil_append, true_and, Bool.false_eq_true, if_true, if_false, Bool.not_true, Bool.not_false, optD, lcI, e_partners_1, e1]
      exact fin [i] (by simp) (fun k => by simp [IsPartner, e2, e3]; exact eq_comm) _
    | some j =>
      try simp only [tV, tK, tO, tT, gN, isnR_n, isN_int, List.getElem?_cons_zero, List.getElem?_cons_succ, List.set_cons_zero, List.set_cons_succ, List.cons_append, List.nil_append, true_and, if_true, Bool.not_false, optD, lcI, e_partners_1, e1]
      exact fin [i, j] (by simp) (fun k => by simp [IsPartner, e2, e3]; constructor <;> (rintro (h | h) <;> simp [h])) _
theorem partners_at {b g l p : Int} {t : Bool} {h : Sto} {Q : DK} {E : X3} (q : ∀ ms : List Int, ms.Pairwise (· < ·) → (∀ k, k ∈ ms ↔ IsPartner b g l t p k) → Q (.ref h.length) (h ++ [.lst (ms.map .int)])) : sp_partners [pr b g l t, .int p] h Q E :=
  ⟨(b, g, l, t, p), rfl, trivial, by
    rintro _ _ ⟨ms, h1, h2, rfl, rfl⟩
    exact q ms h1 h2⟩
/-- data of lists of ints -/
theorem mapM_of {α : Type} {F : D → Option PyData} {f : α → D} {g : α → PyData} : ∀ {xs : List α}, (∀ x ∈ xs, F (f x) = some (g x)) → (xs.map f).mapM F = some (xs.map g)
  | [], _ => by simp
  | x :: r, h => by
    rw [List.map_cons, List.mapM_cons, h x List.mem_cons_self, mapM_of fun y hy => h y (List.mem_cons_of_mem _ hy)]
    rfl
theorem toP_ints {h : Sto} {k : Nat} (ns : List Int) : (ns.map D.int).mapM (toP h (k + 1)) = some (ns.map PyData.int) := mapM_of fun _ _ => rfl
theorem eqv_ints : ∀ ns ms : List Int, PyData.eqvAll (ns.map .int) (ms.map .int) = decide (ns = ms)
  | [], [] => by simp [PyData.eqvAll]
  | [], _ :: _ => by simp [PyData.eqvAll]
  | _ :: _, [] => by simp [PyData.eqvAll]
  | n :: r, m :: q => by
    simp only [List.map_cons, PyData.eqvAll, PyData.eqv, eqv_ints r q, List.cons.injEq, Bool.decide_and]
    rw [Bool.beq_eq_decide_eq]
theorem toP_lst {h : Sto} {n k : Nat} {xs : List D} {ps : List PyData} (e : h[n]? = some (.lst xs)) (e2 : xs.mapM (toP h k) = some ps) : toP h (k + 1) (.ref n) = some (.list ps) := by
  simp only [toP, e, e2, Option.map_some]
theorem toP_tup {h : Sto} {k : Nat} {xs : List D} {ps : List PyData} (e2 : xs.mapM (toP h k) = some ps) : toP h (k + 1) (.tup xs) = some (.tuple ps) := by
  simp only [toP, e2, Option.map_some]
theorem toP_refI {h : Sto} {n k : Nat} {ns : List Int} (e : h[n]? = some (.lst (ns.map .int))) : toP h (k + 2) (.ref n) = some (.list (ns.map .int)) := toP_lst e (toP_ints ns)
theorem eqv_listI {ns ms : List Int} : PyData.eqv (.list (ns.map .int)) (.list (ms.map .int)) = decide (ns = ms) := by
  simp only [PyData.eqv, eqv_ints]
end F3
set_option maxHeartbeats 200000
namespace F3
open PySem PySem.Spec PyProof.Rows L2
def r_short_1 : C3 :=
  (cRet (tCall3 sp_paired (tC3 (tO addR (tV 3) (tV 1)) (tC3 (tV 7) (tC3 (tV 2) (tC3 (tV 6) tN3))))))
def t_short : C3 :=
  (cSeq (cAsg (tV 0) (gTup3 4 (gCons3 (gN 3) (gCons3 (gN 4) (gCons3 (gN 5) (gCons3 (gN 6) gNil3))))))
    (cSeq (cAsg (tO addR (tV 4) (tV 1)) (gN 7))
    (cSeq (cIf (tT (tV 6)) (cAsg (tO subR (tO subR (tO addR (tV 4) (tV 5)) (tV 1)) (tV 2)) (gN 7)) cNext)
    r_short_1)))

def b_pairs_1 : C3 :=
  (cDrop (tLM appT (tV 5) (tC3 (tTup3 (tC3 (tO addR (tV 1) (tV 6)) (tC3 (tIxX (tC3 (tO addR (tV 2) (tV 6)) (tC3 (tO subR (tO subR (tO addR (tV 2) (tV 3)) (tK (.int 1))) (tV 6)) tN3)) (tB3 intR (tC3 (tV 4) tN3))) tN3))) tN3)))
def t_pairs : C3 :=
  (cSeq (cAsg (tV 0) (gTup3 4 (gCons3 (gN 1) (gCons3 (gN 2) (gCons3 (gN 3) (gCons3 (gN 4) gNil3))))))
    (cSeq (cAsg (tNew tN3) (gN 5))
    (cSeq (cFor (iRng (tC3 (tV 3) tN3)) (gN 6) b_pairs_1)
    (cRet (tV 5)))))

def sbeg (high long : Int) (t : Bool) (skip many : Int) : Int := if t = true then high + long - skip - many else high + skip
def sp_short : Sp3 := spD (fun (a : (Int × Int × Int × Bool) × Int × Int) => [pr a.1.1 a.1.2.1 a.1.2.2.1 a.1.2.2.2, .int a.2.1, .int a.2.2]) (fun _ _ => True)
  (fun a _ => pr (mn (a.1.1 + a.2.1) (sbeg a.1.2.1 a.1.2.2.1 a.1.2.2.2 a.2.1 a.2.2)) (mx (a.1.1 + a.2.1) (sbeg a.1.2.1 a.1.2.2.1 a.1.2.2.2 a.2.1 a.2.2)) a.2.2 a.1.2.2.2) (fun _ h => h)
theorem mono_short : MonoS sp_short := mono_spD
theorem len_short : ∀ ds h Q E, sp_short ds h Q E → ds.length = 3 := len_spD fun _ => rfl
theorem rd_short : ∀ ds h Q E, ClS h.length h → ClDs h.length ds → sp_short ds h Q E → t_short (ends3 (GQ h.length Q)) (start3 8 ds) h := by
  rintro ds h Q E _ _ ⟨⟨⟨low, high, long, t⟩, skip, many⟩, rfl, _, q⟩
  have epr : pr low high long t = .tup [.int low, .int high, .int long, .bl t] := rfl
  cases t
  · try simp only [tV, tO, tT, cNext, cSeq, cIf, cAsg, gN, gNil3, gCons3, gTup3, start3, ends3, addR_ii, subR_ii, List.getElem?_cons_zero, List.getElem?_cons_succ, List.set_cons_zero, List.set_cons_succ, List.map_cons, List.map_nil, List.cons_append, List.nil_append, List.length_cons, List.length_nil, List.replicate_succ, List.replicate_zero, Nat.reduceAdd, Nat.reduceSub, true_and, Bool.false_eq_true, if_false, t_short, epr]
    try simp only [tV, tO, tN3, tC3, cRet, tCall3, addR_ii, List.getElem?_cons_zero, List.getElem?_cons_succ, r_short_1]
    exact paired_at (.inl q)
  · try simp only [tV, tO, tT, cNext, cSeq, cIf, cAsg, gN, gNil3, gCons3, gTup3, start3, ends3, addR_ii, subR_ii, List.getElem?_cons_zero, List.getElem?_cons_succ, List.set_cons_zero, List.set_cons_succ, List.map_cons, List.map_nil, List.cons_append, List.nil_append, List.length_cons, List.length_nil, List.replicate_succ, List.replicate_zero, Nat.reduceAdd, Nat.reduceSub, true_and, if_true, t_short, epr]
    try simp only [tV, tO, tN3, tC3, cRet, tCall3, addR_ii, List.getElem?_cons_zero, List.getElem?_cons_succ, r_short_1]
    exact paired_at (.inl q)
theorem short_at {low high long skip many : Int} {t : Bool} {h : Sto} {Q : DK} {E : X3} (q : Q (pr (mn (low + skip) (sbeg high long t skip many)) (mx (low + skip) (sbeg high long t skip many)) many t) h) : sp_short [pr low high long t, .int skip, .int many] h Q E :=
  ⟨((low, high, long, t), skip, many), rfl, trivial, q⟩
/-- the pairs of a pairing -/
def prs (low high long : Int) (t : Bool) : List (Int × Int) := (List.range long.toNat).map fun (i : Nat) => (low + i, mate high long t i)
theorem mem_prs {low high long : Int} {t : Bool} {p : Int × Int} : p ∈ prs low high long t ↔ ∃ i : Int, 0 ≤ i ∧ i < long ∧ p = (low + i, mate high long t i) := by
  unfold prs
  rw [List.mem_map]
  constructor
  · rintro ⟨i, hi, rfl⟩
    have := List.mem_range.mp hi
    exact ⟨i, by omega, by omega, rfl⟩
  · rintro ⟨i, h0, h1, rfl⟩
    refine ⟨i.toNat, List.mem_range.mpr (by omega), ?_⟩
    have : ((i.toNat : Nat) : Int) = i := by omega
    rw [this]
theorem len_prs {low high long : Int} {t : Bool} : (prs low high long t).length = long.toNat := by simp [prs]
def sp_pairs : Sp3 := spD (fun (a : Int × Int × Int × Bool) => [pr a.1 a.2.1 a.2.2.1 a.2.2.2]) (fun a _ => 0 ≤ a.2.2.1 ∧ a.2.2.1 ≤ 20)
  (fun a h => .ref h.length) (fun a h => h ++ [.lst ((prs a.1 a.2.1 a.2.2.1 a.2.2.2).map prD)])
theorem mono_pairs : MonoS sp_pairs := mono_spD
theorem len_pairs : ∀ ds h Q E, sp_pairs ds h Q E → ds.length = 1 := len_spD fun _ => rfl
theorem pairs_loop {E : Ends3} {low high long : Int} {t : Bool} {h : Sto} {o0 : Option D} : ∀ (xs : List Nat) (acc : List (Int × Int)) (o6 : Option D), acc.length + xs.length ≤ 1000 →
    (∀ o6 : Option D, E.nx [o0, some (.int low), some (.int high), some (.int long), some (.bl t), some (.ref h.length), o6] (h ++ [.lst ((acc ++ xs.map fun (i : Nat) => (low + (i : Int), mate high long t i)).map prD)])) →
    forI (gN 6) b_pairs_1 (fun _ => True) E (xs.map fun (k : Nat) => D.int k) [o0, some (.int low), some (.int high), some (.int long), some (.bl t), some (.ref h.length), o6] (h ++ [.lst (acc.map prD)]) := by
  intro xs
  induction xs with
  | nil =>
    intro acc o6 _ q
    have := q o6
    rw [List.map_nil, List.append_nil] at this
    exact ⟨trivial, this⟩
  | cons i r ih =>
    intro acc o6 hl q
    have e1 : ∀ c : Cell, (h ++ [c])[h.length]? = some c := fun c => by simp
    have e2 : ∀ c c' : Cell, (h ++ [c]).set h.length c' = h ++ [c'] := fun c c' => set_app0
    simp only [List.length_cons] at hl
    refine forI_step trivial fun F hF => ?_
    have q' := ih (acc ++ [(low + (i : Int), mate high long t i)]) (some (.int i)) (by simp; omega) fun o6 => by
      have := q o6
      rw [List.map_cons] at this
      rw [List.append_assoc, List.singleton_append]
      exact this
    rw [← hF, List.map_append] at q'
    cases t
    · try simp only [tV, tK, tO, tN3, tC3, tTup3, cDrop, gN, tB3, tIxX, tLM, appT, addR_ii, subR_ii, atD_0, intR_b, List.getElem?_cons_zero, List.getElem?_cons_succ, List.set_cons_zero, List.set_cons_succ, true_and, Bool.false_eq_true, if_false, b_pairs_1, e1, e2]
      refine ⟨by simp; omega, ?_⟩
      exact q'
    · try simp only [tV, tK, tO, tN3, tC3, tTup3, cDrop, gN, tB3, tIxX, tLM, appT, addR_ii, subR_ii, atD_0, atD_1, intR_b, List.getElem?_cons_zero, List.getElem?_cons_succ, List.set_cons_zero, List.set_cons_succ, true_and, if_true, b_pairs_1, e1, e2]
      refine ⟨by simp; omega, ?_⟩
      exact q'
theorem rd_pairs : ∀ ds h Q E, ClS h.length h → ClDs h.length ds → sp_pairs ds h Q E → t_pairs (ends3 (GQ h.length Q)) (start3 7 ds) h := by
  rintro ds h Q E _ _ ⟨⟨low, high, long, t⟩, rfl, hl, q⟩
  have hl' : 0 ≤ long ∧ long ≤ 20 := hl
  have epr : pr low high long t = .tup [.int low, .int high, .int long, .bl t] := rfl
  have st : ∀ (B : C3), ((-(2 ^ 62) ≤ long ∧ long < 2 ^ 62) ∧ forI (gN 6) B (fun _ => True) { ends3 (GQ h.length Q) with nx := cRet (tV 5) (ends3 (GQ h.length Q)) } ((List.range long.toNat).map fun (k : Nat) => D.int k) [some (pr low high long t), some (.int low), some (.int high), some (.int long), some (.bl t), some (.ref h.length), none] (h ++ [.lst []])) →
    (cSeq (cAsg (tV 0) (gTup3 4 (gCons3 (gN 1) (gCons3 (gN 2) (gCons3 (gN 3) (gCons3 (gN 4) gNil3))))))
    (cSeq (cAsg (tNew tN3) (gN 5))
    (cSeq (cFor (iRng (tC3 (tV 3) tN3)) (gN 6) B)
    (cRet (tV 5))))) (ends3 (GQ h.length Q)) (start3 7 [pr low high long t]) h := fun B q => by
      try simp only [ends3, epr] at q
      try simp only [tV, tN3, tC3, tNew, cSeq, cAsg, gN, gNil3, gCons3, gTup3, cFor, start3, ends3, iRng_eq, rngD_1, List.getElem?_cons_zero, List.getElem?_cons_succ, List.set_cons_zero, List.set_cons_succ, List.map_cons, List.map_nil, List.cons_append, List.nil_append, List.length_cons, List.length_nil, List.replicate_succ, List.replicate_zero, Nat.reduceAdd, Nat.reduceSub, true_and, epr]
      exact q
  refine st b_pairs_1 ⟨⟨by omega, by omega⟩, ?_⟩
  · have := pairs_loop (E := { ends3 (GQ h.length Q) with nx := cRet (tV 5) (ends3 (GQ h.length Q)) }) (low := low) (high := high) (long := long) (t := t) (h := h) (o0 := some (pr low high long t)) (List.range long.toNat) [] none (by simp; omega) fun o6 => by
      rw [List.nil_append]
      exact .inl q
    exact this
theorem pairs_at {low high long : Int} {t : Bool} {h : Sto} {Q : DK} {E : X3} (h0 : 0 ≤ long) (hl : long ≤ 20) (q : Q (.ref h.length) (h ++ [.lst ((prs low high long t).map prD)])) : sp_pairs [pr low high long t] h Q E :=
  ⟨(low, high, long, t), rfl, ⟨h0, hl⟩, q⟩
/-! ### sorted pairs, sets of them -/
def srt (p : Int × Int) : Int × Int := (mn p.1 p.2, mx p.1 p.2)
theorem sort2 {x y : Int} {ns : List Int} (hp : ns.Perm [x, y]) (hs : ns.Pairwise (· ≤ ·)) : ns = [mn x y, mx x y] := by
  have hl := hp.length_eq
  match ns, hl, hp, hs with
  | [a, b], _, hp, hs =>
    have hab : a ≤ b := (List.pairwise_cons.mp hs).1 b (by simp)
    have h1 : ([a, b] : List Int).Perm [x, y] := hp
    have ma : a = x ∨ a = y := by have := hp.mem_iff.mp (List.mem_cons_self (a := a) (l := [b])); simpa using this
    have : (a = x ∧ b = y) ∨ (a = y ∧ b = x) := by
      rcases ma with rfl | rfl
      · left
        have := (List.perm_cons a).mp h1
        exact ⟨rfl, by simpa using this⟩
      · right
        have h2 := h1.trans (List.Perm.swap a x [])
        have := (List.perm_cons a).mp h2
        exact ⟨rfl, by simpa using this⟩
    unfold mn mx
    rcases this with ⟨rfl, rfl⟩ | ⟨rfl, rfl⟩
    · by_cases hc : a < b
      · simp [hc]; try omega
      · have : a = b := by omega
        subst this; simp
    · by_cases hc : a < b
      · have : ¬ b < a := by omega
        simp [hc, this]; try omega
      · have : a = b := by omega
        subst this; simp
theorem keys_ext : ∀ {ms ns : List (Int × Int)}, ms.Pairwise (fun p q => pkey p < pkey q) → ns.Pairwise (fun p q => pkey p < pkey q) → (∀ k, k ∈ ms ↔ k ∈ ns) → ms = ns
  | [], [], _, _, _ => rfl
  | [], n :: r, _, _, h => by have := (h n).mpr List.mem_cons_self; cases this
  | m :: r, [], _, _, h => by have := (h m).mp List.mem_cons_self; cases this
  | m :: r, n :: q, h1, h2, h => by
    have a1 := List.pairwise_cons.mp h1
    have a2 := List.pairwise_cons.mp h2
    have e : m = n := by
      rcases List.mem_cons.mp ((h m).mp List.mem_cons_self) with e | e
      · exact e
      · rcases List.mem_cons.mp ((h n).mpr List.mem_cons_self) with e' | e'
        · exact e'.symm
        · have x := a1.1 n e'
          have y := a2.1 m e
          omega
    subst e
    rw [keys_ext a1.2 a2.2 fun k => ?_]
    have hk := h k
    constructor
    · intro hm
      rcases List.mem_cons.mp (hk.mp (List.mem_cons_of_mem _ hm)) with e | e
      · have := a1.1 k hm
        rw [e] at this
        omega
      · exact e
    · intro hm
      rcases List.mem_cons.mp (hk.mpr (List.mem_cons_of_mem _ hm)) with e | e
      · have := a2.1 k hm
        rw [e] at this
        omega
      · exact e
/-- [tuple(sorted(pair)) for pair in pairs] -/
theorem lc_srt {g : G3} {e : E3} {ρ : S3} {h : Sto} {st : Sto → Prop} (hst : st h) (he : ∀ (p : Int × Int) (Q : DK), (∀ ns : List Int, ns.Perm [p.1, p.2] → ns.Pairwise (· ≤ ·) → Q (.tup (ns.map .int)) h) → g (prD p) ρ h fun ρ2 h2 => e ρ2 h2 Q) :
    ∀ (ps : List (Int × Int)) (acc : List D) (Q : List D → Sto → Prop), Q (acc ++ (ps.map srt).map prD) h → lcI g bYes e st ρ (ps.map prD) acc h Q := by
  intro ps
  induction ps with
  | nil =>
    intro acc Q q
    rw [List.map_nil, List.map_nil, List.append_nil] at q
    exact ⟨hst, q⟩
  | cons p r ih =>
    intro acc Q q
    try simp only [bYes, List.map_cons, if_true, lcI]
    refine ⟨hst, he p _ fun ns h1 h2 => ?_⟩
    rw [sort2 h1 h2]
    have := ih (acc ++ [prD (srt p)]) Q (by
      rw [List.append_assoc]
      exact q)
    exact this
theorem toP_prs {h : Sto} {n k : Nat} {ms : List (Int × Int)} (e : h[n]? = some (.lst (ms.map prD))) : toP h (k + 3) (.ref n) = some (.list (ms.map fun p => .tuple [.int p.1, .int p.2])) :=
  toP_lst e (mapM_of fun p _ => by
    unfold prD
    rw [toP_tup (ps := [.int p.1, .int p.2])]
    rfl)
theorem eqv_prs : ∀ ms : List (Int × Int), PyData.eqv (.list (ms.map fun p => .tuple [.int p.1, .int p.2])) (.list (ms.map fun p => .tuple [.int p.1, .int p.2])) = true := by
  intro ms
  simp only [PyData.eqv]
  induction ms with
  | nil => simp [PyData.eqvAll]
  | cons p r ih => simp [PyData.eqvAll, PyData.eqv, ih]
end F3
namespace F3
/-- a piece: how many places, their weights -/
abbrev Pc := Int × List Int
def lenP (w : List Pc) : Int := (w.map (·.1)).sum
def atP : List Pc → Int → List Int
  | [], _ => []
  | p :: r, i => if i < p.1 then p.2 else atP r (i - p.1)
def shStep (acc : List Pc) (p : Pc) : List Pc :=
  if 0 < p.1 then match acc.getLast? with
    | some q => if q.2 = p.2 then acc.dropLast ++ [(q.1 + p.1, p.2)] else acc ++ [p]
    | none => [p]
  else acc
def shp (ps : List Pc) : List Pc := ps.foldl shStep []
def NN (w : List Pc) : Prop := ∀ p ∈ w, 0 ≤ p.1
def Cn : List Pc → Prop
  | [] => True
  | [p] => 0 < p.1
  | p :: q :: r => 0 < p.1 ∧ p.2 ≠ q.2 ∧ Cn (q :: r)
theorem lenP_nil : lenP [] = 0 := rfl
theorem lenP_cons {p : Pc} {r : List Pc} : lenP (p :: r) = p.1 + lenP r := by simp [lenP]
theorem lenP_app {u v : List Pc} : lenP (u ++ v) = lenP u + lenP v := by simp [lenP]
theorem Cn.pos : ∀ {w : List Pc}, Cn w → ∀ p ∈ w, 0 < p.1
  | [p], h, q, hq => by
    have : q = p := by simpa using hq
    subst this; exact h
  | p :: q :: r, h, x, hx => by
    rcases List.mem_cons.mp hx with e | e
    · subst e; exact h.1
    · exact Cn.pos h.2.2 x e
theorem Cn.nn {w : List Pc} (h : Cn w) : NN w := fun p hp => by have := h.pos p hp; omega
theorem Cn.tail {p : Pc} {r : List Pc} (h : Cn (p :: r)) : Cn r := by
  cases r with
  | nil => trivial
  | cons q r => exact h.2.2
theorem lenP_nn : ∀ {w : List Pc}, NN w → 0 ≤ lenP w
  | [], _ => by simp [lenP]
  | p :: r, h => by
    rw [lenP_cons]
    have := h p List.mem_cons_self
    have := lenP_nn (w := r) fun q hq => h q (List.mem_cons_of_mem _ hq)
    omega
theorem Cn.len_pos {p : Pc} {r : List Pc} (h : Cn (p :: r)) : 0 < lenP (p :: r) := by
  rw [lenP_cons]
  have := h.pos p List.mem_cons_self
  have := lenP_nn h.tail.nn
  omega
theorem cn_snoc : ∀ {w : List Pc} {p : Pc}, Cn (w ++ [p]) ↔ Cn w ∧ 0 < p.1 ∧ ∀ q, w.getLast? = some q → q.2 ≠ p.2
  | [], p => by simp [Cn]
  | [q], p => by simp [Cn]; intro _; exact And.comm
  | q :: s :: r, p => by
    have ih := cn_snoc (w := s :: r) (p := p)
    simp only [List.cons_append] at ih ⊢
    simp only [Cn, ih, List.getLast?_cons_cons]
    constructor
    · rintro ⟨h1, h2, h3, h4, h5⟩; exact ⟨⟨h1, h2, h3⟩, h4, h5⟩
    · rintro ⟨⟨h1, h2, h3⟩, h4, h5⟩; exact ⟨h1, h2, h3, h4, h5⟩
theorem snoc_cases {α : Type} (w : List α) : w = [] ∨ ∃ u q, w = u ++ [q] := by
  rcases List.eq_nil_or_concat w with h | ⟨u, q, h⟩
  · exact .inl h
  · exact .inr ⟨u, q, by rw [h]; simp⟩
theorem shStep_nil {p : Pc} (h : 0 < p.1) : shStep [] p = [p] := by simp [shStep, h]
theorem shStep_same {u : List Pc} {q p : Pc} (h : 0 < p.1) (e : q.2 = p.2) : shStep (u ++ [q]) p = u ++ [(q.1 + p.1, p.2)] := by simp [shStep, h, e]
theorem shStep_new {u : List Pc} {q p : Pc} (h : 0 < p.1) (e : q.2 ≠ p.2) : shStep (u ++ [q]) p = u ++ [q] ++ [p] := by simp [shStep, h, e]
theorem shStep_none {u : List Pc} {p : Pc} (h : ¬ 0 < p.1) : shStep u p = u := by simp [shStep, h]
theorem cn_step {w : List Pc} {p : Pc} (h : Cn w) : Cn (shStep w p) := by
  by_cases hp : 0 < p.1
  · rcases snoc_cases w with rfl | ⟨u, q, rfl⟩
    · rw [shStep_nil hp]; exact hp
    · obtain ⟨h1, h2, h3⟩ := cn_snoc.mp h
      by_cases e : q.2 = p.2
      · rw [shStep_same hp e]
        exact cn_snoc.mpr ⟨h1, by show 0 < q.1 + p.1; omega, fun x hx => by rw [← e]; exact h3 x hx⟩
      · rw [shStep_new hp e]
        exact cn_snoc.mpr ⟨h, hp, fun x hx => by
          have : x = q := by simpa using hx.symm
          subst this; exact e⟩
  · rw [shStep_none hp]; exact h
theorem cn_fold : ∀ (ps : List Pc) {w : List Pc}, Cn w → Cn (ps.foldl shStep w)
  | [], _, h => h
  | p :: r, _, h => cn_fold r (cn_step h)
theorem cn_shp (ps : List Pc) : Cn (shp ps) := cn_fold ps trivial
theorem len_step {w : List Pc} {p : Pc} (hp : 0 ≤ p.1) : lenP (shStep w p) = lenP w + p.1 := by
  by_cases h : 0 < p.1
  · rcases snoc_cases w with rfl | ⟨u, q, rfl⟩
    · rw [shStep_nil h, lenP_cons]; simp [lenP]
    · by_cases e : q.2 = p.2
      · rw [shStep_same h e, lenP_app, lenP_app]; simp [lenP]; omega
      · rw [shStep_new h e, lenP_app (u := u ++ [q])]; simp [lenP]
  · rw [shStep_none h]; omega
theorem len_fold : ∀ (ps : List Pc) {w : List Pc}, NN ps → lenP (ps.foldl shStep w) = lenP w + lenP ps
  | [], _, _ => by simp [lenP]
  | p :: r, w, h => by
    rw [List.foldl_cons, len_fold r (fun q hq => h q (List.mem_cons_of_mem _ hq)), len_step (h p List.mem_cons_self), lenP_cons]
    omega
theorem len_shp {ps : List Pc} (h : NN ps) : lenP (shp ps) = lenP ps := by
  unfold shp
  rw [len_fold ps h, lenP_nil]; omega
theorem atP_app : ∀ {u v : List Pc} {i : Int}, NN u → 0 ≤ i → atP (u ++ v) i = if i < lenP u then atP u i else atP v (i - lenP u)
  | [], v, i, _, h => by rw [lenP_nil, if_neg (by omega)]; simp
  | p :: r, v, i, hn, h => by
    have h0 := hn p List.mem_cons_self
    have hr : NN r := fun q hq => hn q (List.mem_cons_of_mem _ hq)
    have hl := lenP_nn hr
    rw [List.cons_append, lenP_cons]
    simp only [atP]
    by_cases hi : i < p.1
    · rw [if_pos hi, if_pos (by omega), if_pos hi]
    · rw [if_neg hi, if_neg hi, atP_app hr (by omega)]
      by_cases hc : i - p.1 < lenP r
      · rw [if_pos hc, if_pos (by omega)]
      · rw [if_neg hc, if_neg (by omega)]
        congr 1; omega
theorem nn_app {u v : List Pc} : NN (u ++ v) ↔ NN u ∧ NN v := by
  constructor
  · exact fun h => ⟨fun p hp => h p (List.mem_append_left _ hp), fun p hp => h p (List.mem_append_right _ hp)⟩
  · rintro ⟨h1, h2⟩ p hp
    rcases List.mem_append.mp hp with e | e
    · exact h1 p e
    · exact h2 p e
theorem at_step {w : List Pc} {p : Pc} {i : Int} (hw : NN w) (hp : 0 ≤ p.1) (hi : 0 ≤ i) : atP (shStep w p) i = atP (w ++ [p]) i := by
  by_cases h : 0 < p.1
  · rcases snoc_cases w with rfl | ⟨u, q, rfl⟩
    · rw [shStep_nil h]; rfl
    · obtain ⟨h1, h2⟩ := nn_app.mp hw
      have hq : 0 ≤ q.1 := h2 q (by simp)
      by_cases e : q.2 = p.2
      · rw [shStep_same h e, List.append_assoc, atP_app h1 hi, atP_app h1 hi]
        split
        · rfl
        · simp only [List.singleton_append, atP]
          split <;> split <;> first | rfl | (try split) <;> first | omega | simp_all
      · rw [shStep_new h e]
  · rw [shStep_none h, atP_app hw hi]
    split
    · rfl
    · have : p.1 = 0 := by omega
      simp only [atP, this, ite_self]
      rw [if_neg (by omega)]
      -- both beyond
      have : ∀ {w : List Pc} {i : Int}, lenP w ≤ i → NN w → atP w i = [] := by
        intro w
        induction w with
        | nil => intros; rfl
        | cons a r ih =>
          intro i h1 h2
          rw [lenP_cons] at h1
          have hr : NN r := fun q hq => h2 q (List.mem_cons_of_mem _ hq)
          have := lenP_nn hr
          simp only [atP]
          rw [if_neg (by omega)]
          exact ih (by omega) hr
      exact this (by omega) hw
theorem nn_step {w : List Pc} {p : Pc} (hw : NN w) (hp : 0 ≤ p.1) : NN (shStep w p) := by
  by_cases h : 0 < p.1
  · rcases snoc_cases w with rfl | ⟨u, q, rfl⟩
    · rw [shStep_nil h]; intro x hx; have : x = p := by simpa using hx
      subst this; exact hp
    · obtain ⟨h1, h2⟩ := nn_app.mp hw
      have hq : 0 ≤ q.1 := h2 q (by simp)
      by_cases e : q.2 = p.2
      · rw [shStep_same h e]
        refine nn_app.mpr ⟨h1, fun x hx => ?_⟩
        have : x = (q.1 + p.1, p.2) := by simpa using hx
        subst this; show 0 ≤ q.1 + p.1; omega
      · rw [shStep_new h e]
        refine nn_app.mpr ⟨hw, fun x hx => ?_⟩
        have : x = p := by simpa using hx
        subst this; exact hp
  · rw [shStep_none h]; exact hw
theorem at_fold : ∀ (ps : List Pc) {w : List Pc} {i : Int}, NN w → NN ps → 0 ≤ i → atP (ps.foldl shStep w) i = atP (w ++ ps) i
  | [], w, i, _, _, _ => by simp
  | p :: r, w, i, hw, hp, hi => by
    have h0 := hp p List.mem_cons_self
    have hr : NN r := fun q hq => hp q (List.mem_cons_of_mem _ hq)
    have hs := nn_step hw h0
    rw [List.foldl_cons, at_fold r hs hr hi, atP_app hs hi, len_step h0, at_step hw h0 hi]
    have e : w ++ p :: r = (w ++ [p]) ++ r := by simp
    have hw1 : NN (w ++ [p]) := nn_app.mpr ⟨hw, fun x hx => by have : x = p := by simpa using hx
                                                               subst this; exact h0⟩
    rw [e, atP_app hw1 hi, lenP_app, show lenP [p] = p.1 by simp [lenP]]
theorem at_shp {ps : List Pc} {i : Int} (h : NN ps) (hi : 0 ≤ i) : atP (shp ps) i = atP ps i := by
  have := at_fold ps (w := []) (fun p hp => by cases hp) h hi
  simpa [shp] using this
theorem cn_ext : ∀ {w w' : List Pc}, Cn w → Cn w' → lenP w = lenP w' → (∀ i, 0 ≤ i → i < lenP w → atP w i = atP w' i) → w = w'
  | [], [], _, _, _, _ => rfl
  | [], p :: r, _, h, e, _ => by have := h.len_pos; rw [← e, lenP_nil] at this; omega
  | p :: r, [], h, _, e, _ => by have := h.len_pos; rw [e, lenP_nil] at this; omega
  | p :: r, q :: s, h1, h2, e, ha => by
    have p0 := h1.pos p List.mem_cons_self
    have q0 := h2.pos q List.mem_cons_self
    have lr := lenP_nn h1.tail.nn
    have ls := lenP_nn h2.tail.nn
    have e' := e
    rw [lenP_cons, lenP_cons] at e'
    have w0 : p.2 = q.2 := by
      have := ha 0 (by omega) (by rw [lenP_cons]; omega)
      simpa [atP, p0, q0] using this
    have m0 : p.1 = q.1 := by
      rcases Int.lt_trichotomy p.1 q.1 with h | h | h
      · exfalso
        cases r with
        | nil => rw [lenP_nil] at e'; omega
        | cons a t =>
          have a0 := h1.tail.pos a List.mem_cons_self
          have lt := lenP_nn h1.tail.tail.nn
          have := ha p.1 (by omega) (by rw [lenP_cons, lenP_cons]; omega)
          simp only [atP, if_pos h, if_neg (show ¬ p.1 < p.1 by omega)] at this
          rw [if_pos (by omega), ← w0] at this
          exact h1.2.1 this.symm
      · exact h
      · exfalso
        cases s with
        | nil => rw [lenP_nil] at e'; omega
        | cons a t =>
          have a0 := h2.tail.pos a List.mem_cons_self
          have lt := lenP_nn h2.tail.tail.nn
          have := ha q.1 (by omega) (by rw [e, lenP_cons, lenP_cons]; omega)
          simp only [atP, if_pos h, if_neg (show ¬ q.1 < q.1 by omega)] at this
          rw [if_pos (by omega), w0] at this
          exact h2.2.1 this
    have pq : p = q := Prod.ext m0 w0
    subst pq
    rw [cn_ext h1.tail h2.tail (by omega) fun i h0 hi => ?_]
    have := ha (i + p.1) (by omega) (by rw [lenP_cons]; omega)
    simp only [atP, if_neg (show ¬ i + p.1 < p.1 by omega)] at this
    rw [show i + p.1 - p.1 = i by omega] at this
    exact this
theorem shp_cn {w : List Pc} (h : Cn w) : shp w = w := cn_ext (cn_shp w) h (len_shp h.nn) fun i h0 _ => at_shp h.nn h0
theorem shp_shp (ps : List Pc) : shp (shp ps) = shp ps := shp_cn (cn_shp ps)
end F3
set_option maxHeartbeats 400000
/-! FO: loops by invariants, the store with a purse, data of pieces. -/
namespace F3
open PySem PySem.Spec PyProof.Rows L2
theorem forI_ind {g : G3} {b : C3} {st : Sto → Prop} {E : Ends3} (Inv : List D → S3 → Sto → Prop) {xs : List D} {ρ : S3} {h : Sto} (hi : Inv xs ρ h) (hs : ∀ xs ρ h, Inv xs ρ h → st h) (h0 : ∀ ρ h, Inv [] ρ h → E.nx ρ h)
    (h1 : ∀ x r ρ h (F : S3 → Sto → Prop), Inv (x :: r) ρ h → (∀ ρ' h', Inv r ρ' h' → F ρ' h') → g x ρ h fun ρ' h' => b { E with nx := F, ct := F, bk := E.nx } ρ' h') : forI g b st E xs ρ h := by
  induction xs generalizing ρ h with
  | nil => exact ⟨hs _ _ _ hi, h0 _ _ hi⟩
  | cons x r ih => exact ⟨hs _ _ _ hi, h1 x r ρ h _ hi fun ρ' h' hi' => ih hi'⟩
theorem lcI_ind {g : G3} {tt : B3} {te : E3} {st : Sto → Prop} {ρ : S3} {Q : List D → Sto → Prop} (Inv : List D → List D → Sto → Prop) {xs acc : List D} {h : Sto} (hi : Inv xs acc h) (hs : ∀ xs acc h, Inv xs acc h → st h) (h0 : ∀ acc h, Inv [] acc h → Q acc h)
    (h1 : ∀ x r acc h (F : List D → Sto → Prop), Inv (x :: r) acc h → (∀ acc' h', Inv r acc' h' → F acc' h') → g x ρ h fun ρ2 h2 => tt ρ2 h2 fun b h3 => if b = true then te ρ2 h3 fun y h4 => F (acc ++ [y]) h4 else F acc h3) : lcI g tt te st ρ xs acc h Q := by
  induction xs generalizing acc h with
  | nil => exact ⟨hs _ _ _ hi, h0 _ _ hi⟩
  | cons x r ih => exact ⟨hs _ _ _ hi, h1 x r acc h (fun acc' h' => lcI g tt te st ρ r acc' h' Q) hi fun acc' h' hi' => ih hi'⟩
theorem wh_ind {c : B3} {b : C3} {E : Ends3} (Inv : Nat → S3 → Sto → Prop) {n : Nat} {ρ : S3} {h : Sto} (hi : Inv n ρ h)
    (h1 : ∀ n ρ h (F : S3 → Sto → Prop), Inv n ρ h → (∀ k ρ' h', k < n → Inv k ρ' h' → F ρ' h') → c ρ h fun k h1 => if k = true then b { E with nx := F, ct := F, bk := E.nx } ρ h1 else E.nx ρ h1)
    (mc : MonoB c) (mb : MonoC b) : cWhile c b E ρ h := by
  have up : ∀ n m ρ h, n ≤ m → whN c b E n ρ h → whN c b E m ρ h := by
    intro n
    induction n with
    | zero => intro m ρ h _ q; exact q.elim
    | succ n ih =>
      intro m ρ h hm q
      cases m with
      | zero => omega
      | succ m =>
        refine mc _ _ _ _ (fun k h1 q1 => ?_) q
        cases k with
        | false => exact q1
        | true =>
          simp only [if_true] at q1 ⊢
          exact mb { E with nx := whN c b E n, ct := whN c b E n, bk := E.nx } { E with nx := whN c b E m, ct := whN c b E m, bk := E.nx } _ _ ⟨fun _ _ q => ih m _ _ (by omega) q, fun _ _ q => q, fun _ _ q => q, fun _ _ q => ih m _ _ (by omega) q⟩ q1
  have key : ∀ m n ρ h, n ≤ m → Inv n ρ h → whN c b E (m + 1) ρ h := by
    intro m
    induction m with
    | zero =>
      intro n ρ h hn i
      refine h1 n ρ h (whN c b E 0) i fun k ρ' h' hk i' => by omega
    | succ m ih =>
      intro n ρ h hn i
      exact h1 n ρ h (whN c b E (m + 1)) i fun k ρ' h' hk i' => ih k ρ' h' (by omega) i'
  exact ⟨n + 1, key n n ρ h (Nat.le_refl _) hi⟩
/-! ### the store with a purse at a, and cells behind -/
def W (h : Sto) (a : Nat) (c s : Int) (g : Sto) : Sto := h.set a (draw c s) ++ g
section
variable {h g k : Sto} {a : Nat} {c s c' s' : Int}
theorem W_len : (W h a c s g).length = h.length + g.length := by simp [W]
theorem W_app : W h a c s g ++ k = W h a c s (g ++ k) := by simp [W]
theorem W_getA (ha : a < h.length) : (W h a c s g)[a]? = some (draw c s) := by
  unfold W
  rw [List.getElem?_append_left (by simpa using ha)]
  exact List.getElem?_set_self ha
theorem W_setA (ha : a < h.length) : (W h a c s g).set a (draw c' s') = W h a c' s' g := by
  unfold W
  rw [List.set_append, if_pos (by simpa using ha), List.set_set]
theorem W_get0 : (W h a c s g)[h.length]? = g[0]? := by
  unfold W
  rw [List.getElem?_append_right (by simp)]; simp
theorem W_getk {n : Nat} : (W h a c s g)[h.length + n]? = g[n]? := by
  unfold W
  rw [List.getElem?_append_right (by simp)]; simp
theorem W_set0 {x : Cell} : (W h a c s g).set h.length x = W h a c s (g.set 0 x) := by
  unfold W
  rw [List.set_append, if_neg (by simp)]; simp
theorem W_setk {n : Nat} {x : Cell} : (W h a c s g).set (h.length + n) x = W h a c s (g.set n x) := by
  unfold W
  rw [List.set_append, if_neg (by simp)]; simp
theorem W_mk (e : h[a]? = some (draw c s)) : h = W h a c s [] := by
  unfold W
  rw [List.append_nil, set_same e]
theorem W_nil : W h a c s [] = h.set a (draw c s) := by simp [W]
theorem lt_of_get {α : Type} {xs : List α} {n : Nat} {x : α} (e : xs[n]? = some x) : n < xs.length := (List.getElem?_eq_some_iff.mp e).1
theorem cl_W (ha : a < h.length) (hs : ClS h.length h) : ClS (h.set a (draw c s)).length (h.set a (draw c s)) := by
  rw [List.length_set]
  exact hs.set a cl_draw
/-- one cell alone is left behind the first ones -/
theorem gq_W {n : Nat} {xs : List D} {Q : DK} (ha : a < h.length) (hs : ClS h.length h) (hk : g[n]? = some (.lst xs)) (hx : ClDs h.length xs) (q : Q (.ref h.length) (W h a c s [.lst xs])) : GQ h.length Q (.ref (h.length + n)) (W h a c s g) := by
  have := gq_one (n := h.length) (h := h.set a (draw c s)) (g := g) (k := n) (Q := Q) (by simp) hk (by simpa using hx) (cl_W ha hs) (by simpa [W] using q)
  simpa [W] using this
theorem gq_Wt {d : D} {Q : DK} (ha : a < h.length) (hs : ClS h.length h) (hd : ClD h.length d) (q : Q d (W h a c s [])) : GQ h.length Q d (W h a c s g) := by
  have := gq_tail (n := h.length) (h := h.set a (draw c s)) (g := g) (Q := Q) (d := d) (by simp) (by simpa using hd) (cl_W ha hs) (by simpa [W] using q)
  exact this
theorem take_W {n : Int} {Q : DK} {E : X3} (ha : a < h.length) (hd : DrawOk c s) (h0 : 0 < n) (h1 : n < 2 ^ 2000)
    (q : ∀ c s r : Int, DrawOk c s → 0 ≤ r → r < n → Q (.int r) (W h a c s g)) : sp_take [.ref a, .int n] (W h a c s g) Q E :=
  take_at (W_getA ha) hd h0 h1 fun c' s' r hd' r0 r1 => by
    rw [W_setA ha]
    exact q c' s' r hd' r0 r1
end
/-! ### a promise of a def that draws: a is the purse's cell -/
/-- args behind the purse, what is wanted of them, and what is told: a value and one new cell or none -/
def spW {α : Type} (args : α → List D) (pre : α → Sto → Prop) (res : α → Sto → D → Sto → Prop) : Sp3 :=
  spR (fun (a : Nat × Int × Int × α) => .ref a.1 :: args a.2.2.2) (fun a h => h[a.1]? = some (draw a.2.1 a.2.2.1) ∧ DrawOk a.2.1 a.2.2.1 ∧ pre a.2.2.2 h) (fun a h d h' => ∃ c s g, DrawOk c s ∧ res a.2.2.2 h d g ∧ h' = W h a.1 c s g)
theorem mono_spW {α : Type} {args : α → List D} {pre : α → Sto → Prop} {res : α → Sto → D → Sto → Prop} : MonoS (spW args pre res) := mono_spR
theorem len_spW {α : Type} {args : α → List D} {pre : α → Sto → Prop} {res : α → Sto → D → Sto → Prop} {n : Nat} (hl : ∀ a, (args a).length + 1 = n) : ∀ ds h Q E, spW args pre res ds h Q E → ds.length = n := len_spR fun a => by
  rw [List.length_cons]; exact hl _
theorem spW_in {α : Type} {args : α → List D} {pre : α → Sto → Prop} {res : α → Sto → D → Sto → Prop} {ds : List D} {h : Sto} {Q : DK} {E : X3} (w : spW args pre res ds h Q E) :
    ∃ a c s x, ds = .ref a :: args x ∧ a < h.length ∧ DrawOk c s ∧ pre x h ∧ h = W h a c s [] ∧ ∀ c s g d, DrawOk c s → res x h d g → Q d (W h a c s g) := by
  obtain ⟨⟨a, c, s, x⟩, rfl, ⟨h1, h2, h3⟩, q⟩ := w
  exact ⟨a, c, s, x, rfl, lt_of_get h1, h2, h3, W_mk h1, fun c s g d hd hr => q _ _ ⟨c, s, g, hd, hr, rfl⟩⟩
theorem spW_at {α : Type} {args : α → List D} {pre : α → Sto → Prop} {res : α → Sto → D → Sto → Prop} {h g : Sto} {a : Nat} {c s : Int} {ds : List D} {Q : DK} {E : X3} (x : α) (ha : a < h.length) (hd : DrawOk c s) (e : ds = .ref a :: args x) (hp : pre x (W h a c s g))
    (q : ∀ c' s' k d, DrawOk c' s' → res x (W h a c s g) d k → Q d (W h a c' s' (g ++ k))) : spW args pre res ds (W h a c s g) Q E := by
  refine ⟨(a, c, s, x), e, ⟨W_getA ha, hd, hp⟩, ?_⟩
  rintro d h' ⟨c', s', k, hd', hr, rfl⟩
  have : W (W h a c s g) a c' s' k = W h a c' s' (g ++ k) := by
    show (W h a c s g).set a (draw c' s') ++ k = _
    rw [W_setA ha, W_app]
  show Q d (W (W h a c s g) a c' s' k)
  rw [this]
  exact q c' s' k d hd' hr
/-! ### pieces as values -/
def wtD (w : List Int) : D := .tup (w.map .int)
def pcD (p : Pc) : D := .tup [.int p.1, wtD p.2]
def pcP (p : Pc) : PyData := .tuple [.int p.1, .tuple (p.2.map .int)]
theorem toP_wt {h : Sto} {k : Nat} (w : List Int) : toP h (k + 2) (wtD w) = some (.tuple (w.map .int)) := toP_tup (toP_ints w)
theorem toP_pc {h : Sto} {k : Nat} (p : Pc) : toP h (k + 3) (pcD p) = some (pcP p) := by
  refine toP_tup (k := k + 2) ?_
  rw [List.mapM_cons, List.mapM_cons, List.mapM_nil, toP_wt]
  rfl
theorem toP_pcs {h : Sto} {n k : Nat} {w : List Pc} (e : h[n]? = some (.lst (w.map pcD))) : toP h (k + 4) (.ref n) = some (.list (w.map pcP)) := toP_lst e (mapM_of fun p _ => toP_pc p)
theorem toP_pcsX {h : Sto} {k : Nat} {w : List Pc} : (w.map pcD).mapM (toP h (k + 3)) = some (w.map pcP) := mapM_of fun p _ => toP_pc p
theorem eqv_tupI {ns ms : List Int} : PyData.eqv (.tuple (ns.map .int)) (.tuple (ms.map .int)) = decide (ns = ms) := by
  simp only [PyData.eqv, eqv_ints]
theorem eqv_pc {p q : Pc} : PyData.eqv (pcP p) (pcP q) = decide (p = q) := by
  obtain ⟨m, w⟩ := p
  obtain ⟨k, v⟩ := q
  simp only [pcP, PyData.eqv, PyData.eqvAll, eqv_ints, Bool.and_true, Prod.mk.injEq, Bool.decide_and]
  rw [Bool.beq_eq_decide_eq]
theorem eqv_pcAll : ∀ {w v : List Pc}, PyData.eqvAll (w.map pcP) (v.map pcP) = decide (w = v)
  | [], [] => by simp [PyData.eqvAll]
  | [], _ :: _ => by simp [PyData.eqvAll]
  | _ :: _, [] => by simp [PyData.eqvAll]
  | n :: r, m :: q => by
    simp only [List.map_cons, PyData.eqvAll, eqv_pc, eqv_pcAll (w := r) (v := q), List.cons.injEq, Bool.decide_and]
theorem eqv_pcs {w v : List Pc} : PyData.eqv (.list (w.map pcP)) (.list (v.map pcP)) = decide (w = v) := by
  simp only [PyData.eqv, eqv_pcAll]
/-- a cell with pieces against a written list -/
theorem eqX_pcs {h : Sto} {n : Nat} {neg : Bool} {w v : List Pc} {Q : DK} (e : h[n]? = some (.lst (w.map pcD))) : eqX neg (.ref n) (v.map pcD) h Q = Q (.bl (if neg then !decide (w = v) else decide (w = v))) h := by
  unfold eqX
  simp only [toP_pcs (k := 5) e, toP_pcsX (k := 5), eqv_pcs]
theorem eqX_pcs0 {h : Sto} {n : Nat} {neg : Bool} {w : List Pc} {Q : DK} (e : h[n]? = some (.lst (w.map pcD))) : eqX neg (.ref n) [] h Q = Q (.bl (if neg then !decide (w = []) else decide (w = []))) h := eqX_pcs (v := []) e
theorem neR_pcs {h : Sto} {n m : Nat} {w v : List Pc} {Q : DK} (e : h[n]? = some (.lst (w.map pcD))) (f : h[m]? = some (.lst (v.map pcD))) : neR (.ref n) (.ref m) h Q = Q (.bl (!decide (w = v))) h := by
  rw [neR_re, toP_pcs (k := 5) e, toP_pcs (k := 5) f, eqP_some, eqv_pcs]
theorem eqR_pcs {h : Sto} {n m : Nat} {w v : List Pc} {Q : DK} (e : h[n]? = some (.lst (w.map pcD))) (f : h[m]? = some (.lst (v.map pcD))) : eqR (.ref n) (.ref m) h Q = Q (.bl (decide (w = v))) h := by
  rw [eqR_re, toP_pcs (k := 5) e, toP_pcs (k := 5) f, eqP_some, eqv_pcs]
theorem eqR_wt {h : Sto} {w v : List Int} {Q : DK} : eqR (wtD w) (wtD v) h Q = Q (.bl (decide (w = v))) h := by
  have : wtD w = .tup (w.map .int) := rfl
  rw [this, eqR_te, ← this, toP_wt (k := 7), toP_wt (k := 7), eqP_some, eqv_tupI]
theorem neR_wt {h : Sto} {w v : List Int} {Q : DK} : neR (wtD w) (wtD v) h Q = Q (.bl (!decide (w = v))) h := by
  have : wtD w = .tup (w.map .int) := rfl
  rw [this, neR_te, ← this, toP_wt (k := 7), toP_wt (k := 7), eqP_some, eqv_tupI]
theorem cl_wt {n : Nat} {w : List Int} : ClD n (wtD w) := by
  unfold wtD
  simp only [ClD]
  exact cl_ints w
theorem cl_pc {n : Nat} {p : Pc} : ClD n (pcD p) := by
  unfold pcD
  simp only [ClD, ClDs, true_and, and_true]
  exact cl_wt
theorem cl_pcs {n : Nat} {w : List Pc} : ClDs n (w.map pcD) := ClDs.all fun x hx => by
  obtain ⟨p, _, rfl⟩ := List.mem_map.mp hx
  exact cl_pc
theorem ix_pc0 {p : Pc} {h : Sto} {Q : DK} : ixR (pcD p) (.int 0) h Q = Q (.int p.1) h := by
  unfold pcD
  rw [ixR_ti, atD_0]
theorem ix_pc1 {p : Pc} {h : Sto} {Q : DK} : ixR (pcD p) (.int 1) h Q = Q (wtD p.2) h := by
  unfold pcD
  rw [ixR_ti, atD_1, atD_0]
theorem gTup_pc {p : Pc} {i j : Nat} {ρ : S3} {h : Sto} {Q : S3 → Sto → Prop} : gTup3 2 (gCons3 (gN i) (gCons3 (gN j) gNil3)) (pcD p) ρ h Q = Q ((ρ.set i (some (.int p.1))).set j (some (wtD p.2))) h := by
  unfold pcD gTup3 gCons3 gNil3 gN
  simp
end F3
set_option maxHeartbeats 400000
/-! FP: sorted(..) of a list of data of one kind. -/
namespace F3
open PySem PySem.Spec PyProof.Rows L2
section
variable {X : Cx}
def rSortedD (K : PySem.W.Frag) : List V → Hp → VK → Prop := fun vs H Q => ∃ (l : Addr) (γ : Type) (zs : List γ) (f : γ → V) (enc : γ → PyData), vs = [V.ref l] ∧ SqL K H l (zs.map f) ∧ (∀ z ∈ zs, Dp K H (f z) (enc z) ∧ (enc z).depth ≤ 60) ∧
  PySem.W.AllAlike (zs.map enc) ∧ PySem.W.Sortable (zs.map enc) ∧ ∀ p : Addr, H p = none → Q (.ref p) (upd H p (.lst ((zs.mergeSort (PySem.W.dataLe false enc)).map f)))
theorem each_of_vals {γ : Type} {f : γ → V} : ∀ {zs : List γ} {us : List Value}, Vals (zs.map f) us → PySem.W.EachIs (fun v z => RelV (f z) v) us zs
  | [], _, .nil => .nil
  | _ :: _, _, .cons a b => .cons a (each_of_vals b)
theorem vals_of_each {γ : Type} {f : γ → V} : ∀ {zs : List γ} {us : List Value}, PySem.W.EachIs (fun v z => RelV (f z) v) us zs → Vals (zs.map f) us
  | _, _, .nil => .nil
  | _, _, .cons a b => .cons a (vals_of_each b)
theorem each_and {γ : Type} {R S : Value → γ → Prop} : ∀ {us : List Value} {zs : List γ}, PySem.W.EachIs R us zs → (∀ u, ∀ z ∈ zs, R u z → S u z) → PySem.W.EachIs S us zs
  | _, _, .nil, _ => .nil
  | _, _, .cons a b, w => .cons (w _ _ List.mem_cons_self a) (each_and b fun u z hz => w u z (List.mem_cons_of_mem _ hz))
theorem cr_sortedD (hu : X.A.units + 64 < cLine) : CallR X (.builtin "sorted") (rSortedD X.K) := by
  intro pins s σ H vs us Q I r h
  obtain ⟨l, γ, zs, f, enc, rfl, hs, hd, ha, hk, q⟩ := h
  obtain ⟨its, rv, hl, hz⟩ := I.list hs
  rw [Vals.ref1 r]
  have e1 := each_of_vals rv
  have e2 : PySem.W.EachIs (fun v z => ∃ as, Reads s.heap v (enc z) as) its zs := each_and e1 fun u z hz r => Dp.reads I _ _ _ (hd z hz).1 r
  refine PySem.W.sorted_data hl.isList e1 e2 ha hk (by simpa using hz) (fun z hz => by have := (hd z hz).2; omega) fun out h1 h2 => ?_
  obtain ⟨ep, he'⟩ := PyProof.Rows.sortedAll_at s.heap its out.toArray
  have v2 := vals_of_each h2
  have hlen : ((zs.mergeSort (PySem.W.dataLe false enc)).map f).length ≤ sizeLine := by
    rw [List.length_map, List.length_mergeSort]
    simpa using hz
  exact ⟨.ref _, upd H (s.heap.objs.size + 1) (.lst ((zs.mergeSort (PySem.W.dataLe false enc)).map f)), I.laid (t' := s.toks) (fun _ _ => PyProof.Rows.sortedAll_old) (Nat.le_succ _) ⟨hlen, out, ep, v2, he'⟩, rfl, q _ (I.hok.fresh (Nat.le_succ _))⟩
/-- sorted of data -/
def srtG : M3 := fun xs h Q => ∃ (β : Type) (bs : List β) (f : β → D) (enc : β → PyData), xs = bs.map f ∧ (∀ b ∈ bs, toP h 8 (f b) = some (enc b)) ∧ PySem.W.AllAlike (bs.map enc) ∧ PySem.W.Sortable (bs.map enc) ∧ Q ((bs.mergeSort (PySem.W.dataLe false enc)).map f) h
theorem srtG_mono : ∀ xs h (Q Q' : List D → Sto → Prop), (∀ d h', Q d h' → Q' d h') → srtG xs h Q → srtG xs h Q' := fun xs h Q Q' w ⟨β, bs, f, enc, h1, h2, h3, h4, q⟩ => ⟨β, bs, f, enc, h1, h2, h3, h4, w _ _ q⟩
theorem RelDs.zip {K : PySem.W.Frag} {m : List Addr} {H : Hp} {β : Type} {f : β → D} : ∀ {bs : List β} {vs : List V}, RelDs K m H (bs.map f) vs → ∃ zs : List (β × V), zs.map Prod.fst = bs ∧ zs.map Prod.snd = vs ∧ ∀ z ∈ zs, RelD K m H (f z.1) z.2
  | [], _, .nil => ⟨[], rfl, rfl, by simp⟩
  | b :: bs, _, .cons r t => by
    obtain ⟨zs, h1, h2, h3⟩ := RelDs.zip t
    refine ⟨(b, _) :: zs, by simp [h1], by simp [h2]; rfl, fun z hz => ?_⟩
    rcases List.mem_cons.mp hz with e | e
    · subst e; exact r
    · exact h3 z e
theorem RelDs.unzip {K : PySem.W.Frag} {m : List Addr} {H : Hp} {β : Type} {f : β → D} : ∀ {zs : List (β × V)}, (∀ z ∈ zs, RelD K m H (f z.1) z.2) → RelDs K m H (zs.map fun z => f z.1) (zs.map Prod.snd)
  | [], _ => .nil
  | z :: r, h => .cons (h z List.mem_cons_self) (RelDs.unzip fun y hy => h y (List.mem_cons_of_mem _ hy))
theorem srtG_lift {K : PySem.W.Frag} {m : List Addr} {h : Sto} {H : Hp} {l : Addr} {xs : List D} {vs : List V} {Q : VK} (R : Rep K m h H) (sq : SqL K H l vs) (rs : RelDs K m H xs vs) (q : srtG xs h (UpX K m H Q)) : rSortedD K [.ref l] H Q := by
  obtain ⟨β, bs, f, enc, rfl, h2, h3, h4, q⟩ := q
  obtain ⟨zs, rfl, rfl, hz⟩ := rs.zip
  refine ⟨l, β × V, zs, Prod.snd, fun z => enc z.1, rfl, sq, fun z hm => ?_, ?_, ?_, fun p hp => ?_⟩
  · have e := h2 z.1 (List.mem_map_of_mem hm)
    exact ⟨(toP_dp R 8 _ _ _ e (hz z hm)).1, Nat.le_trans (toP_depth 8 _ _ e) (by decide)⟩
  · rw [List.map_map] at h3; exact h3
  · rw [List.map_map] at h4; exact h4
  · have e1 : ((zs.map Prod.fst).mergeSort (PySem.W.dataLe false enc)) = (zs.mergeSort (PySem.W.dataLe false fun z => enc z.1)).map Prod.fst := by
      rw [List.map_mergeSort (s := PySem.W.dataLe false enc)]
      intro a _ b _
      rfl
    rw [e1, List.map_map] at q
    refine UpX.laid R (xs := (zs.mergeSort (PySem.W.dataLe false fun z => enc z.1)).map fun z => f z.1) (RelDs.unzip fun z hm => hz z ?_) q p hp
    exact (List.mergeSort_perm _ _).mem_iff.mp hm
theorem klx_sortedD (hu : X.A.units + 64 < cLine) : CallLX3 X (.builtin "sorted") srtG :=
  ⟨srtG_mono, _, cr_sortedD hu, fun m h H a xs vs Q R ea rs q => srtG_lift R (.inl (.inl ea)) rs q⟩
theorem kl_sortedD (hu : X.A.units + 64 < cLine) : CallL3 X (.builtin "sorted") (onLM srtG) := by
  refine ⟨fun xs h Q Q' w q => ?_, _, cr_sortedD hu, fun m h H xs vs Q R rs q => ?_⟩
  · unfold onLM at q ⊢
    split at q
    · split at q
      · exact srtG_mono _ _ _ _ w q
      · exact q.elim
    · exact q.elim
  · unfold onLM at q
    split at q
    · split at q
      next ys e =>
        match vs, rs with
        | [_], .cons r .nil =>
          obtain ⟨a, ws, rfl, sq, rr⟩ := listOf_lift R r e
          exact srtG_lift R sq rr q
      next => exact q.elim
    · exact q.elim
end
end F3
set_option maxHeartbeats 400000
/-! FQ: the readings evaluated at their head alone: each row a plain rewriting (no defeq), what follows is kept shut until its value is there. -/
namespace F3
open PySem PySem.Spec PyProof.Rows L2
universe u
section
variable {h g h1 : Sto} {Q : DK} {i j : Int} {a b : Bool} {x y : Str} {xs ys : List D} {n m k : Nat} {d e : D} {ρ ρ' : S3} {E D' : Ends3} {A B : Prop}
structure Tag {α : Sort u} (a : α) : Type where
/-! ### ends -/
def thenE (u : C3) (E : Ends3) : Ends3 := { E with nx := u E }
theorem thenE_nx {u : C3} : (thenE u E).nx = u E := id rfl
theorem thenE_rt {u : C3} : (thenE u E).rt = E.rt := id rfl
theorem thenE_bk {u : C3} : (thenE u E).bk = E.bk := id rfl
theorem thenE_ct {u : C3} : (thenE u E).ct = E.ct := id rfl
def loopE (F : S3 → Sto → Prop) (E : Ends3) : Ends3 := { E with nx := F, ct := F, bk := E.nx }
theorem loopE_nx {F : S3 → Sto → Prop} : (loopE F E).nx = F := id rfl
theorem loopE_rt {F : S3 → Sto → Prop} : (loopE F E).rt = E.rt := id rfl
theorem loopE_bk {F : S3 → Sto → Prop} : (loopE F E).bk = E.nx := id rfl
theorem loopE_ct {F : S3 → Sto → Prop} : (loopE F E).ct = F := id rfl
theorem ends3_nx : (ends3 Q).nx ρ h = Q .non h := id rfl
theorem ends3_rt : (ends3 Q).rt = Q := id rfl
/-! ### what is shut: what follows stands in a place that the simplifier leaves alone -/
def onO (o : Option (Option D)) (q : D → Prop) (_ : Tag q := ⟨⟩) : Prop := match o with
  | some (some d) => q d
  | _ => False
theorem onO_some {q : D → Prop} : onO (some (some d)) q = q d := id rfl
def onB (d : D) (q : Bool → Prop) (_ : Tag q := ⟨⟩) : Prop := match d with
  | .bl b => q b
  | _ => False
theorem onB_bl {q : Bool → Prop} : onB (.bl a) q = q a := id rfl
def onI (d : D) (q : Int → Prop) (_ : Tag q := ⟨⟩) : Prop := match d with
  | .int i => q i
  | _ => False
theorem onI_int {q : Int → Prop} : onI (.int i) q = q i := id rfl
def ifC (c : Bool) (A B : Prop) (_ : Tag A := ⟨⟩) (_ : Tag B := ⟨⟩) : Prop := if c = true then A else B
theorem ifC_true : ifC true A B = A := by simp [ifC]
theorem ifC_false : ifC false A B = B := by simp [ifC]
theorem ifC_of {p : Prop} {_ : Decidable p} (h1 : p → A) (h2 : ¬ p → B) : ifC (decide p) A B := by
  unfold ifC
  split
  next h => exact h1 (of_decide_eq_true h)
  next h => exact h2 (of_decide_eq_false (by simpa using h))
theorem ifC_ofn {p : Prop} {_ : Decidable p} (h1 : ¬ p → A) (h2 : p → B) : ifC (!decide p) A B := by
  unfold ifC
  split
  next h => exact h1 (by simpa using h)
  next h => exact h2 (by simpa using h)
theorem ifC_ofb (h1 : a = true → A) (h2 : a = false → B) : ifC a A B := by
  cases a with
  | true => rw [ifC_true]; exact h1 rfl
  | false => rw [ifC_false]; exact h2 rfl
theorem ifC_yes {p : Prop} {_ : Decidable p} (hp : p) (q : A) : ifC (decide p) A B := by rw [decide_eq_true hp, ifC_true]; exact q
theorem ifC_no {p : Prop} {_ : Decidable p} (hp : ¬ p) (q : B) : ifC (decide p) A B := by rw [decide_eq_false hp, ifC_false]; exact q
theorem ifC_nyes {p : Prop} {_ : Decidable p} (hp : p) (q : B) : ifC (!decide p) A B := by rw [decide_eq_true hp, Bool.not_true, ifC_false]; exact q
theorem ifC_nno {p : Prop} {_ : Decidable p} (hp : ¬ p) (q : A) : ifC (!decide p) A B := by rw [decide_eq_false hp, Bool.not_false, ifC_true]; exact q
theorem ifC_p {p : Prop} {_ : Decidable p} : ifC (decide p) A B = if p then A else B := by
  by_cases hp : p
  · rw [decide_eq_true hp, ifC_true, if_pos hp]
  · rw [decide_eq_false hp, ifC_false, if_neg hp]
def onC (o : Option Cell) (q : List D → Prop) (_ : Tag q := ⟨⟩) : Prop := onLst o q
theorem onC_q {q : List D → Prop} : onC (some (.lst xs)) q = q xs := id rfl
def eqT (o p : Option PyData) (q : Bool → Prop) (_ : Tag q := ⟨⟩) : Prop := eqP o p q
theorem eqT_q {o p : PyData} {q : Bool → Prop} : eqT (some o) (some p) q = q (PyData.eqv o p) := id rfl
def isU (o : Option String) (T : String) (q : Bool → Prop) (_ : Tag q := ⟨⟩) : Prop := isB o T q
theorem isU_q {s T : String} {q : Bool → Prop} : isU (some s) T q = q (isT s T) := id rfl
def atT (xs : List D) (i : Int) (q : D → Prop) (_ : Tag q := ⟨⟩) : Prop := atD xs i q
theorem atT_0 {q : D → Prop} : atT (d :: xs) 0 q = q d := id atD_0
theorem atT_1 {q : D → Prop} : atT (d :: xs) 1 q = atT xs 0 q := id atD_1
theorem atT_2 {q : D → Prop} : atT (d :: xs) 2 q = atT xs 1 q := id atD_2
theorem atT_3 {q : D → Prop} : atT (d :: xs) 3 q = atT xs 2 q := id atD_3
theorem atT_last {q : D → Prop} : atT (xs ++ [d]) (-1) q = q d := id atD_last
theorem atT_of {q : D → Prop} (e : atI xs i = some d) : atT xs i q = q d := atD_of e
theorem atT_all {q : D → Prop} (h0 : 0 ≤ i) (h1 : i < xs.length) (w : ∀ d ∈ xs, q d) : atT xs i q := atD_all h0 h1 w
def ifT (d : D) (A B : Prop) (_ : Tag A := ⟨⟩) (_ : Tag B := ⟨⟩) : Prop := ifB d A B
theorem ifT_q : ifT (.bl a) A B = ifC a A B := by cases a <;> simp [ifT, ifB, ifC]
def lcT (gg : G3) (tt : B3) (te : E3) (st : Sto → Prop) (ρ : S3) (xs acc : List D) (h : Sto) (Q : List D → Sto → Prop) (_ : Tag Q := ⟨⟩) : Prop := lcI gg tt te st ρ xs acc h Q
def callS (sp : Sp3) (ds : List D) (h : Sto) (Q : DK) (_ : Tag Q := ⟨⟩) : Prop := sp ds h Q (fun _ _ => False)
/-! ### rows -/
theorem tV_q : tV k ρ h Q = onO ρ[k]? fun d => Q d h := id rfl
theorem tK_q : tK d ρ h Q = Q d h := id rfl
theorem tO_q {r : R3} {ta tb : E3} : tO r ta tb ρ h Q = ta ρ h fun x h1 => tb ρ h1 fun y h2 => r x y h2 Q := id rfl
theorem tU_q {r : U3} {ta : E3} : tU r ta ρ h Q = ta ρ h fun x h1 => r x h1 Q := id rfl
theorem tT_q {t : E3} {Q : Bool → Sto → Prop} : tT t ρ h Q = t ρ h fun d h1 => onB d fun b => Q b h1 := id rfl
theorem tAnd3_q {t u : B3} {Q : Bool → Sto → Prop} : tAnd3 t u ρ h Q = t ρ h fun c h1 => ifC c (u ρ h1 Q) (Q false h1) := id rfl
theorem tOr3_q {t u : B3} {Q : Bool → Sto → Prop} : tOr3 t u ρ h Q = t ρ h fun c h1 => ifC c (Q true h1) (u ρ h1 Q) := id rfl
theorem tNot3_q {t : B3} {Q : Bool → Sto → Prop} : tNot3 t ρ h Q = t ρ h fun c h1 => Q (!c) h1 := id rfl
theorem tNotE_q {t : E3} : tNotE t ρ h Q = t ρ h fun d h1 => onB d fun b => Q (.bl (!b)) h1 := id rfl
theorem tIfE_q {t : B3} {ta tb : E3} : tIfE t ta tb ρ h Q = t ρ h fun c h1 => ifC c (ta ρ h1 Q) (tb ρ h1 Q) := id rfl
theorem tAndE_q {ta tb : E3} : tAndE ta tb ρ h Q = ta ρ h fun x h1 => ifT x (tb ρ h1 Q) (Q (.bl false) h1) := id rfl
theorem tOrE_q {ta tb : E3} : tOrE ta tb ρ h Q = ta ρ h fun x h1 => ifT x (Q (.bl true) h1) (tb ρ h1 Q) := id rfl
theorem tCh_q {r r' : R3} {ta tb tc : E3} : tCh r r' ta tb tc ρ h Q = ta ρ h fun x h1 => tb ρ h1 fun y h2 => r x y h2 fun z h3 => ifT z (tc ρ h3 fun w h4 => r' y w h4 Q) (Q (.bl false) h3) := id rfl
theorem tN3_q {Q : List D → Sto → Prop} : tN3 ρ h Q = Q [] h := id rfl
theorem tC3_q {ta : E3} {tr : A3} {Q : List D → Sto → Prop} : tC3 ta tr ρ h Q = ta ρ h fun x h1 => tr ρ h1 fun xs h2 => Q (x :: xs) h2 := id rfl
theorem tTup3_q {t : A3} : tTup3 t ρ h Q = t ρ h fun xs h1 => Q (.tup xs) h1 := id rfl
theorem tNew_q {t : A3} : tNew t ρ h Q = t ρ h fun xs h1 => Q (.ref h1.length) (h1 ++ [.lst xs]) := id rfl
theorem cNext_q : cNext E ρ h = E.nx ρ h := id rfl
theorem cSeq_q {t u : C3} : cSeq t u E ρ h = t (thenE u E) ρ h := id rfl
theorem cBreak_q : cBreak E ρ h = E.bk ρ h := id rfl
theorem cCont_q : cCont E ρ h = E.ct ρ h := id rfl
theorem cDrop_q {t : E3} : cDrop t E ρ h = t ρ h fun _ h1 => E.nx ρ h1 := id rfl
theorem cRet_q {t : E3} : cRet t E ρ h = t ρ h E.rt := id rfl
theorem cRetN_q : cRetN E ρ h = E.rt .non h := id rfl
theorem cIf_q {c : B3} {t u : C3} : cIf c t u E ρ h = c ρ h fun b h1 => ifC b (t E ρ h1) (u E ρ h1) := id rfl
theorem cAsg_q {t : E3} {gg : G3} : cAsg t gg E ρ h = t ρ h fun x h1 => gg x ρ h1 E.nx := id rfl
def parD (i j : Nat) (ρ : S3) (h : Sto) (F : S3 → Sto → Prop) (vs : List D) : Prop := match vs with
  | [v, w] => F ((ρ.set i (some v)).set j (some w)) h
  | _ => False
theorem cPar_q {i j : Nat} {t : A3} : cPar i j t E ρ h = t ρ h fun vs h1 => parD i j ρ h1 E.nx vs := id rfl
theorem parD_q {i j : Nat} {F : S3 → Sto → Prop} : parD i j ρ h F [d, e] = F ((ρ.set i (some d)).set j (some e)) h := id rfl
theorem gN_q {Q : S3 → Sto → Prop} : gN k d ρ h Q = Q (ρ.set k (some d)) h := id rfl
theorem gNil3_q {Q : S3 → Sto → Prop} : gNil3 [] ρ h Q = Q ρ h := id rfl
theorem gCons3_q {gg : G3} {r : Gs3} {Q : S3 → Sto → Prop} : gCons3 gg r (d :: xs) ρ h Q = gg d ρ h fun ρ' h' => r xs ρ' h' Q := id rfl
theorem gTup3_q {gs : Gs3} {Q : S3 → Sto → Prop} : gTup3 k gs (.tup xs) ρ h Q = (xs.length = k ∧ gs xs ρ h Q) := id rfl
theorem gSub3_q {to ti : E3} {Q : S3 → Sto → Prop} : gSub3 to ti d ρ h Q = to ρ h fun o h1 => ti ρ h1 fun i h2 => setR o i d h2 fun h3 => Q ρ h3 := id rfl
def onN (o : Option Nat) (q : Nat → Prop) (_ : Tag q := ⟨⟩) : Prop := match o with
  | some j => q j
  | none => False
theorem onN_q {q : Nat → Prop} : onN (some n) q = q n := id rfl
theorem setR_q {Q : Sto → Prop} : setR (.ref n) (.int i) d h Q = onC h[n]? fun xs => onN (ixN xs.length i) fun j => Q (h.set n (.lst (xs.set j d))) := id rfl
theorem cFor_q {it : I3} {gg : G3} {b : C3} : cFor it gg b E ρ h = it ρ h fun items st h1 => forI gg b st E items ρ h1 := id rfl
theorem iNew_q {t : A3} {Q : List D → (Sto → Prop) → Sto → Prop} : iNew t ρ h Q = t ρ h fun xs h1 => Q xs (fun _ => True) h1 := id rfl
theorem iSeq_q {t : E3} {Q : List D → (Sto → Prop) → Sto → Prop} : iSeq t ρ h Q = t ρ h fun d h1 => iSeqD d h1 Q := id iSeq_eq
theorem iSeqD_tq {Q : List D → (Sto → Prop) → Sto → Prop} : iSeqD (.tup xs) h Q = Q xs (fun _ => True) h := id rfl
theorem iSeqD_fq {Q : List D → (Sto → Prop) → Sto → Prop} : iSeqD (.fl xs) h Q = Q xs (fun _ => True) h := id rfl
theorem iSeqD_rq {Q : List D → (Sto → Prop) → Sto → Prop} : iSeqD (.ref n) h Q = onC h[n]? fun xs => Q xs (fun h' => h'[n]? = some (.lst xs)) h := id rfl
theorem iRng_q {ta : A3} {Q : List D → (Sto → Prop) → Sto → Prop} : iRng ta ρ h Q = ta ρ h fun vs h1 => rngD vs h1 Q := id rfl
theorem rngD_1q {Q : List D → (Sto → Prop) → Sto → Prop} : rngD [.int j] h Q = ((-(2 ^ 62) ≤ j ∧ j < 2 ^ 62) ∧ Q ((List.range j.toNat).map fun (k : Nat) => D.int k) (fun _ => True) h) := id rfl
theorem rngD_2q {Q : List D → (Sto → Prop) → Sto → Prop} : rngD [.int i, .int j] h Q = ((-(2 ^ 62) ≤ i ∧ i < 2 ^ 62 ∧ -(2 ^ 62) ≤ j ∧ j < 2 ^ 62) ∧ Q ((List.range (j - i).toNat).map fun (k : Nat) => D.int (i + k)) (fun _ => True) h) := id rfl
theorem iZip3_q {ta : A3} {Q : List D → (Sto → Prop) → Sto → Prop} : iZip3 ta ρ h Q = ta ρ h fun vs h1 => zipD vs h1 Q := id rfl
theorem zipD_ttq {Q : List D → (Sto → Prop) → Sto → Prop} : zipD [.tup xs, .tup ys] h Q = Q (List.zipWith (fun x y => D.tup [x, y]) xs ys) (fun _ => True) h := id rfl
theorem zipD_rrq {Q : List D → (Sto → Prop) → Sto → Prop} : zipD [.ref n, .ref m] h Q = onC h[n]? fun xs => onC h[m]? fun ys => Q (List.zipWith (fun x y => D.tup [x, y]) xs ys) (fun h' => h'[n]? = some (.lst xs) ∧ h'[m]? = some (.lst ys)) h := by
  rw [zipD_rr]; rfl
def enD (vs : List D) (h : Sto) (Q : List D → (Sto → Prop) → Sto → Prop) : Prop := match vs with
  | [x] => seqOf x h fun xs st => Q (xs.mapIdx fun i x => D.tup [.int i, x]) st h
  | _ => False
theorem iEnum3_q {ta : A3} {Q : List D → (Sto → Prop) → Sto → Prop} : iEnum3 ta ρ h Q = ta ρ h fun vs h1 => enD vs h1 Q := id rfl
theorem enD_q {Q : List D → (Sto → Prop) → Sto → Prop} : enD [.ref n] h Q = onC h[n]? fun xs => Q (xs.mapIdx fun i x => D.tup [.int i, x]) (fun h' => h'[n]? = some (.lst xs)) h := id rfl
theorem tLc3_q {it : I3} {gg : G3} {tt : B3} {te : E3} {vs : List Nat} {Q : List D → Sto → Prop} : tLc3 it gg tt te vs ρ h Q = it ρ h fun items st h1 => items.length ≤ 16777216 ∧ lcT gg tt te st (wipe3 ρ vs) items [] h1 Q := id rfl
theorem bYes_q {Q : Bool → Sto → Prop} : bYes ρ h Q = Q true h := id rfl
theorem tCall3_q {sp : Sp3} {ta : A3} : tCall3 sp ta ρ h Q = ta ρ h fun ds h1 => callS sp ds h1 Q := id rfl
theorem tB3_q {r : N3} {ta : A3} : tB3 r ta ρ h Q = ta ρ h fun xs h1 => r xs h1 Q := id rfl
theorem tL3_q {r : M3} {ta : A3} {Q : List D → Sto → Prop} : tL3 r ta ρ h Q = ta ρ h fun xs h1 => r xs h1 Q := id rfl
theorem tIxX_q {ta : A3} {tb : E3} : tIxX ta tb ρ h Q = ta ρ h fun xs h1 => tb ρ h1 fun y h2 => onI y fun i => atT xs i fun d => Q d h2 := id rfl
theorem tSl3_q {te : E3} {tl th : O3} : tSl3 te tl th ρ h Q = te ρ h fun x h1 => tl ρ h1 fun l h2 => th ρ h2 fun u h3 => slR x l u h3 Q := id rfl
theorem oNo_q {Q : Option Int → Sto → Prop} : oNo ρ h Q = Q none h := id rfl
theorem oSo_q {t : E3} {Q : Option Int → Sto → Prop} : oSo t ρ h Q = t ρ h fun d h1 => onI d fun i => Q (some i) h1 := id rfl
theorem tOX_q {r : D → List D → Sto → DK → Prop} {ta : E3} {tb : A3} : tOX r ta tb ρ h Q = ta ρ h fun x h1 => tb ρ h1 fun ys h2 => r x ys h2 Q := id rfl
theorem inX_q : inX d xs h Q = ((flatD d = true ∧ xs.all flatD = true) ∧ Q (.bl (inD d xs)) h) := id rfl
theorem ninX_q : ninX d xs h Q = ((flatD d = true ∧ xs.all flatD = true) ∧ Q (.bl (!inD d xs)) h) := id rfl
theorem tupX_q : tupX xs h Q = Q (.tup xs) h := id rfl
theorem lenX_q : lenX xs h Q = Q (.int xs.length) h := id rfl
def onIs (o : Option (List Int)) (q : List Int → Prop) (_ : Tag q := ⟨⟩) : Prop := match o with
  | some j => q j
  | none => False
theorem onIs_q {ns : List Int} {q : List Int → Prop} : onIs (some ns) q = q ns := id rfl
def onBs (o : Option (List Bool)) (q : List Bool → Prop) (_ : Tag q := ⟨⟩) : Prop := match o with
  | some j => q j
  | none => False
theorem onBs_q {ns : List Bool} {q : List Bool → Prop} : onBs (some ns) q = q ns := id rfl
theorem sumX_q : sumX xs h Q = onIs (intsOf xs) fun ns => Q (.int ns.sum) h := id rfl
theorem allX_q : allX xs h Q = onBs (blsOf xs) fun bs => Q (.bl (bs.all id)) h := id rfl
theorem anyX_q : anyX xs h Q = onBs (blsOf xs) fun bs => Q (.bl (bs.any id)) h := id rfl
theorem maxX_q : maxX xs h Q = onIs (intsOf xs) fun ns => 0 < ns.length ∧ ∀ m, m ∈ ns → (∀ y, y ∈ ns → y ≤ m) → Q (.int m) h := id rfl
theorem minX_q : minX xs h Q = onIs (intsOf xs) fun ns => 0 < ns.length ∧ ∀ m, m ∈ ns → (∀ y, y ∈ ns → m ≤ y) → Q (.int m) h := id rfl
theorem srtX_q {Q : List D → Sto → Prop} : srtX xs h Q = onIs (intsOf xs) fun ns => ∀ ns' : List Int, ns'.Perm ns → ns'.Pairwise (· ≤ ·) → Q (ns'.map .int) h := id rfl
theorem tSSet_q {t : A3} {Q : List D → Sto → Prop} : tSSet t ρ h Q = t ρ h fun xs h1 => onIs (intsOf xs) fun ns => ns.length < 64 ∧ ∀ ms : List Int, ms.Pairwise (· < ·) → (∀ k, k ∈ ms ↔ k ∈ ns) → Q (ms.map .int) h1 := id rfl
theorem tBits3_q {t : E3} : tBits3 t ρ h Q = t ρ h fun x h1 => onI x fun i => Q (.int (Builtin.Int.intBits i : Nat)) h1 := id rfl
def lmD (r : T3) (ta : A3) (ρ : S3) (h : Sto) (Q : DK) (d : D) : Prop := match d with
  | .ref n => (match h[n]? with
    | some (.lst _) => True
    | _ => False) ∧ ta ρ h fun ds h2 => match h2[n]? with
      | some (.lst xs) => r xs ds h2 fun d ys => Q d (h2.set n (.lst ys))
      | _ => False
  | _ => False
theorem tLM_q {r : T3} {to : E3} {ta : A3} : tLM r to ta ρ h Q = to ρ h fun x h1 => lmD r ta ρ h1 Q x := id rfl
theorem lmD_q {r : T3} {ta : A3} : lmD r ta ρ h Q (.ref n) = onC h[n]? fun _ => ta ρ h fun ds h2 => onC h2[n]? fun xs => r xs ds h2 fun d ys => Q d (h2.set n (.lst ys)) := by
  show (_ ∧ _) = _
  cases e : h[n]? with
  | none => simp [onC, onLst]
  | some c =>
    cases c with
    | lst xs =>
      have : (fun (ds : List D) (h2 : Sto) => match h2[n]? with
        | some (.lst xs) => r xs ds h2 fun d ys => Q d (h2.set n (.lst ys))
        | _ => False) = fun ds h2 => onC h2[n]? fun xs => r xs ds h2 fun d ys => Q d (h2.set n (.lst ys)) := by
        funext ds h2
        unfold onC onLst
        cases h2[n]? with
        | none => rfl
        | some c => cases c <;> rfl
      simp only [true_and, onC_q, this]
    | _ => simp [onC, onLst]
theorem appT_q {Q : D → List D → Prop} : appT xs [d] h Q = (xs.length < 16777216 ∧ Q .non (xs ++ [d])) := id rfl
theorem extT_q {Q : D → List D → Prop} : extT xs [.ref n] h Q = onC h[n]? fun zs => xs.length + zs.length ≤ 16777216 ∧ Q .non (xs ++ zs) := by
  show extT xs [.ref n] h Q = onLst h[n]? _
  cases e : h[n]? with
  | none => simp [extT, onLst, e]
  | some c => cases c <;> simp [extT, onLst, e]
theorem revT_q {Q : D → List D → Prop} : revT xs [] h Q = Q .non xs.reverse := id rfl
def onD (o : Option D) (q : D → Prop) (_ : Tag q := ⟨⟩) : Prop := match o with
  | some j => q j
  | none => False
theorem onD_q {q : D → Prop} : onD (some d) q = q d := id rfl
theorem popT_q {Q : D → List D → Prop} : popT xs [] h Q = onD xs[xs.length - 1]? fun y => Q y xs.dropLast := id rfl
theorem popAtT_q {Q : D → List D → Prop} : popAtT xs [.int i] h Q = ((-(2 ^ 63) ≤ i ∧ i < 2 ^ 63) ∧ onN (seqIndex? i xs.length) fun k => onD xs[k]? fun y => Q y (xs.eraseIdx k)) := id rfl
theorem wipe3_nil : wipe3 ρ [] = ρ := id rfl
theorem wipe3_cons {vs : List Nat} : wipe3 ρ (k :: vs) = (wipe3 ρ vs).set k none := id rfl
theorem start3_q : start3 k xs = xs.map some ++ List.replicate (k - xs.length) none := id rfl
theorem xRg1_q {t : E3} {Q : List D → Sto → Prop} : xRg1 t ρ h Q = t ρ h fun d h1 => onI d fun n => xRg 0 n h1 Q := id rfl
theorem xRg2_q {t u : E3} {Q : List D → Sto → Prop} : xRg2 t u ρ h Q = t ρ h fun d h1 => u ρ h1 fun e h2 => onI d fun i => onI e fun j => xRg i j h2 Q := by
  show (t ρ h fun d h1 => u ρ h1 fun e h2 => _) = _
  congr 1; funext d h1; congr 1; funext e h2
  cases d <;> first | rfl | (cases e <;> rfl)
theorem xRg_q {Q : List D → Sto → Prop} : xRg i j h Q = ((-(2 ^ 62) ≤ i ∧ i < 2 ^ 62 ∧ -(2 ^ 62) ≤ j ∧ j < 2 ^ 62 ∧ (j - i).toNat ≤ 2 ^ 24) ∧ Q ((List.range (j - i).toNat).map fun (k : Nat) => D.int (i + k)) h) := id rfl
end
/-! ### values -/
section
variable {h : Sto} {Q : DK} {i j : Int} {a b : Bool} {x y : Str} {xs ys : List D} {n m : Nat} {d e : D} {ρ : S3}
theorem addR_ii_q : addR (.int i) (.int j) h Q = Q (.int (i + j)) h := id rfl
theorem addR_ss_q : addR (.str x) (.str y) h Q = (x.length + y.length ≤ 16777216 ∧ Q (.str (x ++ y)) h) := id rfl
theorem addR_tt_q : addR (.tup xs) (.tup ys) h Q = (xs ≠ [] ∧ xs.length + ys.length ≤ 16777216 ∧ Q (.tup (xs ++ ys)) h) := id rfl
theorem subR_ii_q : subR (.int i) (.int j) h Q = Q (.int (i - j)) h := id rfl
theorem mulR_ii_q : mulR (.int i) (.int j) h Q = (mulOk i j ∧ Q (.int (i * j)) h) := id rfl
theorem mulR_ri_q : mulR (.ref n) (.int j) h Q = onC h[n]? fun xs => (-(2 ^ 63) ≤ j ∧ j < 2 ^ 63 ∧ xs.length * j.toNat ≤ 16777216) ∧ Q (.ref h.length) (h ++ [.lst (List.replicate j.toNat xs).flatten]) := id rfl
theorem divR_ii_q : divR (.int i) (.int j) h Q = (divOk j ∧ Q (.int (i / j)) h) := id rfl
theorem modR_ii_q : modR (.int i) (.int j) h Q = (0 < j ∧ Q (.int (i % j)) h) := id rfl
theorem powR_ii_q : powR (.int i) (.int j) h Q = ((0 ≤ j ∧ j ≤ 1000000 ∧ i.natAbs < 2 ^ 64) ∧ Q (.int (i ^ j.toNat)) h) := id rfl
theorem ltR_ii_q : ltR (.int i) (.int j) h Q = Q (.bl (decide (i < j))) h := id rfl
theorem leR_ii_q : leR (.int i) (.int j) h Q = Q (.bl (decide (i ≤ j))) h := id rfl
theorem gtR_ii_q : gtR (.int i) (.int j) h Q = Q (.bl (decide (j < i))) h := id rfl
theorem geR_ii_q : geR (.int i) (.int j) h Q = Q (.bl (decide (j ≤ i))) h := id rfl
theorem negR_i_q : negR (.int i) h Q = Q (.int (-i)) h := id rfl
theorem eqR_ii_q : eqR (.int i) (.int j) h Q = Q (.bl (decide (i = j))) h := id rfl
theorem neR_ii_q : neR (.int i) (.int j) h Q = Q (.bl (!decide (i = j))) h := id rfl
theorem eqR_bb_q : eqR (.bl a) (.bl b) h Q = Q (.bl (a == b)) h := id rfl
theorem neR_bb_q : neR (.bl a) (.bl b) h Q = Q (.bl (!(a == b))) h := id rfl
theorem isR_n_q : isR d .non h Q = Q (.bl d.isN) h := id rfl
theorem isnR_n_q : isnR d .non h Q = Q (.bl (!d.isN)) h := id rfl
theorem isR_bb_q : isR (.bl a) (.bl b) h Q = Q (.bl (decide (a = b))) h := id rfl
theorem isnR_bb_q : isnR (.bl a) (.bl b) h Q = Q (.bl (!decide (a = b))) h := id rfl
theorem isN_non_q : D.isN .non = true := id rfl
theorem isN_int_q : D.isN (.int i) = false := id rfl
theorem isN_tup_q : D.isN (.tup xs) = false := id rfl
theorem isN_ref_q : D.isN (.ref n) = false := id rfl
theorem isN_bl_q : D.isN (.bl a) = false := id rfl
theorem isN_str_q : D.isN (.str x) = false := id rfl
theorem itemsOf_t_q : itemsOf (.tup xs) h = some xs := id rfl
theorem itemsOf_f_q : itemsOf (.fl xs) h = some xs := id rfl
theorem listOf_f_q : listOf (.fl xs) h = some xs := id rfl
theorem ixR_ti_q : ixR (.tup xs) (.int i) h Q = atT xs i fun d => Q d h := id rfl
theorem ixR_fi_q : ixR (.fl xs) (.int i) h Q = atT xs i fun d => Q d h := id rfl
theorem ixR_si_q : ixR (.str x) (.int i) h Q = (x.length ≤ 16777216 ∧ (match atI x.cps.toList i with | some c => Q (.str ⟨#[c]⟩) h | none => False)) := id rfl
theorem slR_t_q {lo hi : Option Int} : slR (.tup xs) lo hi h Q = (¬ (HT.sIx xs.length 0 lo = 0 ∧ HT.sIx xs.length xs.length hi = xs.length) ∧ Q (.tup (cutD xs lo hi)) h) := id rfl
theorem slR_f_q {lo hi : Option Int} : slR (.fl xs) lo hi h Q = Q (.ref h.length) (h ++ [.lst (cutD xs lo hi)]) := id rfl
theorem slR_s_q {lo hi : Option Int} : slR (.str x) lo hi h Q = (x.length ≤ 16777216 ∧ Q (.str (cutS x lo hi)) h) := id rfl
theorem lenR_s_q : lenR [.str x] h Q = (x.length ≤ 16777216 ∧ Q (.int x.length) h) := id rfl
theorem lenR_t_q : lenR [.tup xs] h Q = Q (.int xs.length) h := id rfl
theorem lenR_f_q : lenR [.fl xs] h Q = Q (.int xs.length) h := id rfl
theorem minR_ii_q : minR [.int i, .int j] h Q = Q (.int (if j < i then j else i)) h := id rfl
theorem maxR_ii_q : maxR [.int i, .int j] h Q = Q (.int (if j > i then j else i)) h := id rfl
theorem absR_i_q : absR [.int i] h Q = Q (.int (if i < 0 then -i else i)) h := id rfl
theorem intR_i_q : intR [.int i] h Q = Q (.int i) h := id rfl
theorem intR_b_q : intR [.bl a] h Q = Q (.int (if a then 1 else 0)) h := id rfl
theorem tyN_non_q : tyN .non h = some "NoneType" := id rfl
theorem tyN_bl_q : tyN (.bl a) h = some "bool" := id rfl
theorem tyN_int_q : tyN (.int i) h = some "int" := id rfl
theorem tyN_str_q : tyN (.str x) h = some "str" := id rfl
theorem tyN_tup_q : tyN (.tup xs) h = some "tuple" := id rfl
theorem tyN_fl_q : tyN (.fl xs) h = some "list" := id rfl
theorem onL_f_q {r : N3} : onL r [.fl xs] h Q = r xs h Q := id rfl
theorem tupR_t_q : tupR [.tup xs] h Q = Q (.tup xs) h := id rfl
theorem tupR_f_q : tupR [.fl xs] h Q = Q (.tup xs) h := id rfl
theorem lstM_t_q {Q : List D → Sto → Prop} : lstM [.tup xs] h Q = Q xs h := id rfl
theorem lstM_f_q {Q : List D → Sto → Prop} : lstM [.fl xs] h Q = Q xs h := id rfl
theorem onLM_f_q {r : M3} {Q : List D → Sto → Prop} : onLM r [.fl xs] h Q = r xs h Q := id rfl
theorem seqOf_f_q {Q : List D → (Sto → Prop) → Prop} : seqOf (.fl xs) h Q = Q xs fun _ => True := id rfl
theorem seqOf_r_q {Q : List D → (Sto → Prop) → Prop} : seqOf (.ref n) h Q = onC h[n]? fun xs => Q xs fun h' => h'[n]? = some (.lst xs) := id rfl
theorem addR_rq : addR (.ref n) (.ref m) h Q = onC h[n]? fun xs => onC h[m]? fun ys => xs.length + ys.length ≤ 16777216 ∧ Q (.ref h.length) (h ++ [.lst (xs ++ ys)]) := id addR_rr
theorem ixR_rq : ixR (.ref n) (.int i) h Q = onC h[n]? fun xs => atT xs i fun d => Q d h := id ixR_ri
theorem slR_rq {lo hi : Option Int} : slR (.ref n) lo hi h Q = onC h[n]? fun xs => Q (.ref h.length) (h ++ [.lst (cutD xs lo hi)]) := id slR_r
theorem lenR_rq : lenR [.ref n] h Q = onC h[n]? fun xs => Q (.int xs.length) h := id lenR_r
theorem onL_rq {r : N3} : onL r [.ref n] h Q = onC h[n]? fun xs => r xs h Q := id onL_r
theorem tupR_rq : tupR [.ref n] h Q = onC h[n]? fun xs => Q (.tup xs) h := id tupR_r
theorem lstM_rq {Q : List D → Sto → Prop} : lstM [.ref n] h Q = onC h[n]? fun xs => Q xs h := id lstM_r
theorem onLM_rq {r : M3} {Q : List D → Sto → Prop} : onLM r [.ref n] h Q = onC h[n]? fun xs => r xs h Q := id onLM_r
theorem onLst'_rq {k : List D → Prop} : onLst' (.ref n) h k = onC h[n]? k := id onLst'_r
theorem eqR_tq : eqR (.tup xs) e h Q = eqT (toP h 9 (.tup xs)) (toP h 9 e) fun b => Q (.bl b) h := id eqR_te
theorem neR_tq : neR (.tup xs) e h Q = eqT (toP h 9 (.tup xs)) (toP h 9 e) fun b => Q (.bl (!b)) h := id neR_te
theorem eqR_rq : eqR (.ref n) e h Q = eqT (toP h 9 (.ref n)) (toP h 9 e) fun b => Q (.bl b) h := id eqR_re
theorem neR_rq : neR (.ref n) e h Q = eqT (toP h 9 (.ref n)) (toP h 9 e) fun b => Q (.bl (!b)) h := id neR_re
theorem eqR_sq : eqR (.str x) e h Q = eqT (toP h 9 (.str x)) (toP h 9 e) fun b => Q (.bl b) h := id eqR_se
theorem neR_sq : neR (.str x) e h Q = eqT (toP h 9 (.str x)) (toP h 9 e) fun b => Q (.bl (!b)) h := id neR_se
theorem eqR_nq : eqR .non e h Q = eqT (toP h 9 .non) (toP h 9 e) fun b => Q (.bl b) h := id eqR_ne
theorem neR_nq : neR .non e h Q = eqT (toP h 9 .non) (toP h 9 e) fun b => Q (.bl (!b)) h := id neR_ne
theorem isi_1 : isiR [d, .ty "int"] h Q = isU (tyN d h) "int" fun b => Q (.bl b) h := id isiR_int
theorem isi_2 : isiR [d, .ty "bool"] h Q = isU (tyN d h) "bool" fun b => Q (.bl b) h := id isiR_bool
theorem isi_3 : isiR [d, .ty "str"] h Q = isU (tyN d h) "str" fun b => Q (.bl b) h := id isiR_str
theorem isi_4 : isiR [d, .ty "tuple"] h Q = isU (tyN d h) "tuple" fun b => Q (.bl b) h := id isiR_tuple
theorem isi_5 : isiR [d, .ty "list"] h Q = isU (tyN d h) "list" fun b => Q (.bl b) h := id isiR_list
theorem isi_6 : isiR [d, .ty "dict"] h Q = isU (tyN d h) "dict" fun b => Q (.bl b) h := id isiR_dict
end
/-! ### loops by invariants, again -/
theorem forQ {g : G3} {b : C3} {st : Sto → Prop} {E : Ends3} (Inv : List D → S3 → Sto → Prop) {xs : List D} {ρ : S3} {h : Sto} (hi : Inv xs ρ h) (hs : ∀ xs ρ h, Inv xs ρ h → st h) (h0 : ∀ ρ h, Inv [] ρ h → E.nx ρ h)
    (h1 : ∀ x r ρ h (F : S3 → Sto → Prop), Inv (x :: r) ρ h → (∀ ρ' h', Inv r ρ' h' → F ρ' h') → g x ρ h fun ρ' h' => b (loopE F E) ρ' h') : forI g b st E xs ρ h := forI_ind Inv hi hs h0 h1
theorem lcQ {g : G3} {tt : B3} {te : E3} {st : Sto → Prop} {ρ : S3} {Q : List D → Sto → Prop} (Inv : List D → List D → Sto → Prop) {xs acc : List D} {h : Sto} (hi : Inv xs acc h) (hs : ∀ xs acc h, Inv xs acc h → st h) (h0 : ∀ acc h, Inv [] acc h → Q acc h)
    (h1 : ∀ x r acc h (F : List D → Sto → Prop), Inv (x :: r) acc h → (∀ acc' h', Inv r acc' h' → F acc' h') → g x ρ h fun ρ2 h2 => tt ρ2 h2 fun b h3 => ifC b (te ρ2 h3 fun y h4 => F (acc ++ [y]) h4) (F acc h3)) : lcT g tt te st ρ xs acc h Q := lcI_ind Inv hi hs h0 h1
theorem whQ {c : B3} {b : C3} {E : Ends3} (Inv : Nat → S3 → Sto → Prop) {n : Nat} {ρ : S3} {h : Sto} (hi : Inv n ρ h)
    (h1 : ∀ n ρ h (F : S3 → Sto → Prop), Inv n ρ h → (∀ k ρ' h', k < n → Inv k ρ' h' → F ρ' h') → c ρ h fun k h1 => ifC k (b (loopE F E) ρ h1) (E.nx ρ h1))
    (mc : MonoB c) (mb : MonoC b) : cWhile c b E ρ h := wh_ind Inv hi h1 mc mb
/-- a comprehension without a test, each item one value, the store as it is -/
theorem lcMap {α : Type} {g : G3} {te : E3} {st : Sto → Prop} {ρ : S3} {Q : List D → Sto → Prop} {f : α → D} {r : α → D} {h : Sto} {xs : List α} (hs : st h) (q : Q (xs.map r) h) (h1 : ∀ x ∈ xs, ∀ Q : DK, Q (r x) h → g (f x) ρ h fun ρ2 h2 => te ρ2 h2 Q) : lcT g bYes te st ρ (xs.map f) [] h Q := by
  refine lcQ (fun ys acc h' => ∃ l s : List α, xs = l ++ s ∧ ys = s.map f ∧ acc = l.map r ∧ h' = h) ⟨[], xs, rfl, rfl, rfl, rfl⟩ ?_ ?_ ?_
  · rintro ys acc h' ⟨l, s, _, _, _, rfl⟩
    exact hs
  · rintro acc h' ⟨l, s, e, e2, rfl, rfl⟩
    have : s = [] := by simpa using e2.symm
    subst this
    rw [List.append_nil] at e
    subst e
    exact q
  · rintro y ys acc h' F ⟨l, s, e, e2, rfl, rfl⟩ hF
    cases s with
    | nil => cases e2
    | cons x s =>
      rw [List.map_cons, List.cons.injEq] at e2
      obtain ⟨rfl, rfl⟩ := e2
      have := h1 x (by rw [e]; simp) (fun y h4 => F (l.map r ++ [y]) h4) (hF _ _ ⟨l ++ [x], s, by simp [e], rfl, by simp, rfl⟩)
      simpa only [bYes_q, ifC_true] using this
/-! ### calls -/
theorem call_D {α : Type} {args : α → List D} {pre : α → Sto → Prop} {val : α → Sto → D} {sto : α → Sto → Sto} {h : Sto} {Q : DK} (x : α) {ds : List D} (e : ds = args x) (hp : pre x h) (q : Q (val x h) (sto x h)) : callS (spD args pre val sto) ds h Q := ⟨x, e, hp, q⟩
theorem call_R {α : Type} {args : α → List D} {pre : α → Sto → Prop} {res : α → Sto → D → Sto → Prop} {h : Sto} {Q : DK} (x : α) {ds : List D} (e : ds = args x) (hp : pre x h) (q : ∀ d h', res x h d h' → Q d h') : callS (spR args pre res) ds h Q := ⟨x, e, hp, q⟩
theorem call_W {α : Type} {args : α → List D} {pre : α → Sto → Prop} {res : α → Sto → D → Sto → Prop} {h g : Sto} {a : Nat} {c s : Int} {ds : List D} {Q : DK} (x : α) (ha : a < h.length) (hd : DrawOk c s) (e : ds = .ref a :: args x) (hp : pre x (W h a c s g))
    (q : ∀ c' s' k d, DrawOk c' s' → res x (W h a c s g) d k → Q d (W h a c' s' (g ++ k))) : callS (spW args pre res) ds (W h a c s g) Q := spW_at x ha hd e hp q
theorem take_q {n : Int} {h g : Sto} {a : Nat} {c s : Int} {Q : DK} (ha : a < h.length) (hd : DrawOk c s) (h0 : 0 < n) (h1 : n < 2 ^ 2000)
    (q : ∀ c s r : Int, DrawOk c s → 0 ≤ r → r < n → Q (.int r) (W h a c s g)) : callS sp_take [.ref a, .int n] (W h a c s g) Q := take_W ha hd h0 h1 q
end F3
set_option maxHeartbeats 400000
/-! FR: the laws' outer loop, the purse. -/
namespace F3
open PySem PySem.Spec PyProof.Rows L2
theorem purse_q {ns : List Int} {j : Int} {h : Sto} {Q : DK} (h0 : 0 ≤ j) (h1 : j < 1000) (q : ∀ (c s : Int) (H : Sto), DrawOk c s → h.length < H.length → (∀ (n : Nat) (x : Cell), h[n]? = some x → H[n]? = some x) → Q (.ref h.length) (W H h.length c s [])) : callS sp_purse [.fl (ns.map .int), .int j] h Q :=
  ⟨(ns, j), rfl, ⟨h0, h1⟩, by
    rintro _ _ ⟨c, s, hd, rfl, rfl⟩
    have e : (h ++ [draw c s])[h.length]? = some (draw c s) := by simp
    have := q c s (h ++ [draw c s]) hd (by simp) fun n x e => by rw [List.getElem?_append_left (lt_of_get e)]; exact e
    rw [← W_mk e] at this
    exact this⟩
theorem law_for {b : C3} {E : Ends3} {xs : List D} {ρ : S3} {h : Sto} (Inv : S3 → Prop) (hi : Inv ρ) (hx : ∀ x ∈ xs, ∃ j : Int, x = .int j ∧ 0 ≤ j ∧ j < 1000) (h0 : ∀ ρ h, Inv ρ → E.nx ρ h)
    (h1 : ∀ (j : Int) (ρ : S3) (h : Sto) (F : S3 → Sto → Prop), 0 ≤ j → j < 1000 → Inv ρ → (∀ ρ' h', Inv ρ' → F ρ' h') → b (loopE F E) (ρ.set 1 (some (.int j))) h) : forI (gN 1) b (fun _ => True) E xs ρ h := by
  refine forQ (fun ys ρ _ => Inv ρ ∧ ∀ x ∈ ys, ∃ j : Int, x = .int j ∧ 0 ≤ j ∧ j < 1000) ⟨hi, hx⟩ (fun _ _ _ _ => trivial) (fun ρ h i => h0 ρ h i.1) ?_
  rintro x r ρ h F ⟨i, hx⟩ hF
  obtain ⟨j, rfl, j0, j1⟩ := hx x List.mem_cons_self
  rw [gN_q]
  exact h1 j ρ h F j0 j1 i fun ρ' h' i' => hF ρ' h' ⟨i', fun y hy => hx y (List.mem_cons_of_mem _ hy)⟩
theorem whole_q {d : D} {h : Sto} {Q : DK} (hk : Kn h d) (q : Q (.bl (isW d)) h) : callS sp_whole [d] h Q := ⟨d, rfl, hk, q⟩
/-- all([whole(n) for n in ns]) -/
theorem bls_true {α : Type} : ∀ ns : List α, blsOf (ns.map fun _ => D.bl true) = some (ns.map fun _ => true)
  | [] => rfl
  | _ :: r => by
    have := bls_true r
    simp only [List.map_cons, blsOf, this, Option.map_some]
theorem all_true {α : Type} (ns : List α) : (ns.map fun _ => true).all id = true := by simp
theorem get_up {h g : Sto} {n : Nat} {c : Cell} (e : h[n]? = some c) : (h ++ g)[n]? = some c := by rw [List.getElem?_append_left (lt_of_get e)]; exact e
theorem get_new {h : Sto} {c : Cell} : (h ++ [c])[h.length]? = some c := by simp
theorem get_new2 {h : Sto} {c c' : Cell} : ((h ++ [c]) ++ [c'])[h.length]? = some c := by simp
theorem set_new {h g : Sto} {c c' : Cell} : (h ++ [c] ++ g).set h.length c' = h ++ [c'] ++ g := by rw [List.append_assoc, List.append_assoc]; exact set_app0
/-- a for over a list of known things, by what is done -/
theorem forL {α : Type} {f : α → D} {g : G3} {b : C3} {st : Sto → Prop} {E : Ends3} {xs : List α} {ρ : S3} {h : Sto} (Inv : List α → S3 → Sto → Prop) (hi : Inv [] ρ h) (hs : ∀ l ρ h, Inv l ρ h → st h) (h0 : ∀ ρ h, Inv xs ρ h → E.nx ρ h)
    (h1 : ∀ l x r ρ h (F : S3 → Sto → Prop), xs = l ++ x :: r → Inv l ρ h → (∀ ρ' h', Inv (l ++ [x]) ρ' h' → F ρ' h') → g (f x) ρ h fun ρ' h' => b (loopE F E) ρ' h') : forI g b st E (xs.map f) ρ h := by
  refine forQ (fun ys ρ h => ∃ l r, xs = l ++ r ∧ ys = r.map f ∧ Inv l ρ h) ⟨[], xs, rfl, rfl, hi⟩ (fun _ ρ h ⟨l, _, _, _, i⟩ => hs l ρ h i) ?_ ?_
  · rintro ρ h ⟨l, r, e, e2, i⟩
    have : r = [] := by simpa using e2.symm
    subst this
    rw [List.append_nil] at e
    subst e
    exact h0 ρ h i
  · rintro y ys ρ h F ⟨l, r, e, e2, i⟩ hF
    cases r with
    | nil => cases e2
    | cons x r =>
      rw [List.map_cons, List.cons.injEq] at e2
      obtain ⟨rfl, rfl⟩ := e2
      exact h1 l x r ρ h F e i fun ρ' h' i' => hF ρ' h' ⟨l ++ [x], r, by simp [e], rfl, i'⟩
theorem lcL {α : Type} {f : α → D} {g : G3} {tt : B3} {te : E3} {st : Sto → Prop} {ρ : S3} {Q : List D → Sto → Prop} {xs : List α} {h : Sto} (Inv : List α → List D → Sto → Prop) (hi : Inv [] [] h) (hs : ∀ l acc h, Inv l acc h → st h) (h0 : ∀ acc h, Inv xs acc h → Q acc h)
    (h1 : ∀ l x r acc h (F : List D → Sto → Prop), xs = l ++ x :: r → Inv l acc h → (∀ acc' h', Inv (l ++ [x]) acc' h' → F acc' h') → g (f x) ρ h fun ρ2 h2 => tt ρ2 h2 fun b h3 => ifC b (te ρ2 h3 fun y h4 => F (acc ++ [y]) h4) (F acc h3)) : lcT g tt te st ρ (xs.map f) [] h Q := by
  refine lcQ (fun ys acc h => ∃ l r, xs = l ++ r ∧ ys = r.map f ∧ Inv l acc h) ⟨[], xs, rfl, rfl, hi⟩ (fun _ acc h ⟨l, _, _, _, i⟩ => hs l acc h i) ?_ ?_
  · rintro acc h ⟨l, r, e, e2, i⟩
    have : r = [] := by simpa using e2.symm
    subst this
    rw [List.append_nil] at e
    subst e
    exact h0 acc h i
  · rintro y ys acc h F ⟨l, r, e, e2, i⟩ hF
    cases r with
    | nil => cases e2
    | cons x r =>
      rw [List.map_cons, List.cons.injEq] at e2
      obtain ⟨rfl, rfl⟩ := e2
      exact h1 l x r acc h F e i fun acc' h' i' => hF acc' h' ⟨l ++ [x], r, by simp [e], rfl, i'⟩
theorem W_keep {h g : Sto} {a n : Nat} {c s : Int} {x : Cell} (e : h[n]? = some x) (hne : n ≠ a) : (W h a c s g)[n]? = some x := by
  unfold W
  rw [List.getElem?_append_left (by simpa using lt_of_get e), List.getElem?_set_ne (fun z => hne z.symm)]
  exact e
theorem ne_draw {h : Sto} {a n : Nat} {c s : Int} {w : List Pc} (e : h[n]? = some (.lst (w.map pcD))) (ed : h[a]? = some (draw c s)) : n ≠ a := by
  rintro rfl
  rw [ed] at e
  simp only [draw, Option.some.injEq, Cell.lst.injEq] at e
  cases w with
  | nil => simp at e
  | cons p r =>
    simp only [List.map_cons, List.cons.injEq] at e
    have := e.1
    unfold pcD at this
    cases this
theorem W_isdraw {h : Sto} {a : Nat} {c s : Int} (e : h = W h a c s []) (ha : a < h.length) : h[a]? = some (draw c s) := by
  rw [e]; exact W_getA ha
theorem atT_lastI {ns : List Int} {x : Int} {k : D → Prop} (e : ns.getLast? = some x) : atT (ns.map .int) (-1) k = k (.int x) := by
  rcases snoc_cases ns with rfl | ⟨u, q, rfl⟩
  · cases e
  · have : q = x := by simpa using e
    subst this
    rw [List.map_append, List.map_singleton, atT_last]
/-- as spW, where what is wanted may tell of the purse's number -/
def spV {α : Type} (args : α → List D) (pre : Nat → α → Sto → Prop) (res : α → Sto → D → Sto → Prop) : Sp3 :=
  spR (fun (a : Nat × Int × Int × α) => .ref a.1 :: args a.2.2.2) (fun a h => h[a.1]? = some (draw a.2.1 a.2.2.1) ∧ DrawOk a.2.1 a.2.2.1 ∧ pre a.1 a.2.2.2 h) (fun a h d h' => ∃ c s g, DrawOk c s ∧ res a.2.2.2 h d g ∧ h' = W h a.1 c s g)
theorem mono_spV {α : Type} {args : α → List D} {pre : Nat → α → Sto → Prop} {res : α → Sto → D → Sto → Prop} : MonoS (spV args pre res) := mono_spR
theorem len_spV {α : Type} {args : α → List D} {pre : Nat → α → Sto → Prop} {res : α → Sto → D → Sto → Prop} {n : Nat} (hl : ∀ a, (args a).length + 1 = n) : ∀ ds h Q E, spV args pre res ds h Q E → ds.length = n := len_spR fun a => by
  rw [List.length_cons]; exact hl _
theorem spV_in {α : Type} {args : α → List D} {pre : Nat → α → Sto → Prop} {res : α → Sto → D → Sto → Prop} {ds : List D} {h : Sto} {Q : DK} {E : X3} (w : spV args pre res ds h Q E) :
    ∃ a c s x, ds = .ref a :: args x ∧ a < h.length ∧ DrawOk c s ∧ pre a x h ∧ h = W h a c s [] ∧ ∀ c s g d, DrawOk c s → res x h d g → Q d (W h a c s g) := by
  obtain ⟨⟨a, c, s, x⟩, rfl, ⟨h1, h2, h3⟩, q⟩ := w
  exact ⟨a, c, s, x, rfl, lt_of_get h1, h2, h3, W_mk h1, fun c s g d hd hr => q _ _ ⟨c, s, g, hd, hr, rfl⟩⟩
theorem call_V {α : Type} {args : α → List D} {pre : Nat → α → Sto → Prop} {res : α → Sto → D → Sto → Prop} {h g : Sto} {a : Nat} {c s : Int} {ds : List D} {Q : DK} (x : α) (ha : a < h.length) (hd : DrawOk c s) (e : ds = .ref a :: args x) (hp : pre a x (W h a c s g))
    (q : ∀ c' s' k d, DrawOk c' s' → res x (W h a c s g) d k → Q d (W h a c' s' (g ++ k))) : callS (spV args pre res) ds (W h a c s g) Q := by
  refine ⟨(a, c, s, x), e, ⟨W_getA ha, hd, hp⟩, ?_⟩
  rintro d h' ⟨c', s', k, hd', hr, rfl⟩
  have : W (W h a c s g) a c' s' k = W h a c' s' (g ++ k) := by
    show (W h a c s g).set a (draw c' s') ++ k = _
    rw [W_setA ha, W_app]
  show Q d (W (W h a c s g) a c' s' k)
  rw [this]
  exact q c' s' k d hd' hr
/-! ### classes and data of cells -/
def tyC (o : Option Cell) : Option String := match o with
  | some (.lst _) => some "list"
  | some (.dK _) => some "dict"
  | some (.dT _) => some "dict"
  | _ => none
theorem tyC_lst {xs : List D} : tyC (some (.lst xs)) = some "list" := id rfl
theorem tyN_ref {h : Sto} {n : Nat} {xs : List D} (e : h[n]? = some (.lst xs)) : tyN (.ref n) h = some "list" := tyN_r e
theorem toP_ref {h : Sto} {n k : Nat} {xs : List D} (e : h[n]? = some (.lst xs)) : toP h (k + 1) (.ref n) = (xs.mapM (toP h k)).map .list := by simp only [toP, e]
theorem toP_pcs8 {h : Sto} {w : List Pc} : (w.map pcD).mapM (toP h 8) = some (w.map pcP) := toP_pcsX (k := 5)
theorem toP_int8 {h : Sto} {ns : List Int} : (ns.map D.int).mapM (toP h 8) = some (ns.map .int) := toP_ints (k := 7) ns
end F3
set_option maxHeartbeats 400000
/-! FS: list(reversed(xs)), xs[::-1]. -/
namespace F3
open PySem PySem.Spec PyProof.Rows L2 RT
section
variable {prog : Program} {w : World} {A : Around} {E : Value → Shared → Prop} {s : Shared}
theorem extend_rev {R : Result → Shared → Prop} {it l : Addr} {items : Array Value} (hh : A.handled = none) (hit : s.heap.IsRevIter it l ((items.size : Int) - 1)) (hl : s.heap.IsList l items) (hne : l ≠ it) (hn : items.size ≤ sizeLine) (S : Addr) (hSi : S ≠ it) (hSl : S ≠ l) (res : Value) (c₀ : Nat) (hS : s.heap.get? S = some { cls := .type "list", data := .seq #[] c₀ })
    (hR : ∀ h' tk acc' c', (∀ b o, b ≠ S → b ≠ it → s.heap.get? b = some o → h'.get? b = some o) → h'.get? S = some { cls := .type "list", dict := none, data := .seq acc' c', slots := #[] } →
      ItemsOf (fun i v => items[items.size - 1 - i]? = some v) acc' items.size → R (.ok (.ret res)) { s with heap := h', toks := tk }) :
    wpAny (model prog w) A.in1 (Builtin.List.listExtendWith (.ref S) (.ref it) res)
      (fun fin s' => match fin with | .done f => R (.ok f) s' | .again c' => c'.quiet = true ∧ codeAny (model prog w) A c' R s') (fun e s' => R (.error e) s') s := by
  have W := (Walks.listRev (prog := prog) (w := w) (A := A.in1) hh it l hne items).toS
  have hSf : S ∉ [it, l] := by simp only [List.mem_cons, List.not_mem_nil, or_false, not_or]; exact ⟨hSi, hSl⟩
  have hT : s.TypeIs (.ref it) "list_reverseiterator" := hit.typeIs
  have h1 : Builtin.List.listSameRef (.ref S) (.ref it) = false := by simp [Builtin.List.listSameRef, hSi]
  unfold Builtin.List.listExtendWith
  refine wpAny_bind (wpAny_typeOf hT ?_)
  rw [if_neg (by rw [h1]; decide)]
  refine wpAny_bind (wpAny_pyIter_revIter hit ?_)
  refine wpAny_bind (wpAny_holding ?_)
  unfold Builtin.List.listLengthHint
  refine wpAny_bind (wpAny_specialOf hT nolen_lri ?_)
  show wpAny _ A.in1 (specialOf (Value.ref it) (Str.ofString "__length_hint__") >>= _) _ _ _
  refine wpAny_bind (wpAny_specialOf hT hint_lri ?_)
  generalize hid : ("list_reverseiterator.__length_hint__" : String) = id0
  wp_delta
  rw [show splitId id0 = some ("list_reverseiterator", "__length_hint__") from by subst hid; decide +kernel]
  subst hid
  refine wpAny_bind (wpAny_isInstance (b := true) hT (by rw [isSubtype_type]; kernel_rfl) ?_)
  refine wpAny_pure ?_
  rw [if_neg (by decide)]
  have e0 : ((items.size : Nat) : Int) - 1 - ((0 : Nat) : Int) = (items.size : Int) - 1 := by omega
  refine wpAny_pure ⟨plainId_quiet F.plain_extend_loop _, codeAny_extend_loopS W hn _ hSf _ items.size 0 _ _ _ rfl (Nat.zero_le _) ⟨Nat.zero_le _, by rw [e0]; exact hit, hl⟩ hS (ItemsOf.nil _) fun s' acc' c' hm hS' hacc => ?_⟩
  rw [Moved.eq_with hm]
  refine hR s'.heap s'.toks acc' c' (fun b o hb hb2 e => hm.heap b o (fun hmem => ?_) e) hS' hacc
  rcases List.mem_cons.mp hmem with e' | hmem
  · exact hb e'
  · exact hb2 (List.mem_singleton.mp hmem)
theorem call_list_rev {it l : Addr} {items : Array Value} {Q : Value → Shared → Prop} (hh : A.handled = none) (hit : s.heap.IsRevIter it l ((items.size : Int) - 1)) (hl : s.heap.IsList l items) (hne : l ≠ it) (hn : items.size ≤ sizeLine)
    (hQ : ∀ h' tk acc' c', (∀ b o, b ≠ it → s.heap.get? b = some o → h'.get? b = some o) → h'.get? s.heap.objs.size = some { cls := .type "list", dict := none, data := .seq acc' c', slots := #[] } → ItemsOf (fun i v => items[items.size - 1 - i]? = some v) acc' items.size → Q (.ref s.heap.objs.size) { s with heap := h', toks := tk }) :
    wpAny (model prog w) A (call (.type "list") [.ref it]) Q E s := by
  obtain ⟨oi, hoi, _⟩ := id hit
  obtain ⟨ol, hol, _⟩ := id hl
  have hSi : s.heap.objs.size ≠ it := Nat.ne_of_gt (Heap.lt_size hoi)
  have hSl : s.heap.objs.size ≠ l := Nat.ne_of_gt (Heap.lt_size hol)
  refine callType_codes (Q₁ := fun obj s₁ => obj = .ref s.heap.objs.size ∧ s₁ = { s with heap := s.heap.push { cls := .type "list", data := .seq #[] } }) F.called_list (F.typeCall_list_1 _) F.entry_list_init
    (code_list_new _ ⟨rfl, rfl⟩) fun obj s₁ h₁ => ?_
  obtain ⟨rfl, rfl⟩ := h₁
  have hS : (s.heap.push { cls := .type "list", data := .seq #[] }).get? s.heap.objs.size = some { cls := .type "list", data := .seq #[] } := Heap.get?_push_size _ rfl
  refine ⟨⟨_, hS, rfl⟩, F.args_list_init_2 _ _, ?_⟩
  show wpAny _ _ (do let old ← Builtin.List.listItems (.ref s.heap.objs.size); Builtin.List.listUpdate (.ref s.heap.objs.size) (fun _ => #[]); letGo old.toList.reverse; Builtin.List.listExtendWith (.ref s.heap.objs.size) (.ref it) .none) _ _ _
  refine wpAny_bind ?_
  unfold Builtin.List.listItems
  refine wpAny_bind (wpAny_seqItems hS rfl (wpAny_pure ?_))
  show wpAny _ _ (updateSeq s.heap.objs.size (fun _ => #[]) >>= fun _ => letGo (#[] : Array Value).toList.reverse >>= fun _ => Builtin.List.listExtendWith (.ref s.heap.objs.size) (.ref it) .none) _ _ _
  refine wpAny_bind (wpAny_updateSeq hS rfl ?_)
  have hS₂ := Heap.get?_update_self (Obj.mapSeq (fun _ => (#[] : Array Value))) hS rfl
  have oth : ∀ b o, b ≠ s.heap.objs.size → s.heap.get? b = some o → ((s.heap.push { cls := .type "list", data := .seq #[] }).update s.heap.objs.size (Obj.mapSeq (fun _ => (#[] : Array Value)))).get? b = some o :=
    fun b o hb e => (Heap.get?_update_other _ _ (Ne.symm hb)).trans (Heap.get?_push_of_some _ e)
  refine wpAny_bind (wpAny_letGo ?_)
  refine extend_rev (A := A.in1) hh (hit.at fun o e => oth _ o (Ne.symm hSi) e) ?_ hne hn s.heap.objs.size hSi hSl .none _ hS₂ fun h' tk acc' c' hk hS' hacc => ?_
  · obtain ⟨o, ho, r⟩ := hl
    exact ⟨o, oth _ o (Ne.symm hSl) ho, r⟩
  · exact ⟨rfl, hQ h' tk acc' c' (fun b o hb e => hk b o (Nat.ne_of_lt (Heap.lt_size e)) hb (oth b o (Nat.ne_of_lt (Heap.lt_size e)) e)) hS' hacc⟩
end
section
variable {X : Cx}
def tLstRev (K : PySem.W.Frag) (te : TE) : TE := fun σ H Q => te σ H fun x H1 => ∃ a xs, x = .ref a ∧ SqL K H1 a xs ∧ ∀ p, H1 p = none → Q (.ref p) (upd H1 p (.lst xs.reverse))
theorem pe_listRev {e : Expr} {te : TE} {p p2 pos pos2 : Pos} (hc : X.calm = true) (hg : Gl X "list") (hm : X.mg "list" = none) (hg2 : Gl X "reversed") (hm2 : X.mg "reversed" = none) (he : PE X e te)
    (hs : starEach [e] X.env = (false, eval e X.env) :: starEach [] X.env := by rfl)
    (hs2 : starEach [.Call (.Name "reversed" p2) [e] [] pos2] X.env = (false, eval (.Call (.Name "reversed" p2) [e] [] pos2) X.env) :: starEach [] X.env := by rfl) :
    PE X (.Call (.Name "list" p) [.Call (.Name "reversed" p2) [e] [] pos2] [] pos) (tLstRev X.K te) := by
  refine ⟨fun pins s σ H Q I h => ?_⟩
  refine Call_ (ld_blt I hg hm boot_list (PyProof.Rows.callWith_type1 (args_cons (Call_ (ld_blt I hg2 hm2 PyProof.Rows.boot_reversed (PyProof.Rows.callWith_type1 (args_cons (thn (he.run pins s σ H _ I h) fun u s1 ⟨v, H1, I1, r1, q1⟩ => args_nil ?_) hs) hs rfl))) hs2) hs2 rfl))
  obtain ⟨a, xs, ev, hq, q⟩ := q1
  subst ev
  obtain rfl : u = Value.ref a := r1
  obtain ⟨its, rv, p', hz⟩ := I1.list hq
  refine call_reversed_list p'.isList (args_nil ?_)
  have k0 : ∀ b o, s1.heap.get? b = some o → (s1.heap.push (revObj a ((its.toArray.size : Int) - 1))).get? b = some o := fun b o e => Heap.get?_push_of_some _ e
  have hl := p'.isList
  obtain ⟨ol, hol, _⟩ := id hl
  have hne : a ≠ s1.heap.objs.size := Nat.ne_of_lt (Heap.lt_size hol)
  have hn : its.toArray.size ≤ sizeLine := by rw [List.size_toArray, ← rv.length]; exact hz
  refine call_list_rev (s := { s1 with heap := s1.heap.push (revObj a ((its.toArray.size : Int) - 1)) }) (I1.ok.hd hc) ⟨_, Heap.get?_push_size _ rfl, rfl, rfl⟩ (hl.push _) hne hn fun h' tk acc c' hk hS hi => ?_
  have sz : (s1.heap.push (revObj a ((its.toArray.size : Int) - 1))).objs.size = s1.heap.objs.size + 1 := Heap.size_push ..
  have hS' : h'.get? (s1.heap.objs.size + 1) = some { cls := .type "list", dict := none, data := .seq acc c', slots := #[] } := by rw [← sz]; exact hS
  have hk' : ∀ b o, s1.heap.get? b = some o → h'.get? b = some o := fun b o e => hk b o (Nat.ne_of_lt (Heap.lt_size e)) (Heap.get?_push_of_some _ e)
  have e2 : (Value.ref (s1.heap.push (revObj a ((its.toArray.size : Int) - 1))).objs.size) = Value.ref (s1.heap.objs.size + 1) := by rw [sz]
  show EP X pins σ Q (Value.ref (s1.heap.push (revObj a ((its.toArray.size : Int) - 1))).objs.size) _
  rw [e2]
  refine ⟨.ref (s1.heap.objs.size + 1), upd H1 (s1.heap.objs.size + 1) (.lst xs.reverse), I1.laid (t' := tk) hk' (Nat.le_succ _) (show ObjOk X.prog X.w _ _ _ (.lst xs.reverse) from ⟨by rw [List.length_reverse]; exact hz, acc.toList, c', vals_rev rv hi, ?_⟩), rfl, q _ (I1.hok.fresh (Nat.le_succ _))⟩
  rw [Array.toArray_toList]
  exact hS'
/-- a list the other way about, new -/
def xRev (t : E3) : A3 := fun ρ h Q => t ρ h fun d h1 => onLst' d h1 fun xs => Q xs.reverse h1
theorem MonoA.rev {t : E3} (mt : MonoE t) : MonoA (xRev t) := fun ρ h Q Q' w q => mt _ _ _ _ (fun d h1 q1 => onLst'_mono (fun xs => w _ _) q1) q
theorem rev_core {K : PySem.W.Frag} {t : E3} (mt : MonoE t) {σ : L2.St} {H : Hp} {Q : VK} (q : LX K (xRev t) σ H Q) : LE K t σ H fun x H1 => ∃ a xs, x = .ref a ∧ SqL K H1 a xs ∧ ∀ p, H1 p = none → Q (.ref p) (upd H1 p (.lst xs.reverse)) := by
  obtain ⟨m, h, ρ, R, S, q⟩ := q
  refine LE.bind mt R S q fun m1 H1 v d h1 s1 R1 rd S1 q1 => ?_
  obtain ⟨xs, e, q2⟩ := onLst'_some q1
  obtain ⟨a, vs, rfl, sq, rs⟩ := listOf_lift R1 rd e
  exact ⟨a, vs, rfl, sq, UpX.laid R1 rs.reverse (UpX.step s1 R1 q2)⟩
theorem x3_lrev {e : Expr} {t : E3} {p pos p2 pos2 : Pos} (hc : X.calm = true) (hm : X.mg "list" = none) (hm2 : X.mg "reversed" = none) (ha : PE3 X e t) (hg : Gl X "list" := by rfl) (hg2 : Gl X "reversed" := by rfl)
    (hs : starEach [e] X.env = (false, eval e X.env) :: starEach [] X.env := by rfl)
    (hs2 : starEach [.Call (.Name "reversed" p2) [e] [] pos2] X.env = (false, eval (.Call (.Name "reversed" p2) [e] [] pos2) X.env) :: starEach [] X.env := by rfl) :
    PX3 X (.Call (.Name "list" p) [.Call (.Name "reversed" p2) [e] [] pos2] [] pos) (xRev t) :=
  ⟨PE.weak (pe_listRev hc hg hm hg2 hm2 ha.pe hs hs2) fun σ H Q q => rev_core ha.mono q, MonoA.rev ha.mono⟩
theorem x3_rev1 {e : Expr} {t : E3} {k : Nat} {p1 p2 p3 pos : Pos} (ha : PE3 X e t) : PX3 X (.Subscript e (.Slice none none (some (.UnaryOp .USub (.Constant (.int 1) k p1) p2)) p3) pos) (xRev t) :=
  ⟨PE.weak (pe_revL ha.pe) fun σ H Q q => rev_core ha.mono q, MonoA.rev ha.mono⟩
end
section
variable {h : Sto} {n : Nat} {ρ : S3} {Q : List D → Sto → Prop} {t : E3} {xs : List D} {d : D}
def onL' (d : D) (h : Sto) (q : List D → Prop) (_ : Tag q := ⟨⟩) : Prop := onLst' d h q
theorem xRev_q : xRev t ρ h Q = t ρ h fun d h1 => onL' d h1 fun xs => Q xs.reverse h1 := id rfl
theorem onL'_r {q : List D → Prop} : onL' (.ref n) h q = onC h[n]? q := id onLst'_r
theorem onL'_f {q : List D → Prop} : onL' (.fl xs) h q = q xs := id onLst'_f
end
end F3
set_option maxHeartbeats 400000
/-! FT: a, b, .. = a list. -/
namespace F3
open PySem PySem.Spec PyProof.Rows L2
section
variable {X : Cx}
def gLst3 (n : Nat) (g : Gs3) : G3 := fun d ρ h Q => onLst' d h fun xs => xs.length = n ∧ g xs ρ h Q
theorem g3_lst {es : List Expr} {k : Nat} {g : Gs3} {n : Nat} {pos : Pos} (hc : X.calm = true) (h : PGs3 X es g)
    (hn : (assignEach es X.env).length = n := by rfl) (hst : (assignEach es X.env).findIdx? (·.1) = none := by rfl) : PG3 X (.Tuple es k pos) (gLst3 n g) := by
  refine ⟨PG.weak (pg_unl hc h.pe hn hst) fun v σ H Q ⟨m, st, ρ, d, R, S, rd, q⟩ => ?_, fun d ρ st Q Q' w q => onLst'_mono (fun xs q => ⟨q.1, h.mono _ _ _ _ _ w q.2⟩) q⟩
  obtain ⟨xs, e, hl, q⟩ := onLst'_some q
  obtain ⟨a, vs, rfl, sq, rs⟩ := listOf_lift R rd e
  exact ⟨a, vs, rfl, sq, by rw [← rs.length]; exact hl, m, st, ρ, xs, R, S, rs, q⟩
end
/-- a while, by a number that falls -/
theorem whL {c : B3} {b : C3} {E : Ends3} (Inv : Nat → S3 → Sto → Prop) {n : Nat} {ρ : S3} {h : Sto} (hi : Inv n ρ h)
    (h1 : ∀ n ρ h (F : S3 → Sto → Prop), Inv n ρ h → (∀ k ρ' h', k < n → Inv k ρ' h' → F ρ' h') → c ρ h fun k h1 => ifC k (b (loopE F E) ρ h1) (E.nx ρ h1)) : cWhile c b E ρ h := by
  have key : ∀ m n ρ h, n ≤ m → Inv n ρ h → whN c b E (m + 1) ρ h := by
    intro m
    induction m with
    | zero =>
      intro n ρ h hn i
      exact h1 n ρ h (whN c b E 0) i fun k ρ' h' hk i' => absurd hk (by omega)
    | succ m ih =>
      intro n ρ h hn i
      exact h1 n ρ h (whN c b E (m + 1)) i fun k ρ' h' hk i' => ih k ρ' h' (by omega) i'
  exact ⟨n + 1, key n n ρ h (Nat.le_refl _) hi⟩
theorem gLst3_q {n k : Nat} {g : Gs3} {ρ : S3} {h : Sto} {Q : S3 → Sto → Prop} : gLst3 n g (.ref k) ρ h Q = onC h[k]? fun xs => xs.length = n ∧ g xs ρ h Q := id onLst'_r
end F3
set_option maxHeartbeats 1000000
/-! FU: a tuple times an int. -/
namespace F3
open PySem PySem.Spec PyProof.Rows L2
section
theorem tuple_mul1 (l : Addr) (items : Array Value) (n : Nat) (dd : Option Addr) (sl : Array (Option Value)) (u : Tok) :
    Meets (Builtin.«tuple.__mul__» ⟨[.ref l, .int 1 u], []⟩) (fun _ R s => s.heap.get? l = some { cls := .type "tuple", dict := dd, data := .seq items n, slots := sl } ∧ R (.ok (.ret (Value.ref l))) s) :=
  .of_wp fun prog w A R s h => by
    obtain ⟨hp, g, d, tk, os⟩ := s
    obtain ⟨hl, h⟩ := h
    have f1 := AutoSeq1.idx_int
    have c0 : (decide ((1 : Int) < -(2 ^ 63)) || decide ((1 : Int) ≥ 2 ^ 63)) = false := by decide
    have c1 : (items.isEmpty || (1 : Int) == 1) = true := by simp
    wp_walk using wpAny_loadPart' hl
    repeat (first
      | (refine wpAny_ite_false (decide_eq_false (by rw [c0]; exact Bool.false_ne_true)) ?_; wp_walk using wpAny_loadPart' hl)
      | (refine wpAny_ite_true (decide_eq_true c1) ?_; wp_walk using wpAny_loadPart' hl))
    exact ⟨_, rfl, h⟩
variable {X : Cx}
def rRepT1 (K : PySem.W.Frag) : R2 := fun x y H Q => ∃ l xs, x = .ref l ∧ y = .int 1 ∧ SqT K H l xs ∧ Q (.ref l) H
theorem op_repT1 : OpR X (binaryOp .Mult) (rRepT1 X.K) := by
  intro pins s σ H x y v u Q I rx ry h
  obtain ⟨l, xs, rfl, rfl, hT, q⟩ := h
  cases rx
  obtain ⟨t, rfl⟩ := ry
  obtain ⟨its, r, ⟨⟨cls, dd, data, sl⟩, ho, hc, n, hd⟩, hs⟩ := I.tuple hT
  simp only at hc hd
  subst hc hd
  refine wpAny_binaryOp_repeat_ref (T := "tuple") (U := "int") (by decide) ⟨_, ho, rfl⟩ (fun s' => typeIs_int s' 1 t) noFill_tuple_mul F.fills_int_mul F.slot_int_rmul repeat_tuple F.slot_int_index.lookup
    (call_meets F.slot_int_rmul (typeIs_int s 1 t) F.entry_int_rmul (F.args_int_rmul_2 _ _) (int_rmul_tuple 1 t l its.toArray n dd sl)
      ⟨ho, rfl, ⟨_, ho, rfl⟩, call_meets F.slot_tuple_mul ⟨_, ho, rfl⟩ F.entry_tuple_mul (F.args_tuple_mul_2 _ _) (tuple_mul1 l its.toArray n dd sl t) ⟨ho, ?_⟩⟩)
  exact ⟨.ref l, H, I, rfl, q⟩
def mulTR : R3 := fun x y h Q => match x, y with
  | .tup xs, .int k => (xs ≠ [] ∧ 1 ≤ k ∧ k ≤ 1000 ∧ xs.length ≤ 1000) ∧ Q (.tup (List.replicate k.toNat xs).flatten) h
  | _, _ => False
theorem o_mulT : Op3 X (binaryOp .Mult) mulTR := by
  refine ⟨fun x y h Q Q' w q => ?_, _, OpR.or op_repT op_repT1, fun m h H x y v u Q R rx ry q => ?_⟩
  · unfold mulTR at q ⊢
    split at q
    · exact ⟨q.1, w _ _ q.2⟩
    · exact q.elim
  · unfold mulTR at q
    split at q
    next xs k =>
      cases rx with
      | tup sq rr =>
        cases ry
        obtain ⟨⟨h1, h2, h3, h4⟩, q⟩ := q
        by_cases hk : k = 1
        · subst hk
          have e : (List.replicate (Int.toNat 1) xs).flatten = xs := by
            show (List.replicate 1 xs).flatten = xs
            simp
          rw [e] at q
          exact .inr ⟨_, _, rfl, rfl, TH sq, q m H _ .refl R (.tup sq rr)⟩
        · refine .inl ⟨_, k, _, rfl, rfl, TH sq, fun z => h1 ?_, by omega, h3, by rw [← rr.length]; exact h4, fun p hp => ?_⟩
          · have := rr.length
            rw [z] at this
            exact List.eq_nil_of_length_eq_zero this
          · exact q m _ (.ref p) (Step.lay hp) (R.lay hp) (.tup upd_same ((rr.rep k.toNat).step R (Step.lay hp)))
    next => exact q.elim
end
theorem mulTR_q {xs : List D} {k : Int} {h : Sto} {Q : DK} : mulTR (.tup xs) (.int k) h Q = ((xs ≠ [] ∧ 1 ≤ k ∧ k ≤ 1000 ∧ xs.length ≤ 1000) ∧ Q (.tup (List.replicate k.toNat xs).flatten) h) := id rfl
theorem rep_zero {n : Nat} : (D.tup (List.replicate n [D.int 0]).flatten) = wtD (List.replicate n 0) := by
  unfold wtD
  congr 1
  induction n with
  | zero => rfl
  | succ n ih => rw [List.replicate_succ, List.replicate_succ, List.flatten_cons, List.map_cons, ih]; rfl
end F3
set_option maxHeartbeats 1000000
/-! FV: texts: str(n), sep.join([..]), a text times 0 or 1. -/
namespace F3
open PySem PySem.Spec PyProof.Rows L2
def intS (i : Int) : Str := toString i
section
variable {X : Cx}
def strR : N3 := fun xs h Q => match xs with
  | [.int i] => i.natAbs.log2 < 1920 ∧ Q (.str (intS i)) h
  | _ => False
theorem k_str : Call3 X (.type "str") strR := by
  refine ⟨fun xs h Q Q' w q => ?_, _, call_str_int, fun m h H xs vs Q R rs q => ?_⟩
  · unfold strR at q ⊢
    split at q
    · exact ⟨q.1, w _ _ q.2⟩
    · exact q.elim
  · unfold strR at q
    split at q
    next i =>
      match vs, rs with
      | [_], .cons (.int _) .nil => exact ⟨i, rfl, q.1, q.2 m H _ .refl R (.str _)⟩
    next => exact q.elim
def strsOf : List D → Option (List Str)
  | [] => some []
  | .str x :: r => (strsOf r).map (x :: ·)
  | _ => none
theorem strsOf_map : ∀ ns : List Str, strsOf (ns.map D.str) = some ns
  | [] => rfl
  | n :: r => by simp only [List.map_cons, strsOf, strsOf_map r, Option.map_some]
theorem strsOf_eq : ∀ {xs : List D} {ns : List Str}, strsOf xs = some ns → xs = ns.map D.str
  | [], ns, h => by cases h; rfl
  | x :: r, ns, h => by
    cases x with
    | str y =>
      simp only [strsOf] at h
      obtain ⟨zs, h1, h2⟩ := Option.map_eq_some_iff.mp h
      rw [← h2, strsOf_eq h1]; rfl
    | _ => simp [strsOf] at h
def onSs (o : Option (List Str)) (q : List Str → Prop) (_ : Tag q := ⟨⟩) : Prop := match o with
  | some j => q j
  | none => False
def onS (d : D) (q : Str → Prop) (_ : Tag q := ⟨⟩) : Prop := match d with
  | .str x => q x
  | _ => False
def tJoin (to : E3) (ta : A3) : E3 := fun ρ h Q => to ρ h fun x h1 => onS x fun a => ta ρ h1 fun xs h2 => onSs (strsOf xs) fun ys => (ys.map (·.length)).sum + ys.length * a.length ≤ 16777216 ∧ Q (.str (Txt.join a ys)) h2
theorem onS_mono {d : D} {q q' : Str → Prop} (w : ∀ x, q x → q' x) (h : onS d q) : onS d q' := by
  unfold onS at h ⊢
  cases d <;> first | exact w _ h | exact h
theorem onSs_mono {o : Option (List Str)} {q q' : List Str → Prop} (w : ∀ x, q x → q' x) (h : onSs o q) : onSs o q' := by
  unfold onSs at h ⊢
  cases o <;> first | exact w _ h | exact h
theorem MonoE.join {to : E3} {ta : A3} (mo : MonoE to) (ma : MonoA ta) : MonoE (tJoin to ta) := fun ρ h Q Q' w q =>
  mo _ _ _ _ (fun x h1 q1 => onS_mono (fun a q2 => ma _ _ _ _ (fun xs h2 q3 => onSs_mono (fun ys q4 => ⟨q4.1, w _ _ q4.2⟩) q3) q2) q1) q
theorem e3_join {o e : Expr} {to : E3} {ta : A3} {apos pos : Pos} (ho : PE3 X o to) (he : PX3 X e ta) (hs : starEach [e] X.env = [(false, eval e X.env)] := by rfl) (hbase : attributeBase o "join" X.env (eval o X.env) = eval o X.env := by rfl) (hline : (apos.endLine == pos.line) = true := by rfl) :
    PE3 X (.Call (.Attribute o "join" apos) [e] [] pos) (tJoin to ta) := by
  refine ⟨PE.weak (pe_join ho.pe he.pe hs hbase hline) fun σ H Q ⟨m, h, ρ, R, S, q⟩ => ?_, MonoE.join ho.mono he.mono⟩
  refine LE.bind ho.mono R S q fun m1 H1 v x h1 s1 R1 rx S1 q1 => ?_
  cases x with
  | str a =>
    cases rx
    refine ⟨⟨a, rfl⟩, ?_⟩
    refine LX.bind he.mono R1 S1 q1 fun m2 H2 b vs xs h2 s2 R2 eb _ _ rs S2 q2 => ?_
    unfold onSs at q2
    split at q2
    next ys e =>
      have := strsOf_eq e
      subst this
      refine ⟨a, b, ys, rfl, rfl, .inl (.inl (.inl ?_)), q2.1, q2.2 m2 H2 _ (s1.trans s2) R2 (.str _)⟩
      rw [← rs.strs]; exact eb
    next => exact q2.elim
  | _ => exact q1.elim
/-- a text times 0 or 1 -/
def mulSR : R3 := fun x y h Q => match x, y with
  | .str a, .int k => (0 ≤ k ∧ k ≤ 1) ∧ Q (.str (if k = 1 then a else Str.empty)) h
  | _, _ => False
theorem op_mulS01 : OpR X (binaryOp .Mult) (fun x y H Q => ∃ a k, x = .str a ∧ y = .int k ∧ (0 ≤ k ∧ k ≤ 1) ∧ Q (.str (if k = 1 then a else Str.empty)) H) := by
  intro pins s σ H x y v u Q I rx ry h
  obtain ⟨a, k, rfl, rfl, hk, q⟩ := h
  obtain ⟨t, rfl⟩ := rx
  obtain ⟨t2, rfl⟩ := ry
  have : k = 0 ∨ k = 1 := by omega
  rcases this with rfl | rfl
  · exact PySem.P.mul_str_none (by decide) (by decide) ⟨.str Str.empty, H, I.tok _, ⟨_, rfl⟩, q⟩
  · refine PySem.P.mul_str (by decide) (fun _ h => absurd h (by simp)) (fun _ h => absurd h (by simp)) ?_
    rw [if_neg (by decide), if_pos (by simp)]
    exact ⟨.str a, H, I, ⟨_, rfl⟩, q⟩
theorem o_mulS : Op3 X (binaryOp .Mult) mulSR := by
  refine ⟨fun x y h Q Q' w q => ?_, _, op_mulS01, fun m h H x y v u Q R rx ry q => ?_⟩
  · unfold mulSR at q ⊢
    split at q
    · exact ⟨q.1, w _ _ q.2⟩
    · exact q.elim
  · unfold mulSR at q
    split at q
    next a k =>
      cases rx
      cases ry
      exact ⟨a, k, rfl, rfl, q.1, q.2 m H _ .refl R (.str _)⟩
    next => exact q.elim
end
section
variable {h : Sto} {Q : DK} {i : Int} {x y : Str} {xs : List D} {ρ : S3}
theorem strR_q : strR [.int i] h Q = (i.natAbs.log2 < 1920 ∧ Q (.str (intS i)) h) := id rfl
theorem tJoin_q {to : E3} {ta : A3} : tJoin to ta ρ h Q = to ρ h fun x h1 => onS x fun a => ta ρ h1 fun xs h2 => onSs (strsOf xs) fun ys => (ys.map (·.length)).sum + ys.length * a.length ≤ 16777216 ∧ Q (.str (Txt.join a ys)) h2 := id rfl
theorem onS_q {q : Str → Prop} : onS (.str x) q = q x := id rfl
theorem onSs_q {q : List Str → Prop} {ys : List Str} : onSs (some ys) q = q ys := id rfl
theorem mulSR_q : mulSR (.str x) (.int i) h Q = ((0 ≤ i ∧ i ≤ 1) ∧ Q (.str (if i = 1 then x else Str.empty)) h) := id rfl
end
/-! ### texts, plainly -/
def TOk (x : Str) : Prop := PyData.strOk x = true
theorem tok_app {x y : Str} (hx : TOk x) (hy : TOk y) : TOk (x ++ y) := by
  unfold TOk PyData.strOk at *
  show (x.cps ++ y.cps).all _ = true
  rw [Array.all_append, hx, hy]; rfl
theorem tok_str (s : String) : TOk (Str.ofString s) := by
  unfold TOk PyData.strOk Str.ofString
  rw [cpsOfBytes_string]
  simp only [List.all_toArray, List.all_map, List.all_eq_true]
  intro c _
  have h := c.valid
  simp only [UInt32.isValidChar, Nat.isValidChar] at h
  show decide (c.val.toNat < 0x110000) = true
  exact decide_eq_true (by omega)
theorem str_ext {x y : Str} (h : x.cps.toList = y.cps.toList) : x = y := by
  cases x; cases y
  congr 1
  exact Array.toList_inj.mp h
theorem app_list (x y : Str) : (x ++ y).cps.toList = x.cps.toList ++ y.cps.toList := by
  show (x.cps ++ y.cps).toList = _
  rw [Array.toList_append]
theorem app_assoc (x y z : Str) : x ++ y ++ z = x ++ (y ++ z) := str_ext (by simp only [app_list, List.append_assoc])
theorem app_empty (x : Str) : x ++ Str.empty = x := str_ext (by rw [app_list]; show _ ++ [] = _; simp)
theorem empty_app (x : Str) : Str.empty ++ x = x := str_ext (by rw [app_list]; show [] ++ _ = _; simp)
theorem tj_eq (a : Str) (l : List Str) : Txt.join a l = Str.join a l := TL.join_eq a l
theorem join_cons2 (a x y : Str) (r : List Str) : Txt.join a (x :: y :: r) = x ++ a ++ Txt.join a (y :: r) := by
  rw [tj_eq, tj_eq]; rfl
theorem join_one (a x : Str) : Txt.join a [x] = x := by rw [tj_eq]; rfl
theorem join_nil (a : Str) : Txt.join a [] = Str.empty := by rw [tj_eq]; rfl
theorem toP_str {h : Sto} {k : Nat} {x : Str} (e : TOk x) : toP h (k + 1) (.str x) = some (.str x) := by
  simp only [toP]
  rw [if_pos (show PyData.strOk x = true from e)]
end F3
/-! FW: defs that are called where nothing is being shown (A.guards = some []): they may show lists and tuples. -/
namespace F3
open PySem PySem.Spec PyProof.Rows L2
/-- a def's promise, kept where nothing is being shown -/
structure FnG (P : Program) (w : World) (K : PySem.W.Frag) (mg : Str → Option Value) (base : Heap) (k : Nat) (f : Addr) (fd : FuncData) (ps : List Str) (sp : Sp) : Prop where
  ln : ∀ vs H Q E, sp vs H Q E → vs.length = ps.length
  go : ∀ (B : Around) (out : List Env) (z : Shared) (H : Hp) (ar : Args) (us : List Value) (vs : List V) (Q : VK) (E : XK), Room k B → B.guards = some [] → Env0 P w K mg base B out z H → BindsTo z fd ar (ps.zip us) → Vals vs us → sp vs H Q E →
    codeAny (model P w) B (.call (.ref f) ar) (CR CX0 out P w H z Q E) z
section
variable {P : Program} {w : World} {K : PySem.W.Frag} {mg : Str → Option Value} {base : Heap}
theorem FnG.of {x qual : Str} {st : Stmt} {f : Addr} {fd : FuncData} {N ps : List Str} {k : Nat} {sp : Sp} (F : Fun K x qual st f fd) (S : FnScope N ps (defScope st)) (ln : ∀ vs H Q E, sp vs H Q E → vs.length = ps.length)
    (bd : ∀ (cdv : Value) (B : Around) (out : List Env) (z : Shared) (H : Hp) (vs : List V) (Q : VK) (E : XK), Room k (B.deeper (envOfC qual (defScope st) z.heap.objs.size f cdv)) → B.guards = some [] → sp vs H Q E →
      ∃ t, PSs (cxOf CX0 P w K mg base N qual (defScope st) f cdv B out z H E).nox (defBody st) t ∧ t { nx := fun _ H' => Q .non H', rt := Q } (start N vs) H) :
    FnG P w K mg base (k + 1) f fd ps sp := by
  obtain ⟨oc, od, kV, doc, pm, an, cdv, ct, osl, rfl, lk, hcd⟩ := F.ex
  refine ⟨ln, fun B out z H ar us vs Q E room gd env bind vals prom => ?_⟩
  have inK : K.In z.heap := env.mod.kin.keeps fun b o e => (env.bs b o e).1
  refine codeAny_call_function room.depth (inK _ _ lk) rfl S.co S.gen rfl (PySem.W.codeRec_of inK hcd) (bind _ _ _ _ (wpAny_newFunctionEnv_cells S.kind (fun ⟨n, v⟩ hy => ?_) fun en he z1 ic => ?_))
  · exact (S.par n (List.of_mem_zip hy).1).elim .inl fun a => .inr ⟨a, PySem.W.cellsFrom_some _ _ _ (.inl a)⟩
  · subst he
    obtain ⟨t, ht, hq⟩ := bd cdv B out z H vs Q E (room.deeper _) gd prom
    have J0 := inv_start (CX := CX0) (E := E) S room.hd env (ln _ _ _ _ prom) vals ic
    refine ⟨(env.mod.nolimit.keeps fun b o e => (env.bs b o e).1).keeps ic.toInCall.keep, codeAny_func (wpAny_mono (ht.nox.run [] z1 (start N vs) H _ J0 hq) (fun fl z' hz => ?_) fun _ _ hz => hz)⟩
    cases fl with
    | next =>
      obtain ⟨σ', H', J, qq⟩ := hz
      exact ⟨.non, H', J.os, J.bare, J.base, J.hok, rfl, qq⟩
    | ret u =>
      obtain ⟨v, σ', H', J, rv, qq⟩ := hz
      exact ⟨v, H', J.os, J.bare, J.base, J.hok, rv, qq⟩
    | brk => exact hz.elim fun _ y => y.elim fun _ y => y.2.elim
    | cont => exact hz.elim fun _ y => y.elim fun _ y => y.2.elim
theorem FnG.mono {i j : Nat} {f : Addr} {fd : FuncData} {ps : List Str} {sp : Sp} (F : FnG P w K mg base i f fd ps sp) (h : i ≤ j) : FnG P w K mg base j f fd ps sp := ⟨F.ln, fun B out z H ar us vs Q E room => F.go B out z H ar us vs Q E (room.mono h)⟩
/-- as fn3 -/
theorem fn3G {x qual : Str} {st : Stmt} {f : Addr} {fd : FuncData} {N ps : List Str} {k : Nat} {sp : Sp3} {t : C3} (F : Fun K x qual st f fd) (S : FnScope N ps (defScope st)) (len : ∀ ds h Q E, sp ds h Q E → ds.length = ps.length)
    (dv : ∀ (cdv : Value) (A : Around) (outer : List Env) (s : Shared) (H : Hp) (E : XK), Room k (A.deeper (envOfC qual (defScope st) s.heap.objs.size f cdv)) → A.guards = some [] →
      PCs3 (cxOf CX0 P w K mg base N qual (defScope st) f cdv A outer s H E).nox (defBody st) t)
    (rd : ∀ ds h Q E, ClS h.length h → ClDs h.length ds → sp ds h Q E → t (ends3 (GQ h.length Q)) (start3 N.length ds) h) : FnG P w K mg base (k + 1) f fd ps (LSp K sp) := by
  refine FnG.of F S (fun vs H Q E ⟨m, h, ds, R, rs, q⟩ => by rw [← rs.length]; exact len _ _ _ _ q) fun cdv A outer s H vs Q E hr hg ⟨m, h, ds, R, rs, q⟩ => ?_
  have d := dv cdv A outer s H E hr hg
  refine ⟨_, d.pe, m, h, _, R, relS_start rs, d.mono (ends3 (GQ h.length (Up K m H Q))) _ _ _ ⟨fun ρ h' g => ?_, fun v h' g => ?_, fun _ _ z => z.elim, fun _ _ z => z.elim⟩ (rd ds h _ _ R.cl (by rw [← R.len]; exact rs.cl) q)⟩
  · intro m' H' σ' s' R' S'
    rcases g with g | ⟨d2, h2, gc, g⟩
    · exact g m' H' .non s' R' .non
    · obtain ⟨m2, s2, R2, r2⟩ := gc.lift R.len.symm s' R' .non
      exact g m2 H' .non s2 R2 r2
  · intro m' H' u s' R' ru
    rcases g with g | ⟨d2, h2, gc, g⟩
    · exact g m' H' u s' R' ru
    · obtain ⟨m2, s2, R2, r2⟩ := gc.lift R.len.symm s' R' ru
      exact g m2 H' u s2 R2 r2
/-- a def of the module, by its promise, called where nothing is being shown -/
structure FnG3 (P : Program) (w : World) (K : PySem.W.Frag) (mg : Str → Option Value) (base : Heap) (x : Str) (k : Nat) (ps : List Str) (sp : Sp3) : Prop where
  ex : ∃ f fd, mg x = some (.ref f) ∧ PySem.W.keepIn K (.ref f) = true ∧ Binds K fd ps [] ∧ FnG P w K mg base k f fd ps (LSp K sp)
  mono : MonoS sp
end
section
variable {X : Cx}
theorem runG {k : Nat} {f : Addr} {fd : FuncData} {ps : List Str} {sp : Sp} {E : XK} {pins : List (Addr × Obj)} {σ : L2.St} {H : Hp} {s : Shared} {Q : VK} {us : List Value} {vs : List V} (F : FnG X.prog X.w X.K X.mg X.base k f fd ps sp) (hr : Room k X.A) (gd : X.A.guards = some [])
    (hb : Binds X.K fd ps []) (I : Inv X pins σ H s) (r : Vals vs us) (h : sp vs H Q E) : wpAny (model X.prog X.w) X.A (call (.ref f) us) (EP X pins σ Q) X.xe s := by
  have hl : us.length = ps.length := r.length.symm.trans (F.ln _ _ _ _ h)
  have bt := hb s us I.kIn (by rw [List.append_nil]; exact hl)
  rw [List.append_nil] at bt
  refine wpAny_call (codeAny_mono (F.go X.A X.stack s H ⟨us, []⟩ us vs Q E hr gd I.env0 bt r h) fun a z hz => ?_)
  cases a with
  | error e => exact False.elim hz
  | ok fl =>
    cases fl with
    | ret u => exact I.after hz
    | next => exact False.elim hz
    | brk => exact False.elim hz
    | cont => exact False.elim hz
theorem e3_callG {x : Str} {k n : Nat} {ps : List Str} {sp : Sp3} {e : Expr} {es : List Expr} {ta : A3} {p pos : Pos} (F : FnG3 X.prog X.w X.K X.mg X.base x k ps sp) (hr : Room n X.A) (gd : X.A.guards = some []) (ha : PA3 X (e :: es) ta) (hk : k ≤ n := by decide) (hg : Gl X x := by rfl)
    (hdb : (x == ("__debug__" : Str)) = false := by decide) (he : starEach (e :: es) X.env = (false, eval e X.env) :: starEach es X.env := by rfl) (hpl : (backTo pos (starEach es X.env)).any (·.1) = false := by rfl) :
    PE3 X (.Call (.Name x p) (e :: es) [] pos) (tCall3 sp ta) := by
  obtain ⟨f, fd, hm, kp, hb, F0⟩ := F.ex
  refine ⟨⟨fun pins s σ H Q I ⟨m, h, ρ, R, S, q⟩ => ?_⟩, fun ρ h Q Q' w q => ha.mono _ _ _ _ (fun ds h1 q1 => F.mono _ _ _ _ _ _ w (fun _ _ z => z) q1) q⟩
  have q2 := LA.bind (K := X.K) (Q := fun vs H1 => LSp X.K sp vs H1 Q fun _ _ _ => False) ha.mono R S q fun m1 H1 vs ds h1 s1 R1 rs S1 q1 => ⟨m1, h1, ds, R1, rs, F.mono _ _ _ _ _ _ (fun d h' u => Up.step s1 u) (fun _ _ z => z.elim) q1⟩
  refine wpAny_Call_Name_kw (ld_glob I hg hm ?_ hdb)
  refine PySem.W.callWith_K (h₀ := X.base) I.ok.mod.kin kp (thn (ha.pe.run pos pins s σ H _ I q2) fun us s1 ⟨vs, H1, I1, r, q1⟩ => ⟨I1.kIn, ?_⟩) he hpl
  exact runG F0 (hr.mono hk) gd hb I1 r q1
end
/-! ### the head: the law's call, where nothing is being shown -/
section
variable {P : Program} {w : World} {K : PySem.W.Frag} {mg mb : Str → Option Value} {k : Nat} {fa a : Addr} {fd : FuncData} {x : Str} {sp : Sp} {z : Shared} {vs : List Value} {ns : List Int}
theorem script_hp (inK : K.In z.heap) (ho : z.heap.get? a = some { cls := .type "list", data := .seq vs.toArray }) (hi : IntsAre vs ns) (hl : ns.length ≤ sizeLine) :
    ∃ H : Hp, Only H ∧ SqL K H a (ns.map V.int) ∧ HOk P w H z.heap ∧ (∀ b, H b ≠ none → b = a) ∧ (H a ≠ none → K.lookup a = none) := by
  have rel := vals_ints hi
  cases hk : K.lookup a with
  | some o =>
    have e := ho.symm.trans (inK a o hk)
    cases e
    refine ⟨fun _ => none, fun _ => .inl rfl, .inr ⟨_, vs.toArray, _, hk, rfl, rfl, rfl, by rw [List.size_toArray, hi.length]; exact hl, by simpa using rel⟩, fun b u y => ?_, fun b y => absurd rfl y, fun y => absurd rfl y⟩
    have y' : (none : Option HO) = some u := y
    cases y'
  | none =>
    have hit : ∀ {b : Addr}, b = a → (if b = a then some (HO.frz { cls := .type "list", data := .seq vs.toArray } (.lst (ns.map V.int))) else none) = some (.frz { cls := .type "list", data := .seq vs.toArray } (.lst (ns.map V.int))) := fun e => if_pos e
    refine ⟨fun b => if b = a then some (.frz { cls := .type "list", data := .seq vs.toArray } (.lst (ns.map V.int))) else none, fun b => ?_, .inl (.inr ⟨_, hit rfl⟩), fun b u y => ?_, fun b y => ?_, fun _ => rfl⟩
    · by_cases e : b = a
      · exact .inr ⟨_, _, hit e⟩
      · exact .inl (if_neg e)
    · by_cases e : b = a
      · have y' := (hit e).symm.trans y
        cases y'
        subst e
        exact ⟨ho, by rw [List.length_map]; exact hl, vs, _, rel, ho⟩
      · have y' := (if_neg e).symm.trans y
        cases y'
    · by_cases e : b = a
      · exact e
      · exact absurd (if_neg e) y
theorem headG (inK : K.In z.heap) (gl : z.heap.Ns mainGlobals mg) (bl : z.heap.Ns builtinsNs mb) (bb : ∀ y : Str, y ≠ "__name__" → mb y = bootBuiltins y) (nl : z.heap.NoLimit) (ng : z.gens = #[])
    (ho : z.heap.get? a = some { cls := .type "list", data := .seq vs.toArray }) (hi : IntsAre vs ns) (hl : ns.length ≤ sizeLine) (room : Room k callerA)
    (F : ∀ base : Heap, K.In base → base.Ns mainGlobals mg → FnG P w K mg base k fa fd [x] sp) (bind : ∀ (s : Shared) (u : Value), BindsTo s fd ⟨[u], []⟩ [(x, u)])
    (hsp : ∀ H : Hp, Only H → SqL K H a (ns.map V.int) → sp [.ref a] H (fun v _ => v = .bl true) fun _ _ _ => False) :
    codeAny (model P w) callerA (.call (.ref fa) ⟨[.ref a], []⟩) (fun r y => r = .ok (.ret (.bool true)) ∧ OldK z.heap y.heap ∧ y.os = z.os ∧ AllBare y.gens) z := by
  obtain ⟨H, hO, hS, hok, hA, hK⟩ := script_hp (P := P) (w := w) inK ho hi hl
  -- what is no list is kept in the part that is known
  have keep : ∀ {b : Addr} {o : Obj}, z.heap.get? b = some o → (b = a → o.data ≠ .seq vs.toArray ∨ H a = none) → (hidT z.heap H).get? b = some o := fun {b o} e n => by
    refine hidT_get e ?_
    cases q : H b with
    | none => rfl
    | some u =>
      have eb : b = a := hA b (by rw [q]; simp)
      subst eb
      rcases n rfl with n | n
      · rw [ho] at e; cases e; exact absurd rfl n
      · rw [n] at q; cases q
  have nsK : ∀ {b : Addr} {m : Str → Option Value}, z.heap.Ns b m → (hidT z.heap H).Ns b m := fun {b m} ⟨o, es, ep, e, d, r⟩ => ⟨o, es, ep, keep e fun _ => .inl (by rw [d]; simp), d, r⟩
  have inB : K.In (hidT z.heap H) := fun b o e => keep (inK b o e) fun eb => .inr (by
    cases q : H a with
    | none => rfl
    | some u =>
      have n := hK (by rw [q]; simp)
      rw [← eb, e] at n; cases n)
  have md : Mod K mg (hidT z.heap H) := ⟨inB, nsK gl, ⟨mb, nsK bl, bb⟩, nl.elim fun mc y => ⟨mc, nsK y.1, y.2⟩⟩
  have ev : Env0 P w K mg (hidT z.heap H) callerA [] z H := ⟨rfl, md, fun b o e => of_hidT e, Nat.le_of_eq (hidT_size _ _), trivial, fun b y => (by cases y), hok, .of_eq ng⟩
  refine codeAny_mono ((F _ inB (nsK gl)).go callerA [] z H ⟨[.ref a], []⟩ [.ref a] [.ref a] _ _ room rfl ev (bind z (.ref a)) (.cons rfl .nil) (hsp H hO hS)) fun r y hy => ?_
  cases r with
  | error e => exact False.elim hy
  | ok fl =>
    cases fl with
    | brk => exact False.elim hy
    | cont => exact False.elim hy
    | next => exact False.elim hy
    | ret u =>
      obtain ⟨v, H', os, bare, un, hok2, rv, qv⟩ := hy
      have qv' : v = .bl true := qv
      subst qv'
      obtain rfl : u = Value.bool true := rv
      refine ⟨rfl, OldK.of_keep fun b o e => ?_, os, bare⟩
      rcases hO b with n | ⟨ob, xs, n⟩
      · exact un.keep b o e n (by intro y; cases y) (by simp)
      · have h1 := (hok b _ n).1
        have h2 := (hok2 b _ (un.frzs b ob _ n)).1
        rw [e] at h1; cases h1
        exact h2
end
theorem walkG {l : PySem.W.OpenLaw} {n k : Nat} {q : Program} {loose : List Str} {XP : (Str → Option Value) → Heap → Prop} {YP : World → Heap → Prop} {d : DefRec} {K : Params → PySem.W.Frag} {sp : World → Sp} {x : Str}
    (hn : l.most = some n) (hn2 : n ≤ sizeLine) (hdf : d.params.defaults = []) (hr : Room k callerA) (hY : ∀ (w : World) (h : Heap), YP w h → (K w.params).In h)
    (F : ∀ (w : World) (mg : Str → Option Value) (fa : Addr) (h : Heap), (K w.params).In h → h.Ns mainGlobals mg → mg d.name = some (.ref fa) → ∃ fd : FuncData, (∀ (s : Shared) (u : Value), BindsTo s fd ⟨[u], []⟩ [(x, u)]) ∧ ∀ base : Heap, (K w.params).In base → base.Ns mainGlobals mg → FnG l.prog w (K w.params) mg base k fa fd [x] (sp w))
    (hsp : ∀ (w : World) (H : Hp) (a : Addr) (ns : List Int), ns.length ≤ n → Only H → SqL (K w.params) H a (ns.map V.int) → sp w [.ref a] H (fun v _ => v = .bl true) fun _ _ _ => False) :
    PySem.W.WalkO q loose XP YP l.row.toRowW d [] (fun f vs => PySem.call f vs) :=
  Att.attach_call hn hdf fun w _ z mg mb fa o pm cd doc a vs ns G Y ho hd hcd hmg hobj hints hlen hg => by
    obtain ⟨fd, hb, hF⟩ := F w mg fa _ (hY w _ Y) G.T.g hmg
    exact headG (hY w _ Y) G.T.g G.T.b G.T.builtins G.T.nolimit hg hobj hints (Nat.le_trans hlen hn2) hr hF hb fun H hO hS => hsp w H a ns hlen hO hS
/-! ### str(x) of any data -/
def strOf : PyData → Str
  | .str x => x
  | p => p.shown
/-- data that can be shown -/
def ShwOk (p : PyData) : Prop := p.showable = true ∧ p.shown.length ≤ sizeLine
def strG : N3 := fun xs h Q => match xs with
  | [d] => ∃ p, toP h 9 d = some p ∧ ShwOk p ∧ Q (.str (strOf p)) h
  | _ => False
def eqSR : R3 := fun x y h Q => match x, y with
  | .str a, .str b => Q (.bl (decide (a = b))) h
  | _, _ => False
def neSR : R3 := fun x y h Q => match x, y with
  | .str a, .str b => Q (.bl (!decide (a = b))) h
  | _, _ => False
section
variable {X : Cx}
theorem call_strG (hg : X.A.guards = some []) (hu : X.A.units + 64 < cLine) : CallR X (.type "str") (fun xs H Q => ∃ v p, xs = [v] ∧ Dp X.K H v p ∧ p.canLay0 = true ∧ p.depth ≤ 9 ∧ ShwOk p ∧ Q (.str (strOf p)) H) := by
  intro pins s σ H xs us Q I r h
  obtain ⟨v, p, rfl, dp, cl, dep, sh, q⟩ := h
  obtain ⟨u, rfl, ru⟩ := vals1 r
  obtain ⟨as, rd⟩ := Dp.reads I p v u dp ru
  have ref : ∀ {a : Addr}, u = .ref a → (∀ y, p ≠ .str y) → wpAny (model X.prog X.w) X.A (call (.type "str") [u]) (EP X pins σ Q) X.xe s := by
    intro a eu np
    subst eu
    refine str_of_reads rd sh.1 (PyData.noDict_hsm (PyData.hasDict_of_canLay p cl)) hg (by omega) (fun _ _ e => e) (fun h' t tk k => ?_) sh.2
    have e : strOf p = p.shown := by
      cases p with
      | str y => exact absurd rfl (np y)
      | _ => rfl
    exact ⟨.str _, H, I.un (Un.kept k) (I.hok.kept k), ⟨_, by rw [e]⟩, q⟩
  cases rd with
  | none => exact P.str_of_none ⟨.str _, H, I.tok _, ⟨_, rfl⟩, q⟩
  | bool b => exact P.str_of_bool ⟨.str _, H, I.tok _, ⟨_, rfl⟩, q⟩
  | int i t =>
    have z : i.natAbs.log2 < 1920 := by simpa [PyData.showable] using sh.1
    exact P.str_of_int z ⟨.str _, H, I.tok _, ⟨_, rfl⟩, q⟩
  | str x t => exact P.str_of_str ⟨.str _, H, I, ⟨_, rfl⟩, q⟩
  | _ => exact ref rfl (fun y => nofun)
theorem k_strG (hg : X.A.guards = some []) (hu : X.A.units + 64 < cLine) : Call3 X (.type "str") strG := by
  refine ⟨fun xs h Q Q' w q => ?_, _, call_strG hg hu, fun m h H xs vs Q R rs q => ?_⟩
  · unfold strG at q ⊢
    split at q
    · obtain ⟨p, e, sh, q⟩ := q
      exact ⟨p, e, sh, w _ _ q⟩
    · exact q.elim
  · unfold strG at q
    split at q
    next d =>
      obtain ⟨p, e, sh, q⟩ := q
      match vs, rs with
      | [v], .cons r .nil =>
        obtain ⟨dp, cl⟩ := toP_dp R 9 d p v e r
        exact ⟨v, p, rfl, dp, cl, toP_depth 9 d p e, sh, q m H _ .refl R (.str _)⟩
    next => exact q.elim
theorem o_eqS : Op3 X (compareOp .Eq) eqSR := by
  refine ⟨fun x y h Q Q' w q => ?_, _, op_eq, fun m h H x y v u Q R rx ry q => ?_⟩
  · unfold eqSR at q ⊢
    split at q
    · exact w _ _ q
    · exact q.elim
  · unfold eqSR at q
    split at q
    next a b =>
      cases rx; cases ry
      refine ⟨rfl, ?_⟩
      have : decide (V.str a = V.str b) = decide (a = b) := by simp
      rw [this]
      exact q m H _ .refl R (.bl _)
    next => exact q.elim
theorem o_neS : Op3 X (compareOp .NotEq) neSR := by
  refine ⟨fun x y h Q Q' w q => ?_, _, op_ne, fun m h H x y v u Q R rx ry q => ?_⟩
  · unfold neSR at q ⊢
    split at q
    · exact w _ _ q
    · exact q.elim
  · unfold neSR at q
    split at q
    next a b =>
      cases rx; cases ry
      refine ⟨rfl, ?_⟩
      have : decide (V.str a = V.str b) = decide (a = b) := by simp
      rw [this]
      exact q m H _ .refl R (.bl _)
    next => exact q.elim
end
theorem eqSR_q {a b : Str} {h : Sto} {Q : DK} : eqSR (.str a) (.str b) h Q = Q (.bl (decide (a = b))) h := id rfl
theorem neSR_q {a b : Str} {h : Sto} {Q : DK} : neSR (.str a) (.str b) h Q = Q (.bl (!decide (a = b))) h := id rfl
end F3
set_option maxHeartbeats 1000000
/-! FN: dicts whose keys are ints or texts. -/
namespace F3
open PySem PySem.Spec PyProof.Rows L2
section
variable {κ : Type} [DecidableEq κ]
def valD (kvs : List (κ × D)) (k : κ) : Option D := (kvs.find? fun kv => decide (kv.1 = k)).map (·.2)
def putD (kvs : List (κ × D)) (k : κ) (v : D) : List (κ × D) := if (kvs.any fun kv => decide (kv.1 = k)) = true then kvs.map (fun kv => if kv.1 = k then (kv.1, v) else kv) else kvs ++ [(k, v)]
/-- dicts alike -/
structure RelK (K : PySem.W.Frag) (m : List Addr) (H : Hp) (kvs : List (κ × D)) (vs : List (κ × V)) : Prop where
  keys : vs.map (·.1) = kvs.map (·.1)
  vals : RelDs K m H (kvs.map (·.2)) (vs.map (·.2))
variable {K : PySem.W.Frag} {m : List Addr} {H : Hp}
theorem RelK.cons {p : κ × D} {q : κ × V} {kvs : List (κ × D)} {vs : List (κ × V)} (h1 : q.1 = p.1) (h2 : RelD K m H p.2 q.2) (r : RelK K m H kvs vs) : RelK K m H (p :: kvs) (q :: vs) :=
  ⟨by rw [List.map_cons, List.map_cons, h1, r.keys], .cons h2 r.vals⟩
theorem RelK.uncons {p : κ × D} {kvs : List (κ × D)} {us : List (κ × V)} (r : RelK K m H (p :: kvs) us) : ∃ q vs, us = q :: vs ∧ q.1 = p.1 ∧ RelD K m H p.2 q.2 ∧ RelK K m H kvs vs := by
  obtain ⟨h1, h2⟩ := r
  match us, h1, h2 with
  | q :: vs, h1, .cons a b =>
    simp only [List.map_cons, List.cons.injEq] at h1
    exact ⟨q, vs, rfl, h1.1, a, h1.2, b⟩
theorem RelK.nil_of {us : List (κ × V)} (r : RelK K m H ([] : List (κ × D)) us) : us = [] := by
  have := r.keys
  simpa using this
theorem RelK.val (k : κ) : ∀ {kvs : List (κ × D)} {vs : List (κ × V)}, RelK K m H kvs vs → (valD kvs k = none ∧ valV vs k = none) ∨ ∃ d v, valD kvs k = some d ∧ valV vs k = some v ∧ RelD K m H d v
  | [], _, r => by rw [r.nil_of]; exact .inl ⟨rfl, rfl⟩
  | p :: kvs, _, r => by
    obtain ⟨q, vs, rfl, e, h, r'⟩ := r.uncons
    by_cases hk : p.1 = k
    · exact .inr ⟨p.2, q.2, by simp [valD, List.find?_cons, hk], valV_pos (e.trans hk), h⟩
    · have e1 : valD (p :: kvs) k = valD kvs k := by simp [valD, List.find?_cons, hk]
      rw [e1, valV_neg (by rw [e]; exact hk)]
      exact r'.val k
theorem RelK.any (k : κ) : ∀ {kvs : List (κ × D)} {vs : List (κ × V)}, RelK K m H kvs vs → (kvs.any fun kv => decide (kv.1 = k)) = (vs.any fun kv => decide (kv.1 = k))
  | [], _, r => by rw [r.nil_of]; rfl
  | p :: kvs, _, r => by
    obtain ⟨q, vs, rfl, e, h, r'⟩ := r.uncons
    rw [List.any_cons, List.any_cons, r'.any k, e]
theorem RelK.upd (k : κ) {d : D} {v : V} (hd : RelD K m H d v) : ∀ {kvs : List (κ × D)} {vs : List (κ × V)}, RelK K m H kvs vs → RelK K m H (kvs.map fun kv => if kv.1 = k then (kv.1, d) else kv) (vs.map fun kv => if kv.1 = k then (kv.1, v) else kv)
  | [], _, r => by rw [r.nil_of]; exact ⟨rfl, .nil⟩
  | p :: kvs, _, r => by
    obtain ⟨q, vs, rfl, e, h, r'⟩ := r.uncons
    rw [List.map_cons, List.map_cons]
    refine RelK.cons ?_ ?_ (r'.upd k hd)
    · by_cases hk : p.1 = k
      · rw [if_pos hk, if_pos (e.trans hk)]; exact e
      · rw [if_neg hk, if_neg (by rw [e]; exact hk)]; exact e
    · by_cases hk : p.1 = k
      · rw [if_pos hk, if_pos (e.trans hk)]; exact hd
      · rw [if_neg hk, if_neg (by rw [e]; exact hk)]; exact h
theorem RelK.snoc (k : κ) {d : D} {v : V} (hd : RelD K m H d v) : ∀ {kvs : List (κ × D)} {vs : List (κ × V)}, RelK K m H kvs vs → RelK K m H (kvs ++ [(k, d)]) (vs ++ [(k, v)])
  | [], _, r => by rw [r.nil_of]; exact ⟨rfl, .cons hd .nil⟩
  | p :: kvs, _, r => by
    obtain ⟨q, vs, rfl, e, h, r'⟩ := r.uncons
    exact RelK.cons e h (r'.snoc k hd)
theorem RelK.put (k : κ) {d : D} {v : V} (hd : RelD K m H d v) {kvs : List (κ × D)} {vs : List (κ × V)} (r : RelK K m H kvs vs) : RelK K m H (putD kvs k d) (putK vs k v) := by
  unfold putD putK
  rw [r.any k]
  split
  · exact r.upd k hd
  · exact r.snoc k hd
theorem RelK.step {m' : List Addr} {H' : Hp} {h : Sto} (R : Rep K m h H) (s : Step m H m' H') {kvs : List (κ × D)} {vs : List (κ × V)} (r : RelK K m H kvs vs) : RelK K m' H' kvs vs := ⟨r.keys, r.vals.step R s⟩
theorem RelK.len {kvs : List (κ × D)} {vs : List (κ × V)} (r : RelK K m H kvs vs) : vs.length = kvs.length := by
  have := congrArg List.length r.keys
  simpa using this
end
def keyD : D → Option Key
  | .int i => some (.inl i)
  | .str x => some (.inr x)
  | _ => none
theorem keyD_rel {K : PySem.W.Frag} {m : List Addr} {H : Hp} {d : D} {v : V} {k : Key} (r : RelD K m H d v) (e : keyD d = some k) : v = kV k := by
  cases r <;> simp only [keyD, Option.some.injEq, reduceCtorEq] at e <;> subst e <;> rfl
section
variable {X : Cx}
/-- {} -/
def tDNew : E3 := fun _ h Q => Q (.ref h.length) (h ++ [.dK []])
theorem e3_dnew {pos : Pos} : PE3 X (.Dict [] [] pos) tDNew := by
  refine ⟨PE.weak pe_dnewK fun σ H Q ⟨m, h, ρ, R, S, q⟩ p hp => ?_, fun ρ h Q Q' w q => w _ _ q⟩
  exact q (m ++ [p]) _ (.ref p) (Step.cell hp) (R.snoc hp ⟨[], upd_same, rfl, .nil⟩) (.ref (by rw [← R.len]; simp))
/-- d[k] -/
def dgR : R3 := fun x y h Q => match x with
  | .ref n => match h[n]? with
    | some (.dK kvs) => match keyD y with
      | some k => match valD kvs k with
        | some d => Q d h
        | none => False
      | none => False
    | _ => False
  | _ => False
/-- k in d -/
def dinR : R3 := fun y x h Q => match x with
  | .ref n => match h[n]? with
    | some (.dK kvs) => match keyD y with
      | some k => Q (.bl (valD kvs k).isSome) h
      | none => False
    | _ => False
  | _ => False
def dninR : R3 := fun y x h Q => match x with
  | .ref n => match h[n]? with
    | some (.dK kvs) => match keyD y with
      | some k => Q (.bl (!(valD kvs k).isSome)) h
      | none => False
    | _ => False
  | _ => False
theorem Rep.dk {K : PySem.W.Frag} {m : List Addr} {h : Sto} {H : Hp} {n : Nat} {kvs : List (Key × D)} {v : V} (R : Rep K m h H) (r : RelD K m H (.ref n) v) (e : h[n]? = some (.dK kvs)) : ∃ a vs, v = .ref a ∧ m[n]? = some a ∧ H a = some (.dK vs) ∧ RelK K m H kvs vs := by
  cases r with
  | ref ea =>
    obtain ⟨vs, q, k, r⟩ := R.at_ _ _ _ ea e
    exact ⟨_, vs, rfl, ea, q, k, r⟩
theorem dgR_mono : ∀ x y h (Q Q' : DK), (∀ d h', Q d h' → Q' d h') → dgR x y h Q → dgR x y h Q' := fun x y h Q Q' w q => by
  unfold dgR at q ⊢
  split at q
  · split at q
    · split at q
      · split at q
        · exact w _ _ q
        · exact q.elim
      · exact q.elim
    · exact q.elim
  · exact q.elim
theorem e3_dget {a b : Expr} {ta tb : E3} {pos : Pos} (hu : X.A.units + 64 < cLine) (ha : PE3 X a ta) (hb : PE3 X b tb) (hs : NoSl b := by intro _ _; rfl) : PE3 X (.Subscript a b pos) (tO dgR ta tb) := by
  refine ⟨PE.weak (pe_dget (by omega) ha.pe hb.pe hs) fun σ H Q ⟨m, h, ρ, R, S, q⟩ => ?_, MonoE.op dgR_mono ha.mono hb.mono⟩
  refine LE.bind ha.mono R S q fun m1 H1 v x h1 s1 R1 rx S1 q1 => ?_
  refine LE.bind hb.mono R1 S1 q1 fun m2 H2 u y h2 s2 R2 ry S2 q2 => ?_
  unfold dgR at q2
  split at q2
  next n =>
    split at q2
    next kvs e =>
      split at q2
      next k ek =>
        split at q2
        next d ed =>
          obtain ⟨aa, vs, rfl, em, ea, rk⟩ := R2.dk (rx.step R1 s2) e
          rcases rk.val k with ⟨z, _⟩ | ⟨d', v', e1, e2, rd⟩
          · rw [ed] at z; cases z
          · rw [ed] at e1
            cases e1
            refine ⟨aa, v', rfl, ?_, q2 m2 H2 v' (s1.trans s2) R2 rd⟩
            rw [keyD_rel ry ek, ← e2]
            exact DGet.k ea
        next => exact q2.elim
      next => exact q2.elim
    next => exact q2.elim
  next => exact q2.elim
theorem dinR_mono : ∀ x y h (Q Q' : DK), (∀ d h', Q d h' → Q' d h') → dinR x y h Q → dinR x y h Q' := fun x y h Q Q' w q => by
  unfold dinR at q ⊢
  split at q
  · split at q
    · split at q
      · exact w _ _ q
      · exact q.elim
    · exact q.elim
  · exact q.elim
theorem din_lift {ta tb : E3} (ma : MonoE ta) (mb : MonoE tb) {σ : L2.St} {H : Hp} {Q : VK} (q : LE X.K (tO dinR ta tb) σ H Q) : tDIn (LE X.K ta) (LE X.K tb) σ H Q := by
  obtain ⟨m, h, ρ, R, S, q⟩ := q
  refine LE.bind ma R S q fun m1 H1 v x h1 s1 R1 rx S1 q1 => ?_
  refine LE.bind mb R1 S1 q1 fun m2 H2 u y h2 s2 R2 ry S2 q2 => ?_
  unfold dinR at q2
  split at q2
  next n =>
    split at q2
    next kvs e =>
      split at q2
      next k ek =>
        obtain ⟨aa, vs, rfl, em, ea, rk⟩ := R2.dk ry e
        refine ⟨aa, valV vs k, rfl, ?_, ?_⟩
        · rw [keyD_rel (rx.step R1 s2) ek]
          exact DGet.k ea
        · have : (valV vs k).isSome = (valD kvs k).isSome := by
            rcases rk.val k with ⟨z1, z2⟩ | ⟨d', v', e1, e2, rd⟩
            · rw [z1, z2]; rfl
            · rw [e1, e2]; rfl
          rw [this]
          exact q2 m2 H2 _ (s1.trans s2) R2 (.bl _)
      next => exact q2.elim
    next => exact q2.elim
  next => exact q2.elim
theorem e3_din {a b : Expr} {ta tb : E3} {pos : Pos} (hu : X.A.units + 64 < cLine) (ha : PE3 X a ta) (hb : PE3 X b tb) (hm : behindInMarks .In b = false := by first | exact nomark _ | with_unfolding_all rfl) : PE3 X (.Compare a [.In] [b] pos) (tO dinR ta tb) :=
  ⟨PE.weak (pe_cmp (pc_din (by omega) ha.pe hb.pe) hm) fun σ H Q q => din_lift ha.mono hb.mono q, MonoE.op dinR_mono ha.mono hb.mono⟩
theorem b3_din {a b : Expr} {ta tb : E3} {pos : Pos} (hu : X.A.units + 64 < cLine) (ha : PE3 X a ta) (hb : PE3 X b tb) (hm : behindInMarks .In b = false := by first | exact nomark _ | with_unfolding_all rfl) : PB3 X (.Compare a [.In] [b] pos) (tT (tO dinR ta tb)) := by
  have mo : MonoE (tO dinR ta tb) := MonoE.op dinR_mono ha.mono hb.mono
  exact ⟨PT.weak (pt_cmp (pc_din (by omega) ha.pe hb.pe) hm) fun σ H Q q => din_lift ha.mono hb.mono (tT_lift mo q), MonoB.tT mo⟩
/-- d[k] = v -/
def cDPut (td ti tv : E3) : C3 := fun D ρ h => tv ρ h fun v h1 => td ρ h1 fun x h2 => ti ρ h2 fun y h3 => match x with
  | .ref n => match h3[n]? with
    | some (.dK kvs) => match keyD y with
      | some k => kvs.length < 16777216 ∧ D.nx ρ (h3.set n (.dK (putD kvs k v)))
      | none => False
    | _ => False
  | _ => False
theorem c3_dput {o i value : Expr} {td ti tv : E3} {pos pos' : Pos} (hu : X.A.units + 64 < cLine) (ho : PE3 X o td) (hi : PE3 X i ti) (hv : PE3 X value tv) (hs : swapsWith value (some (.Subscript o i pos')) pos.line X.env = pure false := by rfl) :
    PC3 X (.Assign [.Subscript o i pos'] value pos) (cDPut td ti tv) := by
  refine ⟨PS.weak (ps_dput (by omega) ho.pe hi.pe hv.pe hs) fun D σ H ⟨m, h, ρ, R, S, q⟩ => ?_, fun D D' ρ h w q => hv.mono _ _ _ _ (fun v h1 q1 => ho.mono _ _ _ _ (fun x h2 q2 => hi.mono _ _ _ _ (fun y h3 q3 => ?_) q2) q1) q⟩
  · refine LE.bind hv.mono R S q fun m1 H1 v d h1 s1 R1 rd S1 q1 => ?_
    refine LE.bind ho.mono R1 S1 q1 fun m2 H2 u x h2 s2 R2 rx S2 q2 => ?_
    refine LE.bind hi.mono R2 S2 q2 fun m3 H3 w y h3 s3 R3 ry S3 q3 => ?_
    split at q3
    next n =>
      split at q3
      next kvs e =>
        split at q3
        next k ek =>
          obtain ⟨a, vs, rfl, em, ea, rk⟩ := R3.dk (rx.step R2 s3) e
          have hm : a ∈ m3 := List.mem_of_getElem? em
          have rd3 := (rd.step R1 s2).step R2 s3
          have rp := (rk.put k rd3).step R3 (Step.put (o := .dK (putK vs k v)) hm)
          refine ⟨a, _, rfl, by rw [keyD_rel ry ek]; exact DPut.k ea (by rw [rk.len, sizeLine_eq]; exact q3.1), ?_⟩
          exact q3.2 m3 _ σ (((s1.trans s2).trans s3).trans (Step.put hm)) (R3.put em ⟨_, upd_same, rp.keys, rp.vals⟩) (S3.step R3 (Step.put hm))
        next => exact q3.elim
      next => exact q3.elim
    next => exact q3.elim
  · split at q3
    · split at q3
      · split at q3
        · exact ⟨q3.1, w.nx _ _ q3.2⟩
        · exact q3.elim
      · exact q3.elim
    · exact q3.elim
end
end F3
set_option maxHeartbeats 1000000
/-! FX: dicts of any keys: reading, .get, keys that are tuples, walking over the keys (the dict is shut meanwhile). -/
namespace F3
open PySem PySem.Spec PyProof.Rows L2
def keysD : List D → Option (List Key)
  | [] => some []
  | d :: ds => match keyD d with
    | some k => (keysD ds).map (k :: ·)
    | none => none
def keyT : D → Option (List Key)
  | .tup xs => keysD xs
  | _ => none
def kD : Key → D
  | .inl i => .int i
  | .inr x => .str x
theorem keyD_kD (k : Key) : keyD (kD k) = some k := by cases k <;> rfl
theorem keysD_kD : ∀ ks : List Key, keysD (ks.map kD) = some ks
  | [] => rfl
  | k :: ks => by simp [keysD, keyD_kD, keysD_kD ks]
theorem keysD_int : ∀ ns : List Int, keysD (ns.map D.int) = some (ns.map Sum.inl)
  | [] => rfl
  | n :: ns => by
    have := keysD_int ns
    simp [keysD, keyD, this]
theorem keysD_rel {K : PySem.W.Frag} {m : List Addr} {H : Hp} : ∀ {ds : List D} {vs : List V} {ks : List Key}, RelDs K m H ds vs → keysD ds = some ks → vs = ks.map kV
  | [], _, _, .nil, e => by cases e; rfl
  | d :: ds, _, _, .cons r t, e => by
    simp only [keysD] at e
    split at e
    next k ek =>
      obtain ⟨ks, e1, rfl⟩ := Option.map_eq_some_iff.mp e
      rw [keyD_rel r ek, keysD_rel t e1]
      rfl
    next => cases e
theorem keyT_rel {K : PySem.W.Frag} {m : List Addr} {H : Hp} {d : D} {v : V} {ks : List Key} (r : RelD K m H d v) (e : keyT d = some ks) : ∃ b, v = .ref b ∧ H b = some (.tup (ks.map kV)) := by
  cases r with
  | tup sq r => exact ⟨_, rfl, by rw [← keysD_rel r e]; exact sq⟩
  | _ => simp [keyT] at e
theorem rel_kD {K : PySem.W.Frag} {m : List Addr} {H : Hp} : ∀ k : Key, RelD K m H (kD k) (kV k)
  | .inl i => .int i
  | .inr x => .str x
theorem rel_kDs {K : PySem.W.Frag} {m : List Addr} {H : Hp} : ∀ ks : List Key, RelDs K m H (ks.map kD) (ks.map kV)
  | [] => .nil
  | k :: ks => .cons (rel_kD k) (rel_kDs ks)
/-- what a dict's cell tells of a key -/
def dvC (c : Option Cell) (y : D) : Option (Option D) := match c with
  | some (.dK kvs) => (keyD y).map (valD kvs)
  | some (.zK _ _ kvs) => (keyD y).map (valD kvs)
  | some (.dT kvs) => (keyT y).map (valD kvs)
  | some (.zT _ _ kvs) => (keyT y).map (valD kvs)
  | _ => none
def isDC (c : Option Cell) : Bool := match c with
  | some (.dK _) => true
  | some (.zK _ _ _) => true
  | some (.dT _) => true
  | some (.zT _ _ _) => true
  | _ => false
inductive RelO (K : PySem.W.Frag) (m : List Addr) (H : Hp) : Option D → Option V → Prop
  | no : RelO K m H none none
  | so {d : D} {v : V} : RelD K m H d v → RelO K m H (some d) (some v)
theorem RelK.relO {κ : Type} [DecidableEq κ] {K : PySem.W.Frag} {m : List Addr} {H : Hp} {kvs : List (κ × D)} {vs : List (κ × V)} (r : RelK K m H kvs vs) (k : κ) : RelO K m H (valD kvs k) (valV vs k) := by
  rcases r.val k with ⟨z1, z2⟩ | ⟨d, v, e1, e2, rd⟩
  · rw [z1, z2]; exact .no
  · rw [e1, e2]; exact .so rd
theorem RelO.getD {K : PySem.W.Frag} {m : List Addr} {H : Hp} {o : Option D} {ov : Option V} (r : RelO K m H o ov) {d : D} {v : V} (q : RelD K m H d v) : RelD K m H (o.getD d) (ov.getD v) := by
  cases r with
  | no => exact q
  | so r => exact r
theorem RelO.isSome {K : PySem.W.Frag} {m : List Addr} {H : Hp} {o : Option D} {ov : Option V} (r : RelO K m H o ov) : ov.isSome = o.isSome := by
  cases r <;> rfl
theorem isDC_lift {K : PySem.W.Frag} {m : List Addr} {h : Sto} {H : Hp} {n : Nat} {a : Addr} (R : Rep K m h H) (em : m[n]? = some a) (e : isDC h[n]? = true) : IsD H a := by
  unfold isDC at e
  split at e
  next e2 => obtain ⟨vs, q, _⟩ := R.at_ _ _ _ em e2; exact .inl ⟨vs, .inl q⟩
  next o vs kvs e2 => obtain ⟨q, _⟩ := R.at_ _ _ _ em e2; exact .inl ⟨vs, .inr ⟨o, q⟩⟩
  next e2 => obtain ⟨vs, q, _⟩ := R.at_ _ _ _ em e2; exact .inr ⟨vs, .inl q⟩
  next o vs kvs e2 => obtain ⟨q, _⟩ := R.at_ _ _ _ em e2; exact .inr ⟨vs, .inr ⟨o, q⟩⟩
  next => cases e
theorem dvC_lift {K : PySem.W.Frag} {m : List Addr} {h : Sto} {H : Hp} {n : Nat} {a : Addr} {y : D} {u : V} {o : Option D} (R : Rep K m h H) (em : m[n]? = some a) (ry : RelD K m H y u) (e : dvC h[n]? y = some o) : ∃ ov, DGet H a u ov ∧ RelO K m H o ov := by
  unfold dvC at e
  split at e
  next kvs e2 =>
    obtain ⟨k, ek, rfl⟩ := Option.map_eq_some_iff.mp e
    obtain ⟨vs, q, k1, r⟩ := R.at_ _ _ _ em e2
    exact ⟨valV vs k, .inl ⟨vs, k, .inl q, keyD_rel ry ek, rfl⟩, RelK.relO ⟨k1, r⟩ k⟩
  next ob vs kvs e2 =>
    obtain ⟨k, ek, rfl⟩ := Option.map_eq_some_iff.mp e
    obtain ⟨q, k1, r⟩ := R.at_ _ _ _ em e2
    exact ⟨valV vs k, .inl ⟨vs, k, .inr ⟨ob, q⟩, keyD_rel ry ek, rfl⟩, RelK.relO ⟨k1, r⟩ k⟩
  next kvs e2 =>
    obtain ⟨k, ek, rfl⟩ := Option.map_eq_some_iff.mp e
    obtain ⟨vs, q, k1, r⟩ := R.at_ _ _ _ em e2
    obtain ⟨b, e3, e4⟩ := keyT_rel ry ek
    exact ⟨valV vs k, .inr ⟨vs, k, b, .inl q, e3, e4, rfl⟩, RelK.relO ⟨k1, r⟩ k⟩
  next ob vs kvs e2 =>
    obtain ⟨k, ek, rfl⟩ := Option.map_eq_some_iff.mp e
    obtain ⟨q, k1, r⟩ := R.at_ _ _ _ em e2
    obtain ⟨b, e3, e4⟩ := keyT_rel ry ek
    exact ⟨valV vs k, .inr ⟨vs, k, b, .inr ⟨ob, q⟩, e3, e4, rfl⟩, RelK.relO ⟨k1, r⟩ k⟩
  next => cases e
section
variable {X : Cx}
/-- {} of tuple keys -/
def tDNewT3 : E3 := fun _ h Q => Q (.ref h.length) (h ++ [.dT []])
theorem e3_dnewT {pos : Pos} : PE3 X (.Dict [] [] pos) tDNewT3 := by
  refine ⟨PE.weak pe_dnewT fun σ H Q ⟨m, h, ρ, R, S, q⟩ p hp => ?_, fun ρ h Q Q' w q => w _ _ q⟩
  exact q (m ++ [p]) _ (.ref p) (Step.cell hp) (R.snoc hp ⟨[], upd_same, rfl, .nil⟩) (.ref (by rw [← R.len]; simp))
/-- d[k] -/
def dgA : R3 := fun x y h Q => match x with
  | .ref n => match dvC h[n]? y with
    | some (some d) => Q d h
    | _ => False
  | _ => False
theorem dgA_mono : ∀ x y h (Q Q' : DK), (∀ d h', Q d h' → Q' d h') → dgA x y h Q → dgA x y h Q' := fun x y h Q Q' w q => by
  unfold dgA at q ⊢
  split at q
  · split at q
    · exact w _ _ q
    · exact q.elim
  · exact q.elim
theorem e3_dgetA {a b : Expr} {ta tb : E3} {pos : Pos} (hu : X.A.units + 64 < cLine) (ha : PE3 X a ta) (hb : PE3 X b tb) (hs : NoSl b := by intro _ _; rfl) : PE3 X (.Subscript a b pos) (tO dgA ta tb) := by
  refine ⟨PE.weak (pe_dget (by omega) ha.pe hb.pe hs) fun σ H Q ⟨m, h, ρ, R, S, q⟩ => ?_, MonoE.op dgA_mono ha.mono hb.mono⟩
  refine LE.bind ha.mono R S q fun m1 H1 v x h1 s1 R1 rx S1 q1 => ?_
  refine LE.bind hb.mono R1 S1 q1 fun m2 H2 u y h2 s2 R2 ry S2 q2 => ?_
  unfold dgA at q2
  split at q2
  next n =>
    split at q2
    next d ed =>
      cases rx with
      | ref em =>
        obtain ⟨ov, g, ro⟩ := dvC_lift R2 (s2.get em) ry ed
        cases ro with
        | so rd => exact ⟨_, _, rfl, g, q2 m2 H2 _ (s1.trans s2) R2 rd⟩
    next => exact q2.elim
  next => exact q2.elim
/-- d.get(k, x) -/
def tDG2 (td ty tx : E3) : E3 := fun ρ h Q => td ρ h fun x h1 => match x with
  | .ref n => isDC h1[n]? = true ∧ ty ρ h1 fun y h2 => tx ρ h2 fun z h3 => match dvC h3[n]? y with
    | some o => Q (o.getD z) h3
    | none => False
  | _ => False
theorem e3_dget2 {o e f : Expr} {apos cpos : Pos} {td ty tx : E3} (hu : X.A.units + 64 < cLine) (ho : PE3 X o td) (he : PE3 X e ty) (hf : PE3 X f tx) (mm : M2 X o "get" apos e f cpos) : PE3 X (.Call (.Attribute o "get" apos) [e, f] [] cpos) (tDG2 td ty tx) := by
  refine ⟨PE.weak (pe_dget2 (by omega) ho.pe he.pe hf.pe mm) fun σ H Q ⟨m, h, ρ, R, S, q⟩ => ?_, fun ρ h Q Q' w q => ho.mono _ _ _ _ (fun x h1 q1 => ?_) q⟩
  · refine LE.bind ho.mono R S q fun m1 H1 v x h1 s1 R1 rx S1 q1 => ?_
    split at q1
    next n =>
      obtain ⟨hd, q1⟩ := q1
      cases rx with
      | ref em =>
        refine ⟨_, rfl, isDC_lift R1 em hd, ?_⟩
        refine LE.bind he.mono R1 S1 q1 fun m2 H2 u y h2 s2 R2 ry S2 q2 => ?_
        refine LE.bind hf.mono R2 S2 q2 fun m3 H3 w z h3 s3 R3 rz S3 q3 => ?_
        split at q3
        next oo eo =>
          obtain ⟨ov, g, ro⟩ := dvC_lift R3 (s3.get (s2.get em)) (ry.step R2 s3) eo
          exact ⟨ov, g, q3 m3 H3 _ ((s1.trans s2).trans s3) R3 (ro.getD rz)⟩
        next => exact q3.elim
    next => exact q1.elim
  · split at q1
    · refine ⟨q1.1, he.mono _ _ _ _ (fun y h2 q2 => hf.mono _ _ _ _ (fun z h3 q3 => ?_) q2) q1.2⟩
      split at q3
      · exact w _ _ q3
      · exact q3.elim
    · exact q1.elim
/-- d[k] = v, of tuple keys -/
def cDPutT (td ti tv : E3) : C3 := fun D ρ h => tv ρ h fun v h1 => td ρ h1 fun x h2 => ti ρ h2 fun y h3 => match x with
  | .ref n => match h3[n]? with
    | some (.dT kvs) => match keyT y with
      | some k => kvs.length < 16777216 ∧ D.nx ρ (h3.set n (.dT (putD kvs k v)))
      | none => False
    | _ => False
  | _ => False
theorem c3_dputT {o i value : Expr} {td ti tv : E3} {pos pos' : Pos} (hu : X.A.units + 64 < cLine) (ho : PE3 X o td) (hi : PE3 X i ti) (hv : PE3 X value tv) (hs : swapsWith value (some (.Subscript o i pos')) pos.line X.env = pure false := by rfl) :
    PC3 X (.Assign [.Subscript o i pos'] value pos) (cDPutT td ti tv) := by
  refine ⟨PS.weak (ps_dput (by omega) ho.pe hi.pe hv.pe hs) fun D σ H ⟨m, h, ρ, R, S, q⟩ => ?_, fun D D' ρ h w q => hv.mono _ _ _ _ (fun v h1 q1 => ho.mono _ _ _ _ (fun x h2 q2 => hi.mono _ _ _ _ (fun y h3 q3 => ?_) q2) q1) q⟩
  · refine LE.bind hv.mono R S q fun m1 H1 v d h1 s1 R1 rd S1 q1 => ?_
    refine LE.bind ho.mono R1 S1 q1 fun m2 H2 u x h2 s2 R2 rx S2 q2 => ?_
    refine LE.bind hi.mono R2 S2 q2 fun m3 H3 w y h3 s3 R3 ry S3 q3 => ?_
    split at q3
    next n =>
      split at q3
      next kvs e =>
        split at q3
        next k ek =>
          cases rx with
          | @ref _ a em0 =>
            have em := s3.get em0
            obtain ⟨vs, ea, k1, r⟩ := R3.at_ _ _ _ em e
            have rk : RelK X.K m3 H3 kvs vs := ⟨k1, r⟩
            have hm : a ∈ m3 := List.mem_of_getElem? em
            have rd3 := (rd.step R1 s2).step R2 s3
            have rp := (rk.put k rd3).step R3 (Step.put (o := .dT (putK vs k v)) hm)
            obtain ⟨b, e3, e4⟩ := keyT_rel ry ek
            refine ⟨a, _, rfl, by rw [e3]; exact DPut.t ea e4 (by rw [rk.len, sizeLine_eq]; exact q3.1), ?_⟩
            exact q3.2 m3 _ σ (((s1.trans s2).trans s3).trans (Step.put hm)) (R3.put em ⟨_, upd_same, rp.keys, rp.vals⟩) (S3.step R3 (Step.put hm))
        next => exact q3.elim
      next => exact q3.elim
    next => exact q3.elim
  · split at q3
    · split at q3
      · split at q3
        · exact ⟨q3.1, w.nx _ _ q3.2⟩
        · exact q3.elim
      · exact q3.elim
    · exact q3.elim
/-- for k in d: the keys, while the dict is shut -/
def iKeys3 (t : E3) : I3 := fun ρ h Q => t ρ h fun x h1 => match x with
  | .ref n => match h1[n]? with
    | some (.zT o ws kvs) => Q (kvs.map fun kv => .tup (kv.1.map kD)) (fun h' => h'[n]? = some (.zT o ws kvs)) h1
    | some (.zK o ws kvs) => Q (kvs.map fun kv => kD kv.1) (fun h' => h'[n]? = some (.zK o ws kvs)) h1
    | _ => False
  | _ => False
theorem keys_at {κ : Type} {kvs : List (κ × D)} {ws : List (κ × V)} (k1 : ws.map (·.1) = kvs.map (·.1)) {i : Nat} {p : κ × D} (e : kvs[i]? = some p) {q : κ × V} (e2 : ws[i]? = some q) : q.1 = p.1 := by
  have := congrArg (·[i]?) k1
  simp only [List.getElem?_map, e, e2, Option.map_some, Option.some.injEq] at this
  exact this
theorem serves_keysT {K : PySem.W.Frag} {m : List Addr} {H : Hp} {n : Nat} {a : Addr} {o : Obj} {ws : List (List Key × V)} {kvs : List (List Key × D)} (em : m[n]? = some a) :
    Serves K (Itkt a o ws) (kvs.map fun kv => .tup (kv.1.map kD)) (fun h' => h'[n]? = some (.zT o ws kvs)) m H := by
  refine ⟨fun m1 H1 h1 s1 R1 st i x hx => ?_, fun m1 H1 h1 s1 R1 st i hi => ?_⟩
  · obtain ⟨q, k1, r⟩ := R1.at_ n a _ (s1.get em) st
    rw [List.getElem?_map] at hx
    obtain ⟨p, ep, rfl⟩ := Option.map_eq_some_iff.mp hx
    have hl : ws.length = kvs.length := by simpa using congrArg List.length k1
    have hi : i < kvs.length := (List.getElem?_eq_some_iff.mp ep).1
    refine ⟨⟨q, by omega⟩, fun v' H' ⟨e, k, v, b, e1, e2, e3⟩ => ?_⟩
    subst e; subst e2
    have := keys_at k1 ep e1
    refine ⟨.refl, R1, .tup e3 ?_⟩
    rw [← this]
    exact rel_kDs k
  · obtain ⟨q, k1, r⟩ := R1.at_ n a _ (s1.get em) st
    have hl : ws.length = kvs.length := by simpa using congrArg List.length k1
    rw [List.length_map] at hi
    exact ⟨q, by omega⟩
theorem serves_keysK {K : PySem.W.Frag} {m : List Addr} {H : Hp} {n : Nat} {a : Addr} {o : Obj} {ws : List (Key × V)} {kvs : List (Key × D)} (em : m[n]? = some a) :
    Serves K (Itk a o ws) (kvs.map fun kv => kD kv.1) (fun h' => h'[n]? = some (.zK o ws kvs)) m H := by
  refine ⟨fun m1 H1 h1 s1 R1 st i x hx => ?_, fun m1 H1 h1 s1 R1 st i hi => ?_⟩
  · obtain ⟨q, k1, r⟩ := R1.at_ n a _ (s1.get em) st
    rw [List.getElem?_map] at hx
    obtain ⟨p, ep, rfl⟩ := Option.map_eq_some_iff.mp hx
    have hl : ws.length = kvs.length := by simpa using congrArg List.length k1
    have hi : i < kvs.length := (List.getElem?_eq_some_iff.mp ep).1
    refine ⟨⟨q, by omega⟩, fun v' H' ⟨e, k, v, e1, e2⟩ => ?_⟩
    subst e; subst e2
    have := keys_at k1 ep e1
    refine ⟨.refl, R1, ?_⟩
    rw [← this]
    exact rel_kD k
  · obtain ⟨q, k1, r⟩ := R1.at_ n a _ (s1.get em) st
    have hl : ws.length = kvs.length := by simpa using congrArg List.length k1
    rw [List.length_map] at hi
    exact ⟨q, by omega⟩
theorem i3_keys {tg l : Expr} {t : E3} (hl : PE3 X l t) : PI3 X tg l (iKeys3 t) := by
  refine ⟨PI.weak (pi_keys hl.pe) fun σ H Q ⟨m, h, ρ, R, S, q⟩ => ?_, fun ρ h Q Q' w q => hl.mono _ _ _ _ (fun x h1 q1 => ?_) q⟩
  · refine LE.bind hl.mono R S q fun m1 H1 v x h1 s1 R1 rx S1 q1 => ?_
    split at q1
    next n =>
      cases rx with
      | @ref _ a em =>
        split at q1
        next o ws kvs e =>
          obtain ⟨q, _⟩ := R1.at_ _ _ _ em e
          exact ⟨a, o, rfl, .inr ⟨ws, q, q1 m1 H1 _ s1 R1 (serves_keysT em)⟩⟩
        next o ws kvs e =>
          obtain ⟨q, _⟩ := R1.at_ _ _ _ em e
          exact ⟨a, o, rfl, .inl ⟨ws, q, q1 m1 H1 _ s1 R1 (serves_keysK em)⟩⟩
        next => exact q1.elim
    next => exact q1.elim
  · split at q1
    · split at q1
      · exact w _ _ _ q1
      · exact w _ _ _ q1
      · exact q1.elim
    · exact q1.elim
/-- shut the dict that the local name i holds while the expression runs -/
def lkX (i : Nat) (t : A3) : A3 := fun ρ h Q => match ρ[i]? with
  | some (some (.ref n)) => match h[n]? with
    | some (.dT kvs) => ∀ o ws, t ρ (h.set n (.zT o ws kvs)) fun xs h' => h'[n]? = some (.zT o ws kvs) ∧ Q xs (h'.set n (.dT kvs))
    | some (.dK kvs) => ∀ o ws, t ρ (h.set n (.zK o ws kvs)) fun xs h' => h'[n]? = some (.zK o ws kvs) ∧ Q xs (h'.set n (.dK kvs))
    | _ => False
  | _ => False
theorem x3_lock {e : Expr} {t : A3} (i : Nat) (hx : PX3 X e t) : PX3 X e (lkX i t) := by
  refine ⟨PE.weak (pe_lock hx.pe) fun σ H Q ⟨m, h, ρ, R, S, q⟩ => ?_, fun ρ h Q Q' w q => ?_⟩
  · unfold lkX at q
    split at q
    next n en =>
      obtain ⟨v, ev, rv⟩ := S.2 _ _ en
      cases rv with
      | @ref _ a em =>
        have hm : a ∈ m := List.mem_of_getElem? em
        split at q
        next kvs e =>
          obtain ⟨ws, ea, k1, r⟩ := R.at_ _ _ _ em e
          refine ⟨a, .dT ws, ea, trivial, fun od => ?_⟩
          have sp := Step.put (m := m) (H := H) (o := .frz od (.dT ws)) hm
          refine ⟨m, h.set n (.zT od ws kvs), ρ, R.put em ⟨upd_same, k1, r.step R sp⟩, S.step R sp, hx.mono _ _ _ _ (fun xs h' q1 m' H' p vs s' R' ep np npm rx => ?_) (q od ws)⟩
          obtain ⟨e1, q2⟩ := q1
          have em' := s'.get em
          have hm' : a ∈ m' := List.mem_of_getElem? em'
          obtain ⟨ea', k1', r'⟩ := R'.at_ _ _ _ em' e1
          have sp' := Step.put (m := m') (H := H') (o := .dT ws) hm'
          have nap : p ≠ a := fun z => npm (z ▸ hm')
          refine ⟨ea', q2 m' _ p vs (sp.trans (s'.trans sp')) (R'.put em' ⟨ws, upd_same, k1', r'.step R' sp'⟩) (by rw [upd_ne nap]; exact ep) ?_ npm (rx.step R' sp')⟩
          rw [upd_ne nap] at np; exact np
        next kvs e =>
          obtain ⟨ws, ea, k1, r⟩ := R.at_ _ _ _ em e
          refine ⟨a, .dK ws, ea, trivial, fun od => ?_⟩
          have sp := Step.put (m := m) (H := H) (o := .frz od (.dK ws)) hm
          refine ⟨m, h.set n (.zK od ws kvs), ρ, R.put em ⟨upd_same, k1, r.step R sp⟩, S.step R sp, hx.mono _ _ _ _ (fun xs h' q1 m' H' p vs s' R' ep np npm rx => ?_) (q od ws)⟩
          obtain ⟨e1, q2⟩ := q1
          have em' := s'.get em
          have hm' : a ∈ m' := List.mem_of_getElem? em'
          obtain ⟨ea', k1', r'⟩ := R'.at_ _ _ _ em' e1
          have sp' := Step.put (m := m') (H := H') (o := .dK ws) hm'
          have nap : p ≠ a := fun z => npm (z ▸ hm')
          refine ⟨ea', q2 m' _ p vs (sp.trans (s'.trans sp')) (R'.put em' ⟨ws, upd_same, k1', r'.step R' sp'⟩) (by rw [upd_ne nap]; exact ep) ?_ npm (rx.step R' sp')⟩
          rw [upd_ne nap] at np; exact np
        next => exact q.elim
    next => exact q.elim
  · unfold lkX at q ⊢
    split at q
    · split at q
      · exact fun o ws => hx.mono _ _ _ _ (fun xs h' q1 => ⟨q1.1, w _ _ q1.2⟩) (q o ws)
      · exact fun o ws => hx.mono _ _ _ _ (fun xs h' q1 => ⟨q1.1, w _ _ q1.2⟩) (q o ws)
      · exact q.elim
    · exact q.elim
end
end F3
set_option maxHeartbeats 1000000
/-! FY: sorted(set(tuples of ints)), of any length and sign. -/
namespace F3
open PySem PySem.Spec PyProof.Rows L2
theorem dataLe_tups {β : Type} (x : β → List Int) : PySem.W.dataLe false (fun b => PyData.tuple ((x b).map .int)) = fun p q => decide (x p ≤ x q) := by
  funext p q
  have e : PySem.W.dataLe false (fun b => PyData.tuple ((x b).map .int)) p q = (!PySem.W.dataLt (.tuple ((x q).map .int)) (.tuple ((x p).map .int))) := rfl
  rw [e, PySem.W.dataLt_tuple]
  show (!PySem.W.rowLt ((x q).map .int) ((x p).map .int)) = _
  rw [PySem.W.dataLt_ints]
  by_cases h : x q < x p
  · have h' : ¬ x p ≤ x q := fun r => List.not_lt.mpr r h
    simp [h, h']
  · have h' : x p ≤ x q := List.not_lt.mp h
    simp [h, h']
theorem reads_ints {h : Heap} : ∀ {vs : List Value} {ns : List Int}, IntsAre vs ns → ReadsAll h vs (ns.map .int) []
  | _, _, .nil => .nil
  | _, _, .cons n t r => by
    have := ReadsAll.cons (Reads.int (h := h) n t) (reads_ints r)
    simpa using this
theorem tup_reads {h : Heap} {v : Value} {ns : List Int} (x : TS.TupInts h v ns) : Reads h v (.tuple (ns.map .int)) [] := by
  obtain ⟨b, items, rfl, ⟨o, ho, hc, n, hd⟩, hi⟩ := x
  exact .tuple ho hc hd (reads_ints hi)
theorem each_refs : ∀ L : List (Addr × List Int), PySem.W.EachIs (fun v (q : Addr × List Int) => v = Value.ref q.1) (L.map fun q => Value.ref q.1) L
  | [] => .nil
  | q :: L => .cons rfl (each_refs L)
theorem refs_each : ∀ {vs : List Value} {L : List (Addr × List Int)}, PySem.W.EachIs (fun v (q : Addr × List Int) => v = Value.ref q.1) vs L → vs = L.map fun q => Value.ref q.1
  | _, _, .nil => rfl
  | _, _, .cons a b => by rw [a, refs_each b]; rfl
section
variable {P : Program} {w : World} {A : Around} {E : Value → Shared → Prop} {s : Shared}
theorem sorted_setD {a : Addr} {L : List (Addr × List Int)} {es : Array (Int × Value)} {ep : Nat} {t : SetTable} {Q : Value → Shared → Prop} (R : SetTR P w s.heap a L es ep t) (hh : A.handled = none) (hu : A.units + 64 < cLine)
    (hB : ∀ p ∈ L, p.2 ≠ [])
    (hQ : ∀ s' p (out : Array Value) (c : Nat) (L' : List (Addr × List Int)), (∀ b o, s.heap.get? b = some o → s'.heap.get? b = some o) → s'.gens = s.gens → s'.os = s.os → s.heap.objs.size ≤ p →
      s'.heap.get? p = some (seqObj "list" out c) → out.toList = L'.map (fun q => Value.ref q.1) → L'.Perm L → L'.Pairwise (fun q r => q.2 ≤ r.2) → Q (.ref p) s') :
    wpAny (model P w) A (call (.builtin "sorted") [.ref a]) Q E s := by
  obtain ⟨o, ho, hex, hd⟩ := R.ob
  have hsz := R.size
  have hfew := R.few
  refine Calls.call_function_entry kind_sorted plain_sorted entry_sorted (args_sorted1 _) ?_
  unfold Builtin.«sorted»
  refine wpAny_bind (m := checkCount "sorted" 1 1 _) (wpAny_pure ?_)
  refine wpAny_bind (collect_set (A := A.in1) hh ⟨o, ho, hex.1, hd⟩ R.fits (by unfold scanBound; omega) R.tab.ris R.led fun s1 vs k1 hz g1 o1 pm => ?_)
  have hes : es.toList.map (·.2) = L.map fun q => Value.ref q.1 := by
    rw [R.rows]
    unfold rowsOf
    rw [List.map_map] <;> rfl
  rw [hes] at pm
  have ord : ∀ vs : List Value, (∀ v ∈ vs, ∃ q ∈ L, v = Value.ref q.1) → ∃ L1 : List (Addr × List Int), vs = L1.map (fun q => Value.ref q.1) ∧ ∀ q ∈ L1, q ∈ L := by
    intro vs
    induction vs with
    | nil => intro _; exact ⟨[], rfl, fun q hq => (by cases hq)⟩
    | cons v vs ih =>
      intro hv
      obtain ⟨q, hq, e⟩ := hv v List.mem_cons_self
      obtain ⟨L1, e1, hs⟩ := ih fun u hu => hv u (List.mem_cons_of_mem _ hu)
      refine ⟨q :: L1, by rw [List.map_cons, e, e1], fun r hr => ?_⟩
      rcases List.mem_cons.mp hr with z | z
      · rw [z]; exact hq
      · exact hs r z
  have one : ∀ q ∈ L, ∀ r ∈ L, q.1 = r.1 → q = r := fun q hq r hr e => by
    have a1 := R.tup q hq
    have a2 := R.tup r hr
    rw [e] at a1
    have e2 : q.2 = r.2 := a1.inj a2
    exact Prod.ext e e2
  have perm_of : ∀ L1 : List (Addr × List Int), (∀ q ∈ L1, q ∈ L) → (L1.map (fun q => Value.ref q.1)).Perm (L.map fun q => Value.ref q.1) → L1.Perm L := by
    intro L1 hs pm1
    have nL : L.Nodup := nodup_of_map R.nd
    have nref : (L.map fun q => Value.ref q.1).Nodup := by
      refine List.pairwise_map.mpr (List.Pairwise.imp_of_mem (fun {q r} hq hr hne e => ?_) nL)
      injection e with e
      exact hne (one q hq r hr e)
    have n1 : L1.Nodup := nodup_of_map (pm1.nodup_iff.mpr nref)
    refine (List.perm_ext_iff_of_nodup n1 nL).mpr fun q => ⟨hs q, fun hq => ?_⟩
    have hm : Value.ref q.1 ∈ L1.map (fun q => Value.ref q.1) := pm1.mem_iff.mpr (List.mem_map.mpr ⟨q, hq, rfl⟩)
    obtain ⟨r, hr, e⟩ := List.mem_map.mp hm
    injection e with e
    rw [← one r (hs r hr) q hq e]
    exact hr
  have hvl : vs.length < 64 := by rw [pm.length_eq, List.length_map]; exact hfew
  refine wpAny_bind (wpAny_newList ?_ (by rw [sizeLine_eq]; omega))
  have hoL : (s1.heap.push (seqObj "list" vs.toArray 0)).get? s1.heap.objs.size = some (seqObj "list" vs.toArray 0) := Heap.get?_push_size _ rfl
  have tk : ∀ q ∈ L, TS.TupInts (s1.heap.push (seqObj "list" vs.toArray 0)) (.ref q.1) q.2 := fun q hq => tupInts_of (P := P) (w := w) (isT_keep (R.tup q hq) fun b u e => Heap.get?_push_of_some _ (k1 b u e))
  obtain ⟨L1, e1, hs1⟩ := ord vs fun v hv => by
    obtain ⟨q, hq, e⟩ := List.mem_map.mp (pm.mem_iff.mp hv)
    exact ⟨q, hq, e.symm⟩
  have p1 : L1.Perm L := perm_of L1 hs1 (by rw [← e1]; exact pm)
  have l1 : L1.length < 64 := by rw [p1.length_eq]; exact hfew
  have er : PySem.W.EachIs (fun v (q : Addr × List Int) => ∃ as, Reads (s1.heap.push (seqObj "list" vs.toArray 0)) v (.tuple (q.2.map .int)) as ∧ s1.heap.objs.size ∉ as) vs L1 := by
    rw [e1]
    refine each_and (each_refs L1) fun u q hq e => ?_
    subst e
    rw [← e1]
    exact ⟨[], tup_reads (tk q (hs1 q hq)), by simp⟩
  have ev : PySem.W.EachIs (fun v (q : Addr × List Int) => v = Value.ref q.1) vs L1 := by rw [e1]; exact each_refs L1
  have al : PySem.W.AllAlike (L1.map fun q => PyData.tuple (q.2.map .int)) := by
    refine PySem.W.AllAlike.of fun q q' => ?_
    simpa [PySem.W.alike] using PySem.W.alike_ints q.2 q'.2
  have so : PySem.W.Sortable (L1.map fun q => PyData.tuple (q.2.map .int)) := .inl fun d hd => by
    obtain ⟨q, hq, rfl⟩ := List.mem_map.mp hd
    have := hB q (hs1 q hq)
    cases e : q.2 with
    | nil => exact absurd e this
    | cons x r => exact ⟨_, _, rfl⟩
  refine wpAny_bind (wpAny_holding (PySem.W.list_sort_data (s := { s1 with heap := s1.heap.push (seqObj "list" vs.toArray 0) }) hoL ev er al so (by rw [sizeLine_eq]; omega) (fun q hq => ?_) fun out a1 a2 => ?_))
  · have : (PyData.tuple (q.2.map .int)).depth ≤ 1 := by
      simp [PyData.depth, PySem.W.depth_ints]
    show A.in1.units + 1 + _ < cLine
    have e : A.in1.units = A.units + 1 := rfl
    omega
  rw [dataLe_tups] at a2
  obtain ⟨c, hc⟩ := sortedHeap_at (vs := vs) (out := out.toArray) hoL
  have e' := refs_each a2
  have pw : (L1.mergeSort fun p q => decide (p.2 ≤ q.2)).Pairwise (fun q r => q.2 ≤ r.2) := by
    refine (List.pairwise_mergeSort (le := fun p q : Addr × List Int => decide (p.2 ≤ q.2)) (fun x y z h1 h2 => ?_) (fun x y => ?_) L1).imp fun h => by simpa using h
    · simp only [decide_eq_true_eq] at h1 h2 ⊢
      exact List.le_trans h1 h2
    · simp only [Bool.or_eq_true, decide_eq_true_eq]
      exact List.le_total _ _
  refine wpAny_pure ⟨_, rfl, hQ _ s1.heap.objs.size out.toArray c _ (fun b u e => ?_) g1 o1 hz hc (by simpa using e') ((List.mergeSort_perm _ _).trans p1) pw⟩
  have q := k1 b u e
  have hlt := Heap.lt_size q
  show (sortedHeap (s1.heap.push (seqObj "list" vs.toArray 0)) s1.heap.objs.size vs out.toArray).get? b = some u
  rw [sortedHeap_old (Nat.ne_of_lt hlt) (by rw [size_push']; exact Nat.lt_succ_of_lt hlt)]
  exact Heap.get?_push_of_some _ q
end
/-- a list of int tuples -/
def itD (ns : List Int) : D := .tup (ns.map .int)
def itOf : D → Option (List Int)
  | .tup xs => intsOf xs
  | _ => none
def itsOf : List D → Option (List (List Int))
  | [] => some []
  | d :: ds => match itOf d with
    | some ns => (itsOf ds).map (ns :: ·)
    | none => none
theorem itsOf_map : ∀ L : List (List Int), itsOf (L.map itD) = some L
  | [] => rfl
  | ns :: L => by
    have e : itOf (itD ns) = some ns := intsOf_map ns
    simp [itsOf, e, itsOf_map L]
theorem itsOf_eq : ∀ {xs : List D} {L : List (List Int)}, itsOf xs = some L → xs = L.map itD
  | [], _, e => by cases e; rfl
  | d :: ds, _, e => by
    simp only [itsOf] at e
    split at e
    next ns en =>
      obtain ⟨L, e1, rfl⟩ := Option.map_eq_some_iff.mp e
      rw [itsOf_eq e1, List.map_cons]
      congr 1
      cases d <;> simp only [itOf, reduceCtorEq] at en
      rw [intsOf_eq en]
      rfl
    next => cases e
section
variable {X : Cx}
def rSortedTD (K : PySem.W.Frag) (P : Program) (w : World) : List V → Hp → VK → Prop := fun vs H Q => ∃ (a : Addr) (L : List (Addr × List Int)), vs = [V.ref a] ∧ H a = some (SetTO P w a L) ∧ (∀ p ∈ L, SqT K H p.1 (p.2.map V.int)) ∧
  (∀ p ∈ L, p.2 ≠ []) ∧
  ∀ (L' : List (Addr × List Int)) (p : Addr), L'.Perm L → (L'.map (·.2)).Nodup → L'.Pairwise (fun q r => q.2 ≤ r.2) → H p = none → Q (.ref p) (upd H p (.lst (L'.map fun q => V.ref q.1)))
theorem cr_sortedTD (hc : X.calm = true) (hu : X.A.units + 64 < cLine) : CallR X (.builtin "sorted") (rSortedTD X.K X.prog X.w) := by
  intro pins s σ H vs us Q I r h
  obtain ⟨a, L, rfl, ha, hk, hB, q⟩ := h
  have R0 : SetT0 X.prog X.w s.heap a L := (I.hok a _ ha).1
  obtain ⟨es, ep, t, R⟩ := R0.full fun p hp => I.isT (hk p hp)
  rw [Vals.ref1 r]
  refine sorted_setD R (I.ok.hd hc) hu hB fun s' p out c L' k g o hp hg hout pm pw => ?_
  have hfew : L'.length < 64 := by rw [pm.length_eq]; exact R.few
  have hlen : (L'.map fun q => V.ref q.1).length ≤ sizeLine := by rw [List.length_map, sizeLine_eq]; omega
  have hn : H p = none := I.hok.fresh hp
  have hv : Vals (L'.map fun q => V.ref q.1) out.toList := by rw [hout]; exact vals_of_refs L'
  have J : Inv X pins σ (upd H p (.lst (L'.map fun q => V.ref q.1))) { s with heap := s'.heap, gens := s'.gens, drawn := s'.drawn, toks := s'.toks } :=
    I.call (ch := []) (Un.laid k hp hn) (I.hok.laid k hp ⟨hlen, out.toList, c, hv, hg⟩) (by rw [g]; exact I.bare) (fun _ z => nomatch z)
  have e : s' = { s with heap := s'.heap, gens := s'.gens, drawn := s'.drawn, toks := s'.toks } := by
    cases s'
    cases s
    simp only at o
    subst o
    rfl
  rw [e]
  exact ⟨.ref p, _, J, rfl, q L' p pm ((pm.map (·.2)).nodup_iff.mpr R.nd) pw hn⟩
/-- sorted(set(xs)) of int tuples -/
def tSSetT (t : A3) : A3 := fun ρ h Q => t ρ h fun xs h1 => match itsOf xs with
  | some L => L.length < 64 ∧ (∀ p ∈ L, p ≠ []) ∧ ∀ M : List (List Int), M.Pairwise (· < ·) → (∀ p, p ∈ M ↔ p ∈ L) → Q (M.map itD) h1
  | none => False
theorem MonoA.ssetT {t : A3} (mt : MonoA t) : MonoA (tSSetT t) := fun ρ h Q Q' w q => mt _ _ _ _ (fun xs h1 q1 => by
  split at q1
  · exact ⟨q1.1, q1.2.1, fun ms h1 h2 => w _ _ (q1.2.2 ms h1 h2)⟩
  · exact q1) q
theorem rel_its {K : PySem.W.Frag} {m : List Addr} {H : Hp} : ∀ {L : List (List Int)} {vs : List V}, RelDs K m H (L.map itD) vs → ∃ ks : List (Addr × List Int), vs = ks.map (fun p => V.ref p.1) ∧ ks.map (·.2) = L ∧ ∀ p ∈ ks, H p.1 = some (.tup (p.2.map V.int))
  | [], _, .nil => ⟨[], rfl, rfl, fun _ h => nomatch h⟩
  | p :: L, _, .cons (.tup (a := a) sq rr) t => by
    obtain ⟨ks, e1, e2, e3⟩ := rel_its t
    have e4 := RelDs.ints (ns := p) rr
    refine ⟨(a, p) :: ks, by rw [e1]; rfl, by rw [List.map_cons, e2], fun q hq => ?_⟩
    rcases List.mem_cons.mp hq with rfl | hq
    · rw [← e4]; exact sq
    · exact e3 q hq
theorem rel_ints {K : PySem.W.Frag} {m : List Addr} {H : Hp} : ∀ ns : List Int, RelDs K m H (ns.map D.int) (ns.map V.int)
  | [] => .nil
  | n :: ns => .cons (.int n) (rel_ints ns)
theorem rel_itD {K : PySem.W.Frag} {m : List Addr} {H : Hp} : ∀ (L : List (Addr × List Int)), (∀ q ∈ L, H q.1 = some (.tup (q.2.map V.int))) → RelDs K m H ((L.map (·.2)).map itD) (L.map fun q => V.ref q.1)
  | [], _ => .nil
  | q :: L, h => .cons (.tup (h q List.mem_cons_self) (rel_ints q.2)) (rel_itD L fun r hr => h r (List.mem_cons_of_mem _ hr))
theorem ssetT_core {K : PySem.W.Frag} {P : Program} {w : World} {m m1 : List Addr} {H H1 : Hp} {h1 : Sto} {l : Addr} {xs : List D} {vs : List V} {Q : VK} (s1 : Step m H m1 H1) (R1 : Rep K m1 h1 H1) (sq : SqL K H1 l vs) (rs : RelDs K m1 H1 xs vs)
    (q : match itsOf xs with
      | some L => L.length < 64 ∧ (∀ p ∈ L, p ≠ []) ∧ ∀ M : List (List Int), M.Pairwise (· < ·) → (∀ p, p ∈ M ↔ p ∈ L) → UpX K m H Q (M.map itD) h1
      | none => False) : rSetOfT K P w [.ref l] H1 fun x H2 => rSortedTD K P w [x] H2 Q := by
  split at q
  next L e =>
    have e1 := itsOf_eq e
    subst e1
    obtain ⟨ks, ek, en, hk⟩ := rel_its rs
    have hlen : ks.length = L.length := by rw [← en, List.length_map]
    refine ⟨l, ks, rfl, by rw [← ek]; exact sq, fun p hp => TH (hk p hp), by rw [hlen]; exact q.1, fun a L1 ha h1' h2 => ⟨a, L1, rfl, upd_same, fun p hp => SqT.step R1 (Step.lay ha) (TH (hk p (h1' p hp))), fun p hp => ?_, fun L' p pm nd pw hp => ?_⟩⟩
    · exact q.2.1 _ (by rw [← en]; exact List.mem_map_of_mem (h1' p hp))
    · have hin : ∀ r ∈ L', r ∈ ks := fun r hr => h1' r (pm.mem_iff.mp hr)
      refine UpX.laid (R1.lay ha) (rel_itD L' fun r hr => (Step.lay ha).keep _ _ (R1.notup (hk r (hin r hr))) (hk r (hin r hr))) ?_ p hp
      refine UpX.step (s1.trans (Step.lay ha)) (R1.lay ha) (q.2.2 _ ?_ fun r => ?_)
      · rw [List.pairwise_map]
        have nd' : L'.Pairwise (fun a b => a.2 ≠ b.2) := List.pairwise_map.mp nd
        refine (pw.and nd').imp fun {u v} ⟨h3, h4⟩ => ?_
        rcases List.le_iff_lt_or_eq.mp h3 with h5 | h5
        · exact h5
        · exact absurd h5 h4
      · constructor
        · intro hr
          obtain ⟨u, hu, rfl⟩ := List.mem_map.mp hr
          rw [← en]
          exact List.mem_map_of_mem (hin u hu)
        · intro hr
          rw [← en] at hr
          obtain ⟨u, hu, rfl⟩ := List.mem_map.mp hr
          obtain ⟨v, hv, ev⟩ := List.mem_map.mp (h2 u hu)
          exact List.mem_map.mpr ⟨v, pm.mem_iff.mpr hv, ev⟩
  next => exact q.elim
theorem x3_ssetT {e : Expr} {t : A3} {p pos p2 pos2 : Pos} (hc : X.calm = true) (hu : X.A.units + 64 < cLine) (hm : X.mg "sorted" = none) (hm2 : X.mg "set" = none) (ha : PX3 X e t) (hg : Gl X "sorted" := by rfl) (hg2 : Gl X "set" := by rfl)
    (he : starEach [e] X.env = (false, eval e X.env) :: starEach [] X.env := by rfl) (hpl : (backTo pos2 (starEach [] X.env)).any (·.1) = false := by rfl)
    (he2 : starEach [.Call (.Name "set" p2) [e] [] pos2] X.env = (false, eval (.Call (.Name "set" p2) [e] [] pos2) X.env) :: starEach [] X.env := by rfl) (hpl2 : (backTo pos (starEach [] X.env)).any (·.1) = false := by rfl) :
    PX3 X (.Call (.Name "sorted" p) [.Call (.Name "set" p2) [e] [] pos2] [] pos) (tSSetT t) := by
  refine ⟨PE.weak (pe_callB (cr_sortedTD hc hu) hg hm (by decide +kernel) (pa_cons (pe_callTy (cr_setOfT hc hu) hg2 hm2 (by decide +kernel) (pa_cons ha.pe pa_nil he) (by decide) (by decide) he hpl) pa_nil he2) (by decide) (by decide) he2 hpl2) fun σ H Q ⟨m, h, ρ, R, S, q⟩ => ?_, .ssetT ha.mono⟩
  refine LX.bind ha.mono R S q fun m1 H1 a vs xs h1 s1 R1 ea na hm rs S1 q1 => ?_
  exact ssetT_core s1 R1 (.inl (.inl ea)) rs q1
end
/-! rows for the simplifier -/
section
variable {ρ : S3} {h : Sto} {Q : DK} {n : Nat} {y z : D}
theorem itsOf_itD (L : List (List Int)) : itsOf (L.map itD) = some L := itsOf_map L
end
end F3
set_option maxHeartbeats 400000
/-! FZ: head-first rows of FX and FY. -/
namespace F3
open PySem PySem.Spec PyProof.Rows L2
section
variable {ρ : S3} {h : Sto} {Q : DK} {n i : Nat} {d x y z : D} {kvs : List (List Key × D)} {E : Ends3}
theorem tDNewT3_q : tDNewT3 ρ h Q = Q (.ref h.length) (h ++ [.dT []]) := id rfl
theorem dgA_q : dgA (.ref n) y h Q = onO (dvC h[n]? y) fun d => Q d h := id rfl
def onG (o : Option (Option D)) (q : Option D → Prop) (_ : Tag q := ⟨⟩) : Prop := match o with
  | some o => q o
  | none => False
theorem onG_q {o : Option D} {q : Option D → Prop} : onG (some o) q = q o := id rfl
def dg2 (ty tx : E3) (ρ : S3) (h1 : Sto) (Q : DK) (x : D) : Prop := match x with
  | .ref n => isDC h1[n]? = true ∧ ty ρ h1 fun y h2 => tx ρ h2 fun z h3 => onG (dvC h3[n]? y) fun o => Q (o.getD z) h3
  | _ => False
theorem tDG2_q {td ty tx : E3} : tDG2 td ty tx ρ h Q = td ρ h fun x h1 => dg2 ty tx ρ h1 Q x := id rfl
theorem dg2_q {ty tx : E3} : dg2 ty tx ρ h Q (.ref n) = (isDC h[n]? = true ∧ ty ρ h fun y h2 => tx ρ h2 fun z h3 => onG (dvC h3[n]? y) fun o => Q (o.getD z) h3) := id rfl
theorem isDC_T : isDC (some (.dT kvs)) = true := id rfl
def onDT (o : Option Cell) (q : List (List Key × D) → Prop) (_ : Tag q := ⟨⟩) : Prop := match o with
  | some (.dT kvs) => q kvs
  | _ => False
theorem onDT_q {q : List (List Key × D) → Prop} : onDT (some (.dT kvs)) q = q kvs := id rfl
def onKT (o : Option (List Key)) (q : List Key → Prop) (_ : Tag q := ⟨⟩) : Prop := match o with
  | some k => q k
  | none => False
theorem onKT_q {k : List Key} {q : List Key → Prop} : onKT (some k) q = q k := id rfl
def dpT (E : Ends3) (ρ : S3) (v x y : D) (h : Sto) : Prop := match x with
  | .ref n => onDT h[n]? fun kvs => onKT (keyT y) fun k => kvs.length < 16777216 ∧ E.nx ρ (h.set n (.dT (putD kvs k v)))
  | _ => False
theorem cDPutT_q {td ti tv : E3} : cDPutT td ti tv E ρ h = tv ρ h fun v h1 => td ρ h1 fun x h2 => ti ρ h2 fun y h3 => dpT E ρ v x y h3 := id rfl
theorem dpT_q : dpT E ρ d (.ref n) y h = onDT h[n]? fun kvs => onKT (keyT y) fun k => kvs.length < 16777216 ∧ E.nx ρ (h.set n (.dT (putD kvs k d))) := id rfl
theorem keyT_ints {ns : List Int} : keyT (.tup (ns.map .int)) = some (ns.map Sum.inl) := keysD_int ns
theorem dvC_T {ns : List Int} : dvC (some (.dT kvs)) (.tup (ns.map .int)) = some (valD kvs (ns.map Sum.inl)) := by
  simp [dvC, keyT_ints]
theorem dvC_zT {o : Obj} {ws : List (List Key × V)} {ns : List Int} : dvC (some (.zT o ws kvs)) (.tup (ns.map .int)) = some (valD kvs (ns.map Sum.inl)) := by
  simp [dvC, keyT_ints]
def lkD (t : A3) (ρ : S3) (h : Sto) (Q : List D → Sto → Prop) (x : D) : Prop := match x with
  | .ref n => match h[n]? with
    | some (.dT kvs) => ∀ o ws, t ρ (h.set n (.zT o ws kvs)) fun xs h' => h'[n]? = some (.zT o ws kvs) ∧ Q xs (h'.set n (.dT kvs))
    | some (.dK kvs) => ∀ o ws, t ρ (h.set n (.zK o ws kvs)) fun xs h' => h'[n]? = some (.zK o ws kvs) ∧ Q xs (h'.set n (.dK kvs))
    | _ => False
  | _ => False
theorem lkX_q {t : A3} {Q : List D → Sto → Prop} : lkX i t ρ h Q = onO ρ[i]? fun x => lkD t ρ h Q x := by
  unfold lkX onO
  cases ρ[i]? with
  | none => rfl
  | some o => cases o with
    | none => rfl
    | some d => cases d <;> rfl
theorem lkD_T {t : A3} {Q : List D → Sto → Prop} (e : h[n]? = some (.dT kvs)) : lkD t ρ h Q (.ref n) = ∀ o ws, t ρ (h.set n (.zT o ws kvs)) fun xs h' => h'[n]? = some (.zT o ws kvs) ∧ Q xs (h'.set n (.dT kvs)) := by
  simp only [lkD, e]
def ikD (h : Sto) (Q : List D → (Sto → Prop) → Sto → Prop) (x : D) : Prop := match x with
  | .ref n => match h[n]? with
    | some (.zT o ws kvs) => Q (kvs.map fun kv => .tup (kv.1.map kD)) (fun h' => h'[n]? = some (.zT o ws kvs)) h
    | some (.zK o ws kvs) => Q (kvs.map fun kv => kD kv.1) (fun h' => h'[n]? = some (.zK o ws kvs)) h
    | _ => False
  | _ => False
theorem iKeys3_q {t : E3} {Q : List D → (Sto → Prop) → Sto → Prop} : iKeys3 t ρ h Q = t ρ h fun x h1 => ikD h1 Q x := id rfl
theorem ikD_T {o : Obj} {ws : List (List Key × V)} {Q : List D → (Sto → Prop) → Sto → Prop} (e : h[n]? = some (.zT o ws kvs)) : ikD h Q (.ref n) = Q (kvs.map fun kv => .tup (kv.1.map kD)) (fun h' => h'[n]? = some (.zT o ws kvs)) h := by
  simp only [ikD, e]
def onIt (o : Option (List (List Int))) (q : List (List Int) → Prop) (_ : Tag q := ⟨⟩) : Prop := match o with
  | some k => q k
  | none => False
theorem onIt_q {k : List (List Int)} {q : List (List Int) → Prop} : onIt (some k) q = q k := id rfl
theorem tSSetT_q {t : A3} {Q : List D → Sto → Prop} : tSSetT t ρ h Q = t ρ h fun xs h1 => onIt (itsOf xs) fun L => L.length < 64 ∧ (∀ p ∈ L, p ≠ []) ∧ ∀ M : List (List Int), M.Pairwise (· < ·) → (∀ p, p ∈ M ↔ p ∈ L) → Q (M.map itD) h1 := id rfl
theorem tL3_G {t : A3} {Q : List D → Sto → Prop} : tL3 srtG t ρ h Q = t ρ h fun xs h1 => srtG xs h1 Q := id rfl
end
end F3
set_option maxHeartbeats 1000000
/-! GA: how long the text of data is. -/
namespace F3
open PySem PySem.Spec PyProof.Rows L2
theorem pos_len {n : Nat} {k : Nat} (hk : 0 < k) (h : n < 10 ^ k) : (toString (n : Int)).length ≤ k := by
  have := toString_length_le (v := (n : Int)) (Int.natCast_nonneg n) hk (by exact_mod_cast h)
  rwa [PySem.ofString_length] at this
theorem int_len {i : Int} {k : Nat} (hk : 0 < k) (h : i.natAbs < 10 ^ k) : (Str.ofString (toString i)).length ≤ k + 1 := by
  rw [PySem.ofString_length]
  cases i with
  | ofNat n => exact Nat.le_succ_of_le (pos_len hk h)
  | negSucc n =>
    have e : toString (Int.negSucc n) = "-" ++ toString ((n + 1 : Nat) : Int) := rfl
    rw [e, String.length_append]
    have := pos_len (n := n + 1) hk h
    have e1 : "-".length = 1 := rfl
    omega
mutual
/-- a bound of the text's length, ints of less than 10 ^ k -/
def shB (k : Nat) : PyData → Nat
  | .none => 4
  | .bool _ => 5
  | .int _ => k + 1
  | .str x => 10 * x.length + 2
  | .list xs => 2 + shBs k xs
  | .tuple xs => 3 + shBs k xs
  | .dict _ => 0
def shBs (k : Nat) : List PyData → Nat
  | [] => 0
  | x :: xs => shB k x + 2 + shBs k xs
end
mutual
/-- data whose text is no longer than that -/
def shD (k : Nat) : PyData → Prop
  | .none => True
  | .bool _ => True
  | .int i => i.natAbs < 10 ^ k
  | .str x => ∀ c ∈ x.cps.toList, c < 16 ^ 8
  | .list xs => shDs k xs
  | .tuple xs => shDs k xs
  | .dict _ => False
def shDs (k : Nat) : List PyData → Prop
  | [] => True
  | x :: xs => shD k x ∧ shDs k xs
end
theorem textFrom_le : ∀ (ts : List Str) (k : Nat) (acc : Str), (textFrom k acc ts).length ≤ acc.length + piled ts
  | [], k, acc => by simp [textFrom, piled]
  | t :: r, k, acc => by
    rw [textFrom]
    have := textFrom_le r (k + 1) (acc ++ (if k > 0 then ", " else "" : String) ++ t)
    rw [strLen_append, strLen_append] at this
    have e : (((if k > 0 then ", " else "" : String) : Str)).length ≤ 2 := by split <;> decide
    have e2 : piled (t :: r) = t.length + 2 + piled r := by simp [piled]
    rw [e2]; omega
theorem listText_le (ts : List Str) : (listText ts).length ≤ 2 + piled ts := by
  unfold listText
  have := textFrom_le ts 0 "["
  rw [strLen_append]
  have e1 : ("[" : Str).length = 1 := rfl
  have e2 : ("]" : Str).length = 1 := rfl
  omega
theorem tupleText_le (ts : List Str) : (tupleText ts).length ≤ 3 + piled ts := by
  unfold tupleText
  rw [strLen_append, strLen_append]
  have e1 : ("(" : Str).length = 1 := rfl
  have e2 : (((if ts.length == 1 then ",)" else ")" : String) : Str)).length ≤ 2 := by split <;> decide
  by_cases h : ts = []
  · subst h
    have e3 : (Str.join ", " []).length = 0 := rfl
    omega
  · have := join_length_add ts h
    omega
mutual
theorem shown_le (k : Nat) (hk : 0 < k) (h10 : 10 ^ k ≤ 2 ^ 1900) : ∀ p : PyData, shD k p → p.showable = true ∧ p.shown.length ≤ shB k p
  | .none, _ => ⟨rfl, Nat.le_refl 4⟩
  | .bool b, _ => ⟨rfl, by cases b; exact Nat.le_refl 5; exact Nat.le_succ 4⟩
  | .int i, h => by
    have h' : i.natAbs < 10 ^ k := h
    refine ⟨?_, int_len hk h'⟩
    rw [PyData.showable, decide_eq_true_eq]
    exact Nat.lt_of_lt_of_le (PySem.Flt.log2_lt_of (by decide) (Nat.lt_of_lt_of_le h' h10)) (by decide)
  | .str x, h => ⟨rfl, PySem.StrLaws.reprText_len x h⟩
  | .list xs, h => by
    have h' : shDs k xs := h
    obtain ⟨a, b⟩ := showns_le k hk h10 xs h'
    refine ⟨a, ?_⟩
    have := listText_le (PyData.shownAll xs)
    show (listText (PyData.shownAll xs)).length ≤ 2 + shBs k xs
    omega
  | .tuple xs, h => by
    have h' : shDs k xs := h
    obtain ⟨a, b⟩ := showns_le k hk h10 xs h'
    refine ⟨a, ?_⟩
    have := tupleText_le (PyData.shownAll xs)
    show (tupleText (PyData.shownAll xs)).length ≤ 3 + shBs k xs
    omega
  | .dict _, h => h.elim
theorem showns_le (k : Nat) (hk : 0 < k) (h10 : 10 ^ k ≤ 2 ^ 1900) : ∀ ps : List PyData, shDs k ps → PyData.showableAll ps = true ∧ piled (PyData.shownAll ps) ≤ shBs k ps
  | [], _ => ⟨rfl, Nat.zero_le _⟩
  | p :: ps, h => by
    have h' : shD k p ∧ shDs k ps := h
    obtain ⟨a, b⟩ := shown_le k hk h10 p h'.1
    obtain ⟨c, d⟩ := showns_le k hk h10 ps h'.2
    refine ⟨by rw [PyData.showableAll, a, c]; rfl, ?_⟩
    have e : piled (PyData.shownAll (p :: ps)) = p.shown.length + 2 + piled (PyData.shownAll ps) := by rw [PyData.shownAll]; simp [piled]
    rw [e, shBs]; omega
end
theorem sh_ok {p : PyData} (h : shD 100 p) (hb : shB 100 p ≤ 16777216) : ShwOk p := by
  obtain ⟨a, b⟩ := shown_le 100 (by decide) (by decide) p h
  exact ⟨a, Nat.le_trans b hb⟩
/-! ### tuple + tuple, any of them -/
def addTR : R3 := fun x y h Q => match x, y with
  | .tup xs, .tup ys => xs.length + ys.length ≤ 16777216 ∧ Q (.tup (xs ++ ys)) h
  | _, _ => False
theorem addTR_q {xs ys : List D} {h : Sto} {Q : DK} : addTR (.tup xs) (.tup ys) h Q = (xs.length + ys.length ≤ 16777216 ∧ Q (.tup (xs ++ ys)) h) := id rfl
section
variable {X : Cx}
theorem o_addT : Op3 X (binaryOp .Add) addTR := by
  refine ⟨fun x y h Q Q' w q => ?_, _, op_catA, fun m h H x y v u Q R rx ry q => ?_⟩
  · unfold addTR at q ⊢
    split at q
    · exact ⟨q.1, w _ _ q.2⟩
    · exact q.elim
  · unfold addTR at q
    split at q
    · cases rx with
      | tup sq r1 =>
        cases ry with
        | tup sq2 r2 =>
          have l1 := r1.length
          have l2 := r2.length
          refine ⟨_, _, _, _, rfl, rfl, TH sq, TH sq2, by rw [sizeLine_eq, ← l1, ← l2]; exact q.1, ?_⟩
          refine ⟨fun e => ?_, fun _ e => ?_, fun _ _ p hp => ?_⟩
          · rw [e] at l1
            have e3 := List.eq_nil_of_length_eq_zero l1
            subst e3
            exact q.2 m H _ .refl R (.tup sq2 r2)
          · rw [e] at l2
            have e3 := List.eq_nil_of_length_eq_zero l2
            subst e3
            have q3 := q.2
            rw [List.append_nil] at q3
            exact q3 m H _ .refl R (.tup sq r1)
          · exact q.2 m _ (.ref p) (Step.lay hp) (R.lay hp) (.tup upd_same ((r1.append r2).step R (Step.lay hp)))
    · exact q.elim
end
end F3
set_option maxHeartbeats 1000000
/-! GB: things: values that can be shown and looked at. -/
namespace F3
open PySem PySem.Spec PyProof.Rows L2
def Hold (n : Nat) (g H : Sto) : Prop := ∀ k x, g[k]? = some x → H[n + k]? = some x
theorem Hold.app {n : Nat} {g k H : Sto} (h : Hold n (g ++ k) H) : Hold n g H := fun i x e => h i x (by
  have := (List.getElem?_eq_some_iff.mp e).1
  rw [List.getElem?_append_left this]; exact e)
/-- x tells the data p, of depth L, whose text has at most B signs, wherever the cells g lie from n on -/
structure At (n : Nat) (g : Sto) (L B : Nat) (x : D) (p : PyData) : Prop where
  top : ∀ H, Hold n g H → ∀ k, toP H (k + L) x = some p
  sd : shD 100 p
  sb : shB 100 p ≤ B
def Ats (n : Nat) (g : Sto) (L B : Nat) : List D → List PyData → Prop
  | [], [] => True
  | x :: xs, p :: ps => At n g L B x p ∧ Ats n g L B xs ps
  | _, _ => False
def Thing (n : Nat) (g : Sto) (d : D) : Prop := ∃ p, shD 100 p ∧ shB 100 p ≤ 16777216 ∧ (∀ xs, d ≠ .fl xs) ∧ ∀ H, Hold n g H → toP H 9 d = some p
section
variable {n : Nat} {g : Sto} {L B : Nat}
theorem At.up {L' B' : Nat} {x : D} {p : PyData} (h : At n g L B x p) (hl : L ≤ L') (hb : B ≤ B') : At n g L' B' x p :=
  ⟨fun H hH k => by
    have := h.top H hH (k + (L' - L))
    rw [show k + (L' - L) + L = k + L' by omega] at this
    exact this, h.sd, Nat.le_trans h.sb hb⟩
theorem At.app {k : Sto} {x : D} {p : PyData} (h : At n g L B x p) : At n (g ++ k) L B x p := ⟨fun H hH => h.top H hH.app, h.sd, h.sb⟩
theorem Ats.top {H : Sto} (hH : Hold n g H) (k : Nat) : ∀ {xs : List D} {ps : List PyData}, Ats n g L B xs ps → xs.mapM (toP H (k + L)) = some ps
  | [], [], _ => rfl
  | x :: xs, p :: ps, h => by rw [List.mapM_cons, h.1.top H hH k, Ats.top hH k h.2]; rfl
  | [], _ :: _, h => h.elim
  | _ :: _, [], h => h.elim
theorem Ats.sh : ∀ {xs : List D} {ps : List PyData}, Ats n g L B xs ps → shDs 100 ps ∧ shBs 100 ps ≤ (B + 2) * xs.length
  | [], [], _ => ⟨trivial, Nat.le_refl _⟩
  | x :: xs, p :: ps, h => by
    obtain ⟨a, b⟩ := Ats.sh h.2
    have := h.1.sb
    refine ⟨⟨h.1.sd, a⟩, ?_⟩
    rw [shBs, List.length_cons, Nat.mul_succ]; omega
  | [], _ :: _, h => h.elim
  | _ :: _, [], h => h.elim
theorem Ats.mk : ∀ {xs : List D}, (∀ x ∈ xs, ∃ p, At n g L B x p) → ∃ ps, Ats n g L B xs ps
  | [], _ => ⟨[], trivial⟩
  | x :: xs, h => by
    obtain ⟨p, hp⟩ := h x List.mem_cons_self
    obtain ⟨ps, hs⟩ := Ats.mk (xs := xs) fun y hy => h y (List.mem_cons_of_mem _ hy)
    exact ⟨p :: ps, hp, hs⟩
theorem at_tup {B' : Nat} {xs : List D} (h : ∀ x ∈ xs, ∃ p, At n g L B x p) (hb : 3 + (B + 2) * xs.length ≤ B') : ∃ p, At n g (L + 1) B' (.tup xs) p := by
  obtain ⟨ps, hs⟩ := Ats.mk h
  obtain ⟨a, b⟩ := hs.sh
  refine ⟨.tuple ps, fun H hH k => toP_tup (k := k + L) (hs.top hH k), a, ?_⟩
  show 3 + shBs 100 ps ≤ B'
  omega
theorem at_lst {B' k : Nat} {xs : List D} (e : g[k]? = some (.lst xs)) (h : ∀ x ∈ xs, ∃ p, At n g L B x p) (hb : 3 + (B + 2) * xs.length ≤ B') : ∃ p, At n g (L + 1) B' (.ref (n + k)) p := by
  obtain ⟨ps, hs⟩ := Ats.mk h
  obtain ⟨a, b⟩ := hs.sh
  refine ⟨.list ps, fun H hH j => toP_lst (k := j + L) (hH k _ e) (hs.top hH j), a, ?_⟩
  show 2 + shBs 100 ps ≤ B'
  omega
theorem thing_at {x : D} {p : PyData} (h : At n g L B x p) (hf : ∀ xs, x ≠ .fl xs) (hl : L ≤ 9) (hb : B ≤ 16777216) : Thing n g x :=
  ⟨p, h.sd, Nat.le_trans h.sb hb, hf, fun H hH => by
    have := h.top H hH (9 - L)
    rw [show 9 - L + L = 9 by omega] at this
    exact this⟩
theorem thing_ex {x : D} (h : ∃ p, At n g L B x p) (hf : ∀ xs, x ≠ .fl xs) (hl : L ≤ 9) (hb : B ≤ 16777216) : Thing n g x := h.elim fun _ a => thing_at a hf hl hb
theorem Thing.app {k : Sto} {x : D} (h : Thing n g x) : Thing n (g ++ k) x := h.elim fun p y => ⟨p, y.1, y.2.1, y.2.2.1, fun H hH => y.2.2.2 H hH.app⟩
def SmI (i : Int) : Prop := i.natAbs < 10 ^ 100
theorem litI {i : Int} (h : -(10 ^ 99) ≤ i ∧ i ≤ 10 ^ 99) : SmI i := by
  have : i.natAbs ≤ 10 ^ 99 := by omega
  exact Nat.lt_of_le_of_lt this (by decide)
theorem at_int {i : Int} (h : SmI i) : At n g 1 101 (.int i) (.int i) := ⟨fun _ _ _ => rfl, h, Nat.le_refl _⟩
theorem at_bl {b : Bool} : At n g 1 101 (.bl b) (.bool b) := ⟨fun _ _ _ => rfl, trivial, by show 5 ≤ 101; decide⟩
theorem at_non : At n g 1 101 .non .none := ⟨fun _ _ _ => rfl, trivial, by show 4 ≤ 101; decide⟩
theorem at_str {x : String} (hc : ∀ c ∈ (Str.ofString x).cps.toList, c < 16 ^ 8) (hl : 10 * (Str.ofString x).length + 2 ≤ 101) : At n g 1 101 (.str x) (.str x) :=
  ⟨fun _ _ _ => by simp only [toP]; rw [if_pos (show PyData.strOk (Str.ofString x) = true from tok_str x)], hc, hl⟩
end
/-! what is told of data -/
theorem mapM_mem {α β : Type} {f : α → Option β} : ∀ {xs : List α} {ys : List β}, xs.mapM f = some ys → ∀ x ∈ xs, ∃ y, f x = some y
  | [], _, _, x, hx => by cases hx
  | a :: xs, ys, e, x, hx => by
    rw [List.mapM_cons] at e
    cases ha : f a with
    | none => rw [ha] at e; cases e
    | some b =>
      rw [ha] at e
      cases hr : xs.mapM f with
      | none => rw [hr] at e; cases e
      | some bs =>
        rcases List.mem_cons.mp hx with rfl | hm
        · exact ⟨b, ha⟩
        · exact mapM_mem hr x hm
theorem kn_toP {h : Sto} {k : Nat} {d : D} {p : PyData} (e : toP h k d = some p) : Kn h d := by
  cases k with
  | zero => simp [toP] at e
  | succ k =>
    cases d with
    | non => exact kn_non
    | bl b => exact kn_bl
    | int i => exact kn_int
    | str x => exact kn_str
    | tup xs => exact kn_tup
    | fl xs => exact ⟨_, rfl⟩
    | ref n =>
      simp only [toP] at e
      split at e
      next xs hx => exact kn_lst hx
      next => cases e
    | ty b => simp [toP] at e
    | adr b => simp [toP] at e
theorem toP_tupI {h : Sto} {k : Nat} {xs : List D} {p : PyData} (e : toP h (k + 1) (.tup xs) = some p) : ∀ x ∈ xs, ∃ q, toP h k x = some q := by
  simp only [toP, Option.map_eq_some_iff] at e
  obtain ⟨ps, e1, _⟩ := e
  exact mapM_mem e1
theorem toP_refI' {h : Sto} {k n : Nat} {p : PyData} (e : toP h (k + 1) (.ref n) = some p) : ∃ xs, h[n]? = some (.lst xs) ∧ ∀ x ∈ xs, ∃ q, toP h k x = some q := by
  simp only [toP] at e
  split at e
  next xs hx =>
    simp only [Option.map_eq_some_iff] at e
    obtain ⟨ps, e1, _⟩ := e
    exact ⟨xs, hx, mapM_mem e1⟩
  next => cases e
theorem mapM_sz {f : D → Option PyData} : ∀ {xs : List D} {ps : List PyData}, xs.mapM f = some ps → xs.length ≤ shBs 100 ps ∧ ∀ x ∈ xs, ∃ q, f x = some q ∧ shB 100 q ≤ shBs 100 ps
  | [], ps, _ => ⟨Nat.zero_le _, fun x hx => by cases hx⟩
  | a :: xs, ps, e => by
    rw [List.mapM_cons] at e
    cases ha : f a with
    | none => rw [ha] at e; cases e
    | some b =>
      rw [ha] at e
      cases hr : xs.mapM f with
      | none => rw [hr] at e; cases e
      | some bs =>
        rw [hr] at e
        have e' : some (b :: bs) = some ps := e
        cases e'
        obtain ⟨h1, h2⟩ := mapM_sz hr
        have e3 : shBs 100 (b :: bs) = shB 100 b + 2 + shBs 100 bs := rfl
        refine ⟨by rw [List.length_cons]; omega, fun x hx => ?_⟩
        rcases List.mem_cons.mp hx with rfl | hm
        · exact ⟨b, ha, by omega⟩
        · obtain ⟨q, e1, e2⟩ := h2 x hm
          exact ⟨q, e1, by omega⟩
theorem toP_tup_sz {h : Sto} {k B : Nat} {xs : List D} {p : PyData} (e : toP h (k + 1) (.tup xs) = some p) (hb : shB 100 p ≤ B) : xs.length ≤ B ∧ ∀ x ∈ xs, ∃ q, toP h k x = some q ∧ shB 100 q ≤ B := by
  simp only [toP, Option.map_eq_some_iff] at e
  obtain ⟨ps, e1, rfl⟩ := e
  have hb' : 3 + shBs 100 ps ≤ B := hb
  obtain ⟨h1, h2⟩ := mapM_sz e1
  exact ⟨by omega, fun x hx => (h2 x hx).elim fun q y => ⟨q, y.1, by omega⟩⟩
theorem toP_ref_sz {h : Sto} {k B n : Nat} {p : PyData} (e : toP h (k + 1) (.ref n) = some p) (hb : shB 100 p ≤ B) : ∃ xs, h[n]? = some (.lst xs) ∧ xs.length ≤ B ∧ ∀ x ∈ xs, ∃ q, toP h k x = some q ∧ shB 100 q ≤ B := by
  simp only [toP] at e
  split at e
  next xs hx =>
    simp only [Option.map_eq_some_iff] at e
    obtain ⟨ps, e1, rfl⟩ := e
    have hb' : 2 + shBs 100 ps ≤ B := hb
    obtain ⟨h1, h2⟩ := mapM_sz e1
    exact ⟨xs, hx, by omega, fun x hx => (h2 x hx).elim fun q y => ⟨q, y.1, by omega⟩⟩
  next => cases e
/-! tuple(range(n)) -/
def tTRg1 (t : E3) : E3 := fun ρ h Q => xRg1 t ρ h fun ds h1 => Q (.tup ds) h1
section
variable {X : Cx}
theorem e3_trg1 {a : Expr} {t : E3} {p pos p2 pos2 : Pos} (hc : X.calm = true) (hm : X.mg "tuple" = none) (hm2 : X.mg "range" = none) (ha : PE3 X a t) (hg : Gl X "tuple" := by rfl) (hg2 : Gl X "range" := by rfl)
    (na : starEach [a] X.env = (false, eval a X.env) :: starEach [] X.env := by rfl) (na2 : starEach [.Call (.Name "range" p2) [a] [] pos2] X.env = (false, eval (.Call (.Name "range" p2) [a] [] pos2) X.env) :: starEach [] X.env := by rfl) :
    PE3 X (.Call (.Name "tuple" p) [.Call (.Name "range" p2) [a] [] pos2] [] pos) (tTRg1 t) := by
  refine ⟨PE.weak (pe_tupRg hc hg hm (prg_1 hg2 hm2 ha.pe na) na2) fun σ H Q ⟨m, h, ρ, R, S, q⟩ => ?_, fun ρ h Q Q' w q => ha.mono _ _ _ _ (fun d h1 q1 => ?_) q⟩
  · refine LE.bind ha.mono R S q fun m1 H1 v x h1 s1 R1 rx S1 q1 => ?_
    cases rx with
    | int n => exact ⟨n, rfl, q1.1, fun r hr => q1.2 m1 _ (.ref r) (s1.trans (Step.lay hr)) (R1.lay hr) (.tup upd_same ((rel_rg 0 _).step R1 (Step.lay hr)))⟩
    | _ => exact q1.elim
  · cases d with
    | int n => exact ⟨q1.1, w _ _ q1.2⟩
    | _ => exact q1
end
theorem tTRg1_q {t : E3} {ρ : S3} {h : Sto} {Q : DK} : tTRg1 t ρ h Q = xRg1 t ρ h fun ds h1 => Q (.tup ds) h1 := id rfl
end F3
set_option maxHeartbeats 1000000
/-! RB: raise that is never reached, d.setdefault(k, x), sorted(d) of int keys. -/
namespace F3
open PySem PySem.Spec PyProof.Rows L2
/-- a statement that is not reached -/
def cOff : C3 := fun _ _ _ => False
theorem c3_off {X : Cx} {st : Stmt} : PC3 X st cOff := ⟨⟨fun pins s σ H D I ⟨m, h, ρ, R, S, q⟩ => q.elim⟩, fun D D' ρ h w q => q⟩
/-- d.setdefault(k, x) -/
def dsetR (n : Nat) (y z : D) (h : Sto) (Q : DK) : Prop := match h[n]? with
  | some (.dK kvs) => match keyD y with
    | some k => kvs.length < 16777216 ∧ match valD kvs k with
      | some d => Q d h
      | none => Q z (h.set n (.dK (putD kvs k z)))
    | none => False
  | _ => False
def isDk (x : D) (h : Sto) : Prop := ∃ n kvs, x = .ref n ∧ h[n]? = some (.dK kvs)
def tDSetd3 (td ty tx : E3) : E3 := fun ρ h Q => td ρ h fun x h1 => isDk x h1 ∧ ty ρ h1 fun y h2 => tx ρ h2 fun z h3 => match x with
  | .ref n => dsetR n y z h3 Q
  | _ => False
section
variable {X : Cx}
theorem e3_dsetd {o e f : Expr} {td ty tx : E3} {apos cpos : Pos} (ho : PE3 X o td) (he : PE3 X e ty) (hf : PE3 X f tx) (m : M2 X o "setdefault" apos e f cpos) : PE3 X (.Call (.Attribute o "setdefault" apos) [e, f] [] cpos) (tDSetd3 td ty tx) := by
  refine ⟨PE.weak (pe_dsetd ho.pe he.pe hf.pe m) fun σ H Q ⟨m0, h, ρ, R, S, q⟩ => ?_, fun ρ h Q Q' w q => ho.mono _ _ _ _ (fun x h1 q1 => ⟨q1.1, he.mono _ _ _ _ (fun y h2 q2 => hf.mono _ _ _ _ (fun z h3 q3 => ?_) q2) q1.2⟩) q⟩
  · refine LE.bind ho.mono R S q fun m1 H1 v x h1 s1 R1 rx S1 q1 => ?_
    obtain ⟨⟨n, kvs0, rfl, e0⟩, q1⟩ := q1
    obtain ⟨a, vs0, rfl, em0, ea0, _⟩ := R1.dk rx e0
    refine ⟨a, rfl, .inl ⟨vs0, .inl ea0⟩, ?_⟩
    refine LE.bind he.mono R1 S1 q1 fun m2 H2 u y h2 s2 R2 ry S2 q2 => ?_
    refine LE.bind hf.mono R2 S2 q2 fun m3 H3 w z h3 s3 R3 rz S3 q3 => ?_
    have rx3 := (rx.step R1 s2).step R2 s3
    have q3 : dsetR n y z h3 (Up X.K m0 H Q) := q3
    unfold dsetR at q3
    split at q3
    next kvs e1 =>
      split at q3
      next k ek =>
        obtain ⟨a', vs, ea', em, ea, rk⟩ := R3.dk rx3 e1
        have : a = a' := by injection ea'
        subst this
        have hm : a ∈ m3 := List.mem_of_getElem? em
        have st := (s1.trans s2).trans s3
        refine ⟨vs, k, ea, keyD_rel (ry.step R2 s3) ek, by rw [rk.len, sizeLine_eq]; exact q3.1, fun v hv => ?_, fun hv => ?_⟩
        · rcases rk.val k with ⟨_, z2⟩ | ⟨d, v', z1, z2, z3⟩
          · rw [z2] at hv; cases hv
          · rw [z2] at hv; cases hv
            have q4 := q3.2
            rw [z1] at q4
            exact q4 m3 H3 v st R3 z3
        · rcases rk.val k with ⟨z1, _⟩ | ⟨d, v', z1, z2, z3⟩
          · have q4 := q3.2
            rw [z1] at q4
            have rp := (rk.put k rz).step R3 (Step.put (o := .dK (putK vs k w)) hm)
            exact q4 m3 _ w (st.trans (Step.put hm)) (R3.put em ⟨_, upd_same, rp.keys, rp.vals⟩) (rz.step R3 (Step.put hm))
          · rw [z2] at hv; cases hv
      next => exact q3.elim
    next => exact q3.elim
  · split at q3
    · unfold dsetR at q3 ⊢
      split at q3
      · split at q3
        · refine ⟨q3.1, ?_⟩
          have q4 := q3.2
          split at q4
          · exact w _ _ q4
          · exact w _ _ q4
        · exact q3.elim
      · exact q3.elim
    · exact q3.elim
/-! sorted(d) -/
def rSortedDk : List V → Hp → VK → Prop := fun xs H Q => ∃ (a : Addr) (kvs : List (Key × V)) (ks : List Int), xs = [.ref a] ∧ Rd H a (.dK kvs) ∧ kvs.map (·.1) = ks.map Sum.inl ∧ ks.length ≤ 16777216 ∧
    ∀ (ys : List Int) (p : Addr), ys.Perm ks → ys.Pairwise (· ≤ ·) → H p = none → Q (.ref p) (upd H p (.lst (ys.map V.int)))
theorem call_sortedDk (calm : X.calm = true) : CallR X (.builtin "sorted") rSortedDk := by
  intro pins s σ H xs us Q I r q
  obtain ⟨a, kvs, ks, rfl, hd, hks, hsz, q⟩ := q
  obtain ⟨u, rfl, rx⟩ := vals1 r
  cases rx
  obtain ⟨z, lo, vs, rel, dd⟩ := dk_rd I.hok hd
  obtain ⟨ep, hat⟩ := dd.dictAt
  have keysE : vs.map (·.1) = ks.map Sum.inl := rel.keys.symm.trans hks
  have lenE : vs.length = ks.length := by
    have := congrArg List.length keysE
    simpa using this
  have fits : vs.length ≤ sizeLine := by rw [lenE, sizeLine_eq]; exact hsz
  refine Calls.call_function_entry PyProof.Rows.kind_sorted PyProof.Rows.plain_sorted PyProof.Rows.entry_sorted (PyProof.Rows.args_sorted1 _) ?_
  unfold Builtin.«sorted»
  refine wpAny_bind (m := checkCount "sorted" 1 1 _) (wpAny_pure (wpAny_bind (PySem.W.kdu_collect (A := X.A.in1) (PySem.W.kdl_dict (knd := mixKind X.prog X.w) (kvs := vs) (ep := ep) lo) (I.ok.hd calm) hat fits fun hp tk got hk hgot => ?_)))
  have lenG : got.toList.length = ks.length := by rw [Array.length_toList, hgot.1, lenE]
  have itsG : IntsAre got.toList ks := ints_each lenG fun j v e => by
    obtain ⟨k, x, e1, e2⟩ := hgot.2 j v (by rw [← Array.getElem?_toList]; exact e)
    have e3 : (ks.map (Sum.inl : Int → Key))[j]? = some k := by rw [← keysE, List.getElem?_map, e1]; rfl
    rw [List.getElem?_map] at e3
    cases e4 : ks[j]? with
    | none => rw [e4] at e3; cases e3
    | some y =>
      rw [e4] at e3
      have e5 : Sum.inl y = k := Option.some.inj e3
      subst e5
      rcases keyIs_shape (show keyIs (Sum.inl y) v = true from e2) with ⟨i, t, ek, ev⟩ | ⟨w, t, ek, ev⟩
      · cases ek; exact ⟨y, t, rfl, ev⟩
      · cases ek
  have I1 : Inv X pins σ H { s with heap := hp, toks := tk } := I.kept hk
  have gz : got.toList.length ≤ sizeLine := by rw [lenG, sizeLine_eq]; exact hsz
  refine wpAny_bind (wpAny_newList ?_ gz)
  have ob : (hp.push (seqObj "list" got.toList.toArray 0)).get? hp.objs.size = some (seqObj "list" got.toList.toArray 0) := Heap.get?_push_size _ rfl
  show wpAny _ _ _ _ _ { s with heap := hp.push (seqObj "list" got.toList.toArray 0), toks := tk }
  refine wpAny_bind (wpAny_holding (wpAny_call_entry PyProof.Rows.slot_list_sort ⟨_, ob, rfl⟩ PyProof.Rows.entry_list_sort
    (SrtO.list_sort_ord (s := { s with heap := hp.push (seqObj "list" got.toList.toArray 0), toks := tk }) SrtO.swo_int ob gz (fun h2 => SrtO.ints_sortable itsG h2) fun out h1 h2 => ⟨_, rfl, ?_⟩) (PyProof.Rows.args_list_sort _)))
  obtain ⟨k1, k2, k3⟩ := SrtO.ints_out itsG h1 h2
  obtain ⟨e', he'⟩ := PyProof.Rows.sortedHeap_at (vs := got.toList) (out := out.toArray) ob
  have lenO : ((out.map SrtO.iv).map V.int).length ≤ sizeLine := by
    rw [List.length_map, k2.length_eq, sizeLine_eq]; exact hsz
  refine wpAny_pure ⟨_, rfl, .ref hp.objs.size, upd H hp.objs.size (.lst ((out.map SrtO.iv).map V.int)), I1.laid (t' := tk) (fun b u e => ?_) (Nat.le_refl _)
    (show ObjOk X.prog X.w _ _ _ (.lst ((out.map SrtO.iv).map V.int)) from ⟨lenO, out, e', vals_of_ints k1, he'⟩), rfl, q _ _ k2 k3 (I1.hok.fresh (Nat.le_refl _))⟩
  have hb : b < hp.objs.size := Heap.lt_size e
  rw [PyProof.Rows.sortedHeap_old (Nat.ne_of_lt hb) (by rw [size_push']; exact Nat.lt_succ_of_lt hb)]
  exact Heap.get?_push_of_some _ e
/-- the int keys of a dict, sorted -/
def srtK : M3 := fun xs h Q => ∃ (n : Nat) (kvs : List (Key × D)) (ks : List Int), xs = [.ref n] ∧ h[n]? = some (.dK kvs) ∧ kvs.map (·.1) = ks.map Sum.inl ∧ ks.length ≤ 16777216 ∧ ∀ ys : List Int, ys.Perm ks → ys.Pairwise (· ≤ ·) → Q (ys.map .int) h
theorem kl_sortedDk (calm : X.calm = true) : CallL3 X (.builtin "sorted") srtK := by
  refine ⟨fun xs h Q Q' w q => ?_, _, call_sortedDk calm, fun m h H xs vs Q R rs q => ?_⟩
  · obtain ⟨n, kvs, ks, e1, e2, e3, e4, q⟩ := q
    exact ⟨n, kvs, ks, e1, e2, e3, e4, fun ys h1 h2 => w _ _ (q ys h1 h2)⟩
  · obtain ⟨n, kvs, ks, rfl, e2, e3, e4, q⟩ := q
    match vs, rs with
    | [v], .cons r .nil =>
      obtain ⟨a, us, rfl, em, ea, rk⟩ := R.dk r e2
      refine ⟨a, us, ks, rfl, .inl ea, rk.keys.trans e3, e4, fun ys p h1 h2 hp => ?_⟩
      exact UpX.laid R (rel_ints ys) (q ys h1 h2) p hp
end
end F3
set_option maxHeartbeats 1000000
/-! SA: rules for sheets: int * list, x in xs (any data), xs.remove(x), xs.index(x), bits. -/
namespace F3
open PySem PySem.Spec PyProof.Rows L2
section
variable {X : Cx}
/-! ### int * list -/
def rRepR : R2 := fun x y H Q => ∃ l k xs, x = .int k ∧ y = .ref l ∧ H l = some (.lst xs) ∧ -(2 ^ 63) ≤ k ∧ k < 2 ^ 63 ∧ xs.length * k.toNat ≤ sizeLine ∧
  ∀ p, H p = none → Q (.ref p) (upd H p (.lst (List.replicate k.toNat xs).flatten))
theorem op_repR : OpR X (binaryOp .Mult) rRepR := by
  intro pins s σ H x y v u Q I rx ry h
  obtain ⟨l, k, xs, rfl, rfl, hH, h1, h2, hz, q⟩ := h
  cases ry
  obtain ⟨t, rfl⟩ := rx
  obtain ⟨z, its, n, r, hl, e⟩ := I.lstM hH
  have hlen : its.toArray.size * k.toNat ≤ sizeLine := by rw [List.size_toArray, ← hl]; exact hz
  have hcap : ¬ its.toArray.size * k.toNat > (2 ^ 63 - 1) / 8 := by
    have : (sizeLine : Nat) ≤ (2 ^ 63 - 1) / 8 := by decide
    omega
  have hfit : ¬ (!Builtin.List.listFitsIndex k) = true := by
    rw [fitsIndex_both h1 h2]
    exact Bool.false_ne_true
  have hlong : ¬ Builtin.List.listTooLong (its.toArray.size * k.toNat) = true := by
    rw [notLongL hlen]
    exact Bool.false_ne_true
  have hnew : List.foldl (fun x1 x2 => x1 ++ x2) #[] (List.replicate (if its.toArray.isEmpty = true then 0 else k.toNat) its.toArray) = (List.replicate k.toNat its).flatten.toArray := by
    have f0 : ∀ m : Nat, List.foldl (fun x1 x2 => x1 ++ x2) #[] (List.replicate m its.toArray) = (List.replicate m its).flatten.toArray := fun m => by
      have := foldl_rep its m []
      rw [List.nil_append] at this
      exact this
    rw [f0]
    cases its with
    | nil => simp
    | cons a r' => rw [if_neg (by simp)]
  refine lm_binaryOp_repeat_right (T := "list") (U := "int") (by decide) (fun s' => typeIs_int s' k t) ⟨_, e, rfl⟩ F.fills_int_mul noFill_list_mul F.slot_int_mul lm_noRepeat_int repeat_list F.slot_int_index.lookup
    (call_meets F.slot_int_mul (typeIs_int s k t) F.entry_int_mul (F.args_int_mul_2 _ _) (lm_int_mul_list_any k t l its.toArray n none #[])
      ⟨e, rfl, ⟨_, e, rfl⟩, call_meets F.slot_list_mul ⟨_, e, rfl⟩ F.entry_list_mul (F.args_list_mul_2 _ _) (AutoListH.list___mul___list_int_3 l its.toArray n k t hfit hcap hlong) ⟨e, ?_⟩⟩)
  rw [hnew]
  exact ⟨.ref _, _, I.lnew (t' := s.toks) (r.rep k.toNat) (by rw [PyProof.Rows.lm_len_rep_flat, Nat.mul_comm]; exact hz), rfl, q _ I.fresh⟩
def mulLR : R3 := fun x y h Q => match x, y with
  | .int k, .ref a => match h[a]? with
    | some (.lst xs) => (-(2 ^ 63) ≤ k ∧ k < 2 ^ 63 ∧ xs.length * k.toNat ≤ 16777216) ∧ Q (.ref h.length) (h ++ [.lst (List.replicate k.toNat xs).flatten])
    | _ => False
  | _, _ => False
theorem o_mulL : Op3 X (binaryOp .Mult) mulLR := by
  refine ⟨fun x y h Q Q' w q => ?_, _, op_repR, fun m h H x y v u Q R rx ry q => ?_⟩
  · unfold mulLR at q ⊢
    split at q
    · split at q
      · exact ⟨q.1, w _ _ q.2⟩
      · exact q.elim
    · exact q.elim
  · unfold mulLR at q
    split at q
    · split at q
      next e1 =>
        obtain ⟨a, vs, rfl, _, ea, r1⟩ := RelD.inst R ry e1
        cases rx
        exact ⟨a, _, vs, rfl, rfl, ea, q.1.1, q.1.2.1, by rw [sizeLine_eq, ← r1.length]; exact q.1.2.2, Up.laid R (r1.rep _) q.2⟩
      next => exact q.elim
    · exact q.elim
theorem mulLR_q {h : Sto} {Q : DK} {n : Nat} {k : Int} : mulLR (.int k) (.ref n) h Q = onC h[n]? fun xs => (-(2 ^ 63) ≤ k ∧ k < 2 ^ 63 ∧ xs.length * k.toNat ≤ 16777216) ∧ Q (.ref h.length) (h ++ [.lst (List.replicate k.toNat xs).flatten]) := by
  show mulLR (.int k) (.ref n) h Q = onLst h[n]? _
  cases e : h[n]? with
  | none => simp [mulLR, onLst, e]
  | some c => cases c <;> simp [mulLR, onLst, e]
/-! ### x in xs, xs a list that stands, of any data -/
def inRD (neg : Bool) : R3 := fun x y h Q => match toP h 9 x, toP h 9 y with
  | some p, some (.list qs) => Q (.bl (if neg then !(qs.any fun z => PyData.eqv z p) else qs.any fun z => PyData.eqv z p)) h
  | _, _ => False
theorem o_inD (hu : X.A.units + 65 < cLine) : Op3 X (compareOp .In) (inRD false) := by
  refine ⟨fun x y h Q Q' w q => ?_, _, op_inD hu, fun m h H x y v u Q R rx ry q => ?_⟩
  · unfold inRD at q ⊢
    split at q
    · exact w _ _ q
    · exact q.elim
  · unfold inRD at q
    split at q
    next p qs e1 e2 =>
      obtain ⟨a1, b1⟩ := toP_shaped R (by decide) e1 rx
      obtain ⟨a2, b2⟩ := toP_shaped R (by decide) e2 ry
      exact ⟨p, qs, a1, a2, b1, b2, q m H _ .refl R (.bl _)⟩
    next => exact q.elim
theorem o_ninD (hu : X.A.units + 65 < cLine) : Op3 X (compareOp .NotIn) (inRD true) := by
  refine ⟨fun x y h Q Q' w q => ?_, _, op_notInD hu, fun m h H x y v u Q R rx ry q => ?_⟩
  · unfold inRD at q ⊢
    split at q
    · exact w _ _ q
    · exact q.elim
  · unfold inRD at q
    split at q
    next p qs e1 e2 =>
      obtain ⟨a1, b1⟩ := toP_shaped R (by decide) e1 rx
      obtain ⟨a2, b2⟩ := toP_shaped R (by decide) e2 ry
      exact ⟨p, qs, a1, a2, b1, b2, q m H _ .refl R (.bl _)⟩
    next => exact q.elim
theorem inRD_of {neg : Bool} {x y : D} {h : Sto} {Q : DK} {p : PyData} {qs : List PyData} (e1 : toP h 9 x = some p) (e2 : toP h 9 y = some (.list qs)) (q : Q (.bl (if neg then !(qs.any fun z => PyData.eqv z p) else qs.any fun z => PyData.eqv z p)) h) : inRD neg x y h Q := by
  unfold inRD
  rw [e1, e2]
  exact q
/-! ### xs.remove(x), xs.index(x), of any data -/
def rRemD (K : PySem.W.Frag) : V → List V → Hp → VK → Prop := fun x xs H Q => ∃ (a : Addr) (ys : List V) (y : V) (d : PyData) (ds : List PyData) (j : Nat) (z : PyData), x = .ref a ∧ xs = [y] ∧ H a = some (.lst ys) ∧ DpAll K H ys ds ∧ Dp K H y d ∧
  SeqAt.shaped (.list ds) = true ∧ SeqAt.shaped d = true ∧ ds[j]? = some z ∧ PyData.eqv z d = true ∧ (∀ (m : Nat) (z' : PyData), m < j → ds[m]? = some z' → PyData.eqv z' d = false) ∧ Q .non (upd H a (.lst (ys.eraseIdx j)))
theorem mt_removeD (hu : X.A.units + 65 < cLine) : MtM X "list.remove" (rRemD X.K) := by
  intro pins s σ H x xs v us Q I rx rxs h
  obtain ⟨a, ys, y, d, ds, j, z, rfl, rfl, hH, ha, hy, sl, sd, hz, hzj, hno, q⟩ := h
  cases rx
  cases rxs with
  | cons ry rt =>
    rename_i uy ut
    cases rt
    obtain ⟨bs, r1⟩ := Dp.reads I d y uy hy ry
    have hxs : PyData.canLayAll0 ds = true := SeqAt.canLay_of_shaped sl
    have hroom : X.A.units + 1 + min (PyData.depthAll ds) d.depth < cLine := room_in_shaped sd hu
    obtain ⟨zz, its, n, r, hl, e⟩ := I.lstM hH
    obtain ⟨as, h4⟩ := Dp.readsAll I ds _ its ha r
    have hn : its.length = ds.length := SeqAt.ReadsAll.length ds its as h4
    have hmap : its.map (SeqAt.readOf s.heap) = ds := SeqAt.readsAll_map ds its as hxs h4
    obtain ⟨hjd, _⟩ := List.getElem?_eq_some_iff.mp hz
    have hjl : j < its.length := by omega
    have hj : j < its.toArray.size := by simpa using hjl
    have at_ : ∀ (m : Nat) (hm : m < its.toArray.size) (z' : PyData), ds[m]? = some z' → SeqAt.readOf s.heap its.toArray[m] = z' := by
      intro m hm z' hz'
      have hml : m < its.length := by simpa using hm
      rw [← hmap, List.getElem?_map, List.getElem?_eq_getElem hml] at hz'
      have e1 : SeqAt.readOf s.heap its[m] = z' := Option.some.inj (show some (SeqAt.readOf s.heap its[m]) = some z' from hz')
      simpa using e1
    refine call_meets PySem.F.slot_list_remove ⟨_, e, rfl⟩ PySem.F.entry_list_remove (PySem.F.args_list_remove_2 _ _)
      (SeqAt.list_removeAt a its.toArray n none #[] uy (fun u => PyData.eqv (SeqAt.readOf s.heap u) d) j hj ?_ ?_ (by rw [List.size_toArray]; omega)) ⟨e, SeqAt.items_eqAt (vs := its.toArray) (show ReadsAll s.heap its.toArray.toList ds as from h4) r1 hxs (SeqAt.canLay_of_shaped sd) hroom, ?_⟩
    · show PyData.eqv (SeqAt.readOf s.heap its.toArray[j]) d = true
      rw [at_ j hj z hz]
      exact hzj
    · intro m hm hmj
      have hmd : m < ds.length := by omega
      have hz' : ds[m]? = some ds[m] := List.getElem?_eq_getElem hmd
      show PyData.eqv (SeqAt.readOf s.heap its.toArray[m]) d = false
      rw [at_ m hm _ hz']
      exact hno m _ hmj hz'
    · have rr := r.eraseIdx j
      refine ⟨.non, _, I.lset (its' := its.eraseIdx j) (t' := s.toks) hH e ?_ rr ?_, rfl, q⟩
      · show its.toArray.eraseIdxIfInBounds j = (its.eraseIdx j).toArray
        rw [List.eraseIdxIfInBounds_toArray]
      · have := len_erase ys j
        omega
/-- where the first item that is alike stands -/
def placeP (ps : List PyData) (p : PyData) : Option Nat := ps.findIdx? fun z => PyData.eqv z p
theorem placeP_some {ps : List PyData} {p : PyData} {j : Nat} (h : placeP ps p = some j) : ∃ z, ps[j]? = some z ∧ PyData.eqv z p = true ∧ ∀ (m : Nat) (z' : PyData), m < j → ps[m]? = some z' → PyData.eqv z' p = false := by
  obtain ⟨hj, h1, h2⟩ := List.findIdx?_eq_some_iff_getElem.mp h
  refine ⟨ps[j], List.getElem?_eq_getElem hj, h1, fun m z' hm hz => ?_⟩
  obtain ⟨hm2, rfl⟩ := List.getElem?_eq_some_iff.mp hz
  have := h2 m hm
  simpa using this
def remT : T3 := fun xs ds h Q => match ds with
  | [y] => match xs.mapM (toP h 8), toP h 9 y with
    | some ps, some p => ∃ j, placeP ps p = some j ∧ Q .non (xs.eraseIdx j)
    | _, _ => False
  | _ => False
def idxT : T3 := fun xs ds h Q => match ds with
  | [y] => match xs.mapM (toP h 8), toP h 9 y with
    | some ps, some p => ∃ j, placeP ps p = some j ∧ Q (.int (j : Int)) xs
    | _, _ => False
  | _ => False
theorem units65 {k : Nat} {A : Around} (r : Room k A) : A.units + 65 < cLine := by have := r.un; omega
theorem m_remove (hu : X.A.units + 65 < cLine) : Mt3 X "list.remove" remT := by
  refine ⟨fun xs ds h Q Q' w q => ?_, _, mt_removeD hu, fun m h H a xs vs ds ws Q R ea hm rx rs q => ?_⟩
  · unfold remT at q ⊢
    split at q
    · split at q
      · obtain ⟨j, h1, q⟩ := q; exact ⟨j, h1, w _ _ q⟩
      · exact q.elim
    · exact q.elim
  · unfold remT at q
    split at q
    · split at q
      next ps p e1 e2 =>
        obtain ⟨j, hj, q⟩ := q
        obtain ⟨z, z1, z2, z3⟩ := placeP_some hj
        match ws, rs with
        | [u], .cons r .nil =>
          obtain ⟨a1, b1⟩ := toP_shaped R (by decide) e2 r
          obtain ⟨a2, b2⟩ := eqX_lift R ea rx e1
          exact ⟨a, vs, u, p, ps, j, z, rfl, rfl, ea, (mapM_dp (toP_dp R 8) e1 rx).1, a1, b2, b1, z1, z2, z3, q _ _ .non (rx.erase j)⟩
      next => exact q.elim
    · exact q.elim
theorem m_index (hu : X.A.units + 65 < cLine) : Mt3 X "list.index" idxT := by
  refine ⟨fun xs ds h Q Q' w q => ?_, _, mt_indexD hu, fun m h H a xs vs ds ws Q R ea hm rx rs q => ?_⟩
  · unfold idxT at q ⊢
    split at q
    · split at q
      · obtain ⟨j, h1, q⟩ := q; exact ⟨j, h1, w _ _ q⟩
      · exact q.elim
    · exact q.elim
  · unfold idxT at q
    split at q
    · split at q
      next ps p e1 e2 =>
        obtain ⟨j, hj, q⟩ := q
        obtain ⟨z, z1, z2, z3⟩ := placeP_some hj
        match ws, rs with
        | [u], .cons r .nil =>
          obtain ⟨a1, b1⟩ := toP_shaped R (by decide) e2 r
          obtain ⟨a2, b2⟩ := eqX_lift R ea rx e1
          have g := q _ _ (.int _) rx
          have eu : upd H a (.lst vs) = H := by
            funext b
            by_cases hb : b = a
            · rw [hb, upd_same, ea]
            · rw [upd_ne hb]
          rw [eu] at g
          exact ⟨a, u, p, ps, j, z, rfl, rfl, a2, a1, b2, b1, z1, z2, z3, g⟩
      next => exact q.elim
    · exact q.elim
theorem remT_of {xs : List D} {y : D} {h : Sto} {Q : D → List D → Prop} {ps : List PyData} {p : PyData} {j : Nat} (e1 : xs.mapM (toP h 8) = some ps) (e2 : toP h 9 y = some p) (hj : placeP ps p = some j) (q : Q .non (xs.eraseIdx j)) : remT xs [y] h Q := by
  unfold remT
  simp only [e1, e2]
  exact ⟨j, hj, q⟩
theorem idxT_of {xs : List D} {y : D} {h : Sto} {Q : D → List D → Prop} {ps : List PyData} {p : PyData} {j : Nat} (e1 : xs.mapM (toP h 8) = some ps) (e2 : toP h 9 y = some p) (hj : placeP ps p = some j) (q : Q (.int (j : Int)) xs) : idxT xs [y] h Q := by
  unfold idxT
  simp only [e1, e2]
  exact ⟨j, hj, q⟩
/-! ### bits -/
def andR : R3 := fun x y h Q => match x, y with
  | .int i, .int j => Q (.int (Builtin.bitAnd i j)) h
  | _, _ => False
def xorR : R3 := fun x y h Q => match x, y with
  | .int i, .int j => Q (.int (Builtin.bitXor i j)) h
  | _, _ => False
def shlR : R3 := fun x y h Q => match x, y with
  | .int i, .int j => CShl i j ∧ Q (.int (i * 2 ^ j.toNat)) h
  | _, _ => False
def shrR : R3 := fun x y h Q => match x, y with
  | .int i, .int j => 0 ≤ j ∧ Q (.int (i / 2 ^ j.toNat)) h
  | _, _ => False
theorem o_and : Op3 X (binaryOp .BitAnd) andR := by
  refine ⟨fun x y h Q Q' w q => ?_, _, op_and, fun m h H x y v u Q R rx ry q => ?_⟩
  · unfold andR at q ⊢
    split at q
    · exact w _ _ q
    · exact q.elim
  · unfold andR at q
    split at q
    · cases rx; cases ry
      exact ⟨_, _, rfl, rfl, q m H _ .refl R (.int _)⟩
    · exact q.elim
theorem o_xor : Op3 X (binaryOp .BitXor) xorR := by
  refine ⟨fun x y h Q Q' w q => ?_, _, op_xor, fun m h H x y v u Q R rx ry q => ?_⟩
  · unfold xorR at q ⊢
    split at q
    · exact w _ _ q
    · exact q.elim
  · unfold xorR at q
    split at q
    · cases rx; cases ry
      exact ⟨_, _, rfl, rfl, q m H _ .refl R (.int _)⟩
    · exact q.elim
theorem o_shl : Op3 X (binaryOp .LShift) shlR := by
  refine ⟨fun x y h Q Q' w q => ?_, _, op_shlW, fun m h H x y v u Q R rx ry q => ?_⟩
  · unfold shlR at q ⊢
    split at q
    · exact ⟨q.1, w _ _ q.2⟩
    · exact q.elim
  · unfold shlR at q
    split at q
    · cases rx; cases ry
      exact ⟨_, _, rfl, rfl, q.1, q.2 m H _ .refl R (.int _)⟩
    · exact q.elim
theorem o_shr : Op3 X (binaryOp .RShift) shrR := by
  refine ⟨fun x y h Q Q' w q => ?_, _, op_shr, fun m h H x y v u Q R rx ry q => ?_⟩
  · unfold shrR at q ⊢
    split at q
    · exact ⟨q.1, w _ _ q.2⟩
    · exact q.elim
  · unfold shrR at q
    split at q
    · cases rx; cases ry
      exact ⟨_, _, rfl, rfl, q.1, q.2 m H _ .refl R (.int _)⟩
    · exact q.elim
theorem andR_q {h : Sto} {Q : DK} {i j : Int} : andR (.int i) (.int j) h Q = Q (.int (Builtin.bitAnd i j)) h := id rfl
theorem xorR_q {h : Sto} {Q : DK} {i j : Int} : xorR (.int i) (.int j) h Q = Q (.int (Builtin.bitXor i j)) h := id rfl
theorem shlR_q {h : Sto} {Q : DK} {i j : Int} : shlR (.int i) (.int j) h Q = (CShl i j ∧ Q (.int (i * 2 ^ j.toNat)) h) := id rfl
theorem shrR_q {h : Sto} {Q : DK} {i j : Int} : shrR (.int i) (.int j) h Q = (0 ≤ j ∧ Q (.int (i / 2 ^ j.toNat)) h) := id rfl
end
end F3
set_option maxHeartbeats 1000000
/-! HN: repr(x) of any data; xs.count(k) of ints. -/
namespace F3
open PySem PySem.Spec PyProof.Rows L2
/-- repr(x) of any data -/
def repG : N3 := fun xs h Q => match xs with
  | [d] => ∃ p, toP h 9 d = some p ∧ ShwOk p ∧ Q (.str p.shown) h
  | _ => False
def cntT : T3 := fun xs ds h Q => match ds with
  | [.int k] => match intsOf xs with
    | some ns => Q (.int ((ns.count k : Nat) : Int)) xs
    | none => False
  | _ => False
section
variable {X : Cx}
theorem call_repG (hg : X.A.guards = some []) (hu : X.A.units + 64 < cLine) : CallR X (.builtin "repr") (fun xs H Q => ∃ v p, xs = [v] ∧ Dp X.K H v p ∧ p.canLay0 = true ∧ p.depth ≤ 9 ∧ ShwOk p ∧ Q (.str p.shown) H) := by
  intro pins s σ H xs us Q I r h
  obtain ⟨v, p, rfl, dp, cl, dep, sh, q⟩ := h
  obtain ⟨u, rfl, ru⟩ := vals1 r
  obtain ⟨as, rd⟩ := Dp.reads I p v u dp ru
  have ref : ∀ {a : Addr}, u = .ref a → wpAny (model X.prog X.w) X.A (call (.builtin "repr") [u]) (EP X pins σ Q) X.xe s := by
    intro a eu
    subst eu
    exact repr_of_reads' rd sh.1 (PyData.noDict_hsm (PyData.hasDict_of_canLay p cl)) hg (by omega) (fun _ _ e => e) (fun h' t tk k => ⟨.str _, H, I.un (Un.kept k) (I.hok.kept k), ⟨_, rfl⟩, q⟩) sh.2
  cases rd with
  | none => exact P.repr_of_none ⟨.str _, H, I.tok _, ⟨_, rfl⟩, q⟩
  | bool b => exact P.repr_of_bool ⟨.str _, H, I.tok _, ⟨_, rfl⟩, q⟩
  | int i t =>
    have z : i.natAbs.log2 < 1920 := by simpa [PyData.showable] using sh.1
    exact P.repr_of_int z ⟨.str _, H, I.tok _, ⟨_, rfl⟩, q⟩
  | str x t => exact P.repr_of_str (by exact ⟨.str _, H, I.tok _, ⟨_, rfl⟩, q⟩) (by exact sh.2)
  | _ => exact ref rfl
theorem k_reprG (hg : X.A.guards = some []) (hu : X.A.units + 64 < cLine) : Call3 X (.builtin "repr") repG := by
  refine ⟨fun xs h Q Q' w q => ?_, _, call_repG hg hu, fun m h H xs vs Q R rs q => ?_⟩
  · unfold repG at q ⊢
    split at q
    · obtain ⟨p, e, sh, q⟩ := q
      exact ⟨p, e, sh, w _ _ q⟩
    · exact q.elim
  · unfold repG at q
    split at q
    next d =>
      obtain ⟨p, e, sh, q⟩ := q
      match vs, rs with
      | [v], .cons r .nil =>
        obtain ⟨dp, cl⟩ := toP_dp R 9 d p v e r
        exact ⟨v, p, rfl, dp, cl, toP_depth 9 d p e, sh, q m H _ .refl R (.str _)⟩
    next => exact q.elim
theorem m_count : Mt3 X "list.count" cntT := by
  refine ⟨fun xs ds h Q Q' w q => ?_, _, mt_lcount, fun m h H a xs vs ds ws Q R ea hm rx rs q => ?_⟩
  · unfold cntT at q ⊢
    split at q
    · split at q
      · exact w _ _ q
      · exact q.elim
    · exact q.elim
  · unfold cntT at q
    split at q
    next k =>
      split at q
      next ns e =>
        have e1 := intsOf_eq e
        subst e1
        match ws, rs with
        | [u], .cons r .nil =>
          cases r
          have g := q _ _ (.int _) rx
          have eu : upd H a (.lst vs) = H := by
            funext b
            by_cases hb : b = a
            · rw [hb, upd_same, ea]
            · rw [upd_ne hb]
          rw [eu] at g
          refine ⟨a, ns, k, rfl, rfl, ?_, g⟩
          rw [← rx.ints]
          exact .inl (.inl ea)
      next => exact q.elim
    next => exact q.elim
end
theorem cntT_q {xs : List D} {k : Int} {h : Sto} {Q : D → List D → Prop} : cntT xs [.int k] h Q = onIs (intsOf xs) fun ns => Q (.int ((ns.count k : Nat) : Int)) xs := by
  show (match intsOf xs with
    | some ns => Q (.int ((ns.count k : Nat) : Int)) xs
    | none => False) = _
  cases intsOf xs <;> rfl
def onSh (o : Option PyData) (q : PyData → Prop) (_ : Tag q := ⟨⟩) : Prop := ∃ p, o = some p ∧ ShwOk p ∧ q p
theorem repG_q {d : D} {h : Sto} {Q : DK} : repG [d] h Q = onSh (toP h 9 d) fun p => Q (.str p.shown) h := id rfl
end F3
set_option maxHeartbeats 400000
/-! SB: sheets drawn. -/
namespace F3
open PySem PySem.Spec PyProof.Rows L2
/-! ### a number drawn of a list of one -/
def Rs (h : Sto) (a : Nat) (x : Int) (g : Sto) : Sto := h.set a (.lst [.int x]) ++ g
section
variable {h g k : Sto} {a : Nat} {x y : Int}
theorem Rs_len : (Rs h a x g).length = h.length + g.length := by simp [Rs]
theorem Rs_app : Rs h a x g ++ k = Rs h a x (g ++ k) := by simp [Rs]
theorem Rs_getA (ha : a < h.length) : (Rs h a x g)[a]? = some (.lst [.int x]) := by
  unfold Rs
  rw [List.getElem?_append_left (by simpa using ha), List.getElem?_set_self (by simpa using ha)]
theorem Rs_setA (ha : a < h.length) : (Rs h a x g).set a (.lst [.int y]) = Rs h a y g := by
  unfold Rs
  rw [List.set_append, if_pos (by simpa using ha), List.set_set]
theorem Rs_get0 : (Rs h a x g)[h.length]? = g[0]? := by
  unfold Rs
  rw [List.getElem?_append_right (by simp)]; simp
theorem Rs_getk {n : Nat} : (Rs h a x g)[h.length + n]? = g[n]? := by
  unfold Rs
  rw [List.getElem?_append_right (by simp)]; simp
theorem Rs_set0 {c : Cell} : (Rs h a x g).set h.length c = Rs h a x (g.set 0 c) := by
  unfold Rs
  rw [List.set_append, if_neg (by simp)]; simp
theorem Rs_setk {n : Nat} {c : Cell} : (Rs h a x g).set (h.length + n) c = Rs h a x (g.set n c) := by
  unfold Rs
  rw [List.set_append, if_neg (by simp)]; simp
theorem Rs_mk (e : h[a]? = some (.lst [.int x])) : h = Rs h a x [] := by
  unfold Rs
  rw [List.append_nil, set_same e]
theorem cl_Rs (hs : ClS h.length h) : ClS (h.set a (.lst [.int x])).length (h.set a (.lst [.int x])) := by
  rw [List.length_set]
  exact hs.set a (by simp only [ClC, ClDs, ClD, and_self])
theorem gq_Rs {n : Nat} {xs : List D} {Q : DK} (hs : ClS h.length h) (hk : g[n]? = some (.lst xs)) (hx : ClDs h.length xs) (q : Q (.ref h.length) (Rs h a x [.lst xs])) : GQ h.length Q (.ref (h.length + n)) (Rs h a x g) := by
  have := gq_one (n := h.length) (h := h.set a (.lst [.int x])) (g := g) (k := n) (Q := Q) (by simp) hk (by simpa using hx) (cl_Rs hs) (by simpa [Rs] using q)
  simpa [Rs] using this
end
/-! ### numbers -/
def t_scell : C3 :=
  (cSeq (cIf (tT (tO ltR (tV 1) (tB3 lenR (tC3 (tV 0) tN3)))) (cRet (tO ixR (tV 0) (tV 1))) cNext)
    (cRet (tK (.int 0))))

def cellS (ns : List Int) (k : Int) : Int := if k < (ns.length : Int) then ns.getD k.toNat 0 else 0
def sp_scell : Sp3 := spD (fun (a__ : List Int × Int) => match a__ with | (ns, k) => [.fl (ns.map .int), .int k]) (fun (a__ : List Int × Int) (h : Sto) => match a__ with | (ns, k) => 0 ≤ k) (fun (a__ : List Int × Int) (h : Sto) => match a__ with | (ns, k) => .int (cellS ns k)) (fun (a__ : List Int × Int) (h : Sto) => match a__ with | (ns, k) => h)
theorem mono_scell : MonoS sp_scell := mono_spD
theorem len_scell : ∀ ds h Q E, sp_scell ds h Q E → ds.length = 2 := len_spD fun _ => rfl
theorem scell_q {ns : List Int} {k : Int} {h : Sto} {Q : DK} (hp : 0 ≤ k) (q : Q (.int (cellS ns k)) (h)) : callS sp_scell [.fl (ns.map .int), .int k] h Q := ⟨(ns, k), rfl, hp, q⟩
theorem rd_scell : ∀ ds h Q E, ClS h.length h → ClDs h.length ds → sp_scell ds h Q E → t_scell (ends3 (GQ h.length Q)) (start3 2 ds) h := by
  rintro ds h Q E hcl _ ⟨⟨ns, k⟩, rfl, hp0, q0⟩
  have hp : 0 ≤ k := hp0
  have q : Q (.int (cellS ns k)) (h) := q0
  clear hp0 q0
  try simp only [↓tV_q, ↓tO_q, ↓tT_q, ↓tN3_q, ↓tC3_q, ↓cSeq_q, ↓cIf_q, ↓tB3_q, ↓start3_q, ↓ltR_ii_q, ↓lenR_f_q, onO_some, onB_bl, List.getElem?_cons_zero, List.getElem?_cons_succ, List.map_cons, List.map_nil, List.cons_append, List.nil_append, List.length_cons, List.length_nil, List.replicate_zero, Nat.reduceAdd, Nat.reduceSub, t_scell]
  refine ifC_of (fun hc => ?_) (fun hc => ?_)
  · have hl : k < (ns.length : Int) := by simpa using hc
    obtain ⟨x, e, e2⟩ := atI_some (xs := ns) (k := k) hp hl
    have ex : cellS ns k = x := by
      unfold cellS
      rw [if_pos hl, List.getD_eq_getElem?_getD, e2]; rfl
    try simp only [↓tV_q, ↓tO_q, ↓cRet_q, ↓start3_q, ↓ixR_fi_q, onO_some, List.getElem?_cons_zero, List.getElem?_cons_succ, List.map_cons, List.map_nil, List.cons_append, List.nil_append, List.length_cons, List.length_nil, List.replicate_zero, Nat.reduceAdd, Nat.reduceSub]
    rw [atT_of (by rw [atI_map, e]; rfl), ← ex]
    exact .inl q
  · have hl : ¬ k < (ns.length : Int) := by simpa using hc
    have ex : cellS ns k = 0 := by
      unfold cellS
      rw [if_neg hl]
    try simp only [↓tK_q, ↓cNext_q, ↓cRet_q, ↓start3_q, thenE_nx, ends3_rt, List.map_cons, List.map_nil, List.cons_append, List.nil_append, List.length_cons, List.length_nil, List.replicate_zero, Nat.reduceAdd, Nat.reduceSub]
    rw [ex] at q
    exact .inl q
def b_sbig_1 : C3 :=
  (cSeq (cAsg (tO addR (tO addR (tO modR (tCall3 sp_scell (tC3 (tV 0) (tC3 (tO addR (tV 1) (tO modR (tV 6) (tK (.int 9)))) tN3))) (tO powR (tK (.int 10)) (tK (.int 18)))) (tK (.int 1))) (tO mulR (tV 6) (tV 6))) (gN 7))
    (cAsg (tO addR (tO mulR (tV 5) (tK (.int 7919))) (tO modR (tO modR (tO mulR (tV 7) (tO ixR (tV 2) (tO modR (tV 6) (tK (.int 8))))) (tO ixR (tV 3) (tO modR (tV 6) (tK (.int 8))))) (tK (.int 7919)))) (gN 5)))
def r_sbig_1 : C3 :=
  (cSeq (cAsg (tK (.int 0)) (gN 5))
    (cSeq (cFor (iRng (tC3 (tK (.int 60)) tN3)) (gN 6) b_sbig_1)
    (cRet (tV 5))))
def t_sbig : C3 :=
  (cSeq (cAsg (tTup3 (tC3 (tK (.int 48271)) (tC3 (tK (.int 69621)) (tC3 (tK (.int 16807)) (tC3 (tK (.int 39373)) (tC3 (tK (.int 21401)) (tC3 (tK (.int 60493)) (tC3 (tK (.int 87721)) (tC3 (tK (.int 31337)) tN3))))))))) (gN 2))
    (cSeq (cAsg (tTup3 (tC3 (tK (.int 99991)) (tC3 (tK (.int 99989)) (tC3 (tK (.int 99971)) (tC3 (tK (.int 99961)) (tC3 (tK (.int 99929)) (tC3 (tK (.int 99923)) (tC3 (tK (.int 99907)) (tC3 (tK (.int 99901)) tN3))))))))) (gN 3))
    (cSeq (cAsg (tCall3 sp_scell (tC3 (tV 0) (tC3 (tV 1) tN3))) (gN 4))
    (cSeq (cIf (tT (tO geR (tV 4) (tO powR (tK (.int 10)) (tK (.int 18))))) (cRet (tV 4)) cNext)
    r_sbig_1))))

def sp_sbig : Sp3 := spR (fun (a : List Int × Int) => [.fl (a.1.map .int), .int a.2]) (fun a _ => 0 ≤ a.2) (fun a h d h' => ∃ b : Int, d = .int b ∧ h' = h)
theorem mono_sbig : MonoS sp_sbig := mono_spR
theorem len_sbig : ∀ ds h Q E, sp_sbig ds h Q E → ds.length = 2 := len_spR fun _ => rfl
theorem sbig_q {ns : List Int} {k : Int} {h : Sto} {Q : DK} (hk : 0 ≤ k) (q : ∀ b : Int, Q (.int b) h) : callS sp_sbig [.fl (ns.map .int), .int k] h Q := ⟨(ns, k), rfl, hk, by rintro _ _ ⟨b, rfl, rfl⟩; exact q b⟩
theorem rd_sbig : ∀ ds h Q E, ClS h.length h → ClDs h.length ds → sp_sbig ds h Q E → t_sbig (ends3 (GQ h.length Q)) (start3 8 ds) h := by
  rintro ds h Q E hcl _ ⟨⟨ns, k⟩, rfl, k0, q⟩
  have k0' : 0 ≤ k := k0
  have q' : ∀ b : Int, Q (.int b) h := fun b => q _ _ ⟨b, rfl, rfl⟩
  clear q k0
  try simp only [↓tV_q, ↓tK_q, ↓tN3_q, ↓tC3_q, ↓tTup3_q, ↓cSeq_q, ↓cAsg_q, ↓gN_q, ↓tCall3_q, ↓start3_q, thenE_nx, onO_some, List.getElem?_cons_zero, List.getElem?_cons_succ, List.set_cons_zero, List.set_cons_succ, List.map_cons, List.map_nil, List.cons_append, List.nil_append, List.length_cons, List.length_nil, List.replicate_succ, List.replicate_zero, Nat.reduceAdd, Nat.reduceSub, t_sbig]
  refine scell_q k0' ?_
  try simp only [↓tV_q, ↓tK_q, ↓tO_q, ↓tT_q, ↓cSeq_q, ↓cIf_q, ↓gN_q, ↓powR_ii_q, ↓geR_ii_q, thenE_nx, onO_some, onB_bl, List.getElem?_cons_zero, List.getElem?_cons_succ, List.set_cons_zero, List.set_cons_succ, true_and, Int.reduceLE]
  refine ⟨by decide, ?_⟩
  refine ifC_of (fun _ => ?_) (fun _ => ?_)
  · try simp only [↓tV_q, ↓cRet_q, thenE_rt, ends3_rt, onO_some, List.getElem?_cons_zero, List.getElem?_cons_succ]
    exact .inl (q' _)
  · try simp only [↓tK_q, ↓tN3_q, ↓tC3_q, ↓cNext_q, ↓cSeq_q, ↓cAsg_q, ↓gN_q, ↓cFor_q, ↓iRng_q, ↓rngD_1q, thenE_nx, List.set_cons_zero, List.set_cons_succ, r_sbig_1]
    refine ⟨by decide, ?_⟩
    refine forL (f := fun (j : Nat) => D.int (j : Int)) (fun l ρ h' => ∃ (b : Int) (o6 o7 : Option D), ρ = [some (.fl (ns.map .int)), some (.int k), some (.tup [.int 48271, .int 69621, .int 16807, .int 39373, .int 21401, .int 60493, .int 87721, .int 31337]), some (.tup [.int 99991, .int 99989, .int 99971, .int 99961, .int 99929, .int 99923, .int 99907, .int 99901]), some (.int (cellS ns k)), some (.int b), o6, o7] ∧ h' = h) ⟨0, _, _, rfl, rfl⟩ (fun _ _ _ _ => trivial) ?_ ?_
    · rintro ρ h' ⟨b, o6, o7, rfl, rfl⟩
      try simp only [↓tV_q, ↓cRet_q, thenE_nx, ends3_rt, onO_some, List.getElem?_cons_zero, List.getElem?_cons_succ]
      exact .inl (q' _)
    · rintro l j r ρ h' F e ⟨b, o6, o7, rfl, rfl⟩ hF
      have hj : j < 60 := List.mem_range.mp (by rw [show (60 : Nat) = Int.toNat 60 from rfl, e]; simp)
      have m0 := Int.emod_nonneg (j : Int) (b := 9) (by decide)
      try simp only [↓tV_q, ↓tK_q, ↓tO_q, ↓tN3_q, ↓tC3_q, ↓cSeq_q, ↓cAsg_q, ↓gN_q, ↓tCall3_q, ↓addR_ii_q, ↓modR_ii_q, onO_some, List.getElem?_cons_zero, List.getElem?_cons_succ, List.set_cons_zero, List.set_cons_succ, true_and, Int.reduceLT, b_sbig_1]
      refine scell_q (by omega) ?_
      try simp only [↓tV_q, ↓tK_q, ↓tO_q, ↓cAsg_q, ↓gN_q, ↓addR_ii_q, ↓mulR_ii_q, ↓modR_ii_q, ↓powR_ii_q, ↓ixR_ti_q, thenE_nx, onO_some, List.getElem?_cons_zero, List.getElem?_cons_succ, List.set_cons_zero, List.set_cons_succ, true_and, Int.reduceLT, Int.reduceLE]
      refine ⟨by decide, by decide, mulOk_w (a := 8) (b := 8) (by omega) (by omega) (by decide), mulOk_r (by decide), ?_⟩
      have i0 := Int.emod_nonneg (j : Int) (b := 8) (by decide)
      have i1 := Int.emod_lt_of_pos (j : Int) (show (0 : Int) < 8 by decide)
      refine atT_all i0 (by simpa using i1) fun y hy => ?_
      have hy : ∃ m : Int, y = .int m ∧ 0 < m ∧ m < 100000 := by
        simp only [List.mem_cons, List.not_mem_nil, or_false] at hy
        rcases hy with rfl | rfl | rfl | rfl | rfl | rfl | rfl | rfl
        all_goals exact ⟨_, rfl, by decide, by decide⟩
      obtain ⟨m, rfl, m0, m1⟩ := hy
      try simp only [↓tV_q, ↓tK_q, ↓tO_q, ↓mulR_ii_q, ↓modR_ii_q, ↓ixR_ti_q, onO_some, List.getElem?_cons_zero, List.getElem?_cons_succ, true_and, Int.reduceLT]
      refine ⟨mulOk_r (by omega), ?_⟩
      refine atT_all i0 (by simpa using i1) fun y hy => ?_
      have hy : ∃ m : Int, y = .int m ∧ 0 < m := by
        simp only [List.mem_cons, List.not_mem_nil, or_false] at hy
        rcases hy with rfl | rfl | rfl | rfl | rfl | rfl | rfl | rfl
        all_goals exact ⟨_, rfl, by decide⟩
      obtain ⟨p, rfl, p0⟩ := hy
      try simp only [↓tK_q, ↓gN_q, ↓addR_ii_q, ↓modR_ii_q, loopE_nx, List.set_cons_zero, List.set_cons_succ, true_and, Int.reduceLT]
      exact ⟨p0, hF _ _ ⟨_, _, _, rfl, rfl⟩⟩
def t_sdigit : C3 :=
  (cSeq (cAsg (tO modR (tO ixR (tV 0) (tK (.int 0))) (tV 1)) (gN 2))
    (cSeq (cAsg (tO divR (tO ixR (tV 0) (tK (.int 0))) (tV 1)) (gSub3 (tV 0) (tK (.int 0))))
    (cRet (tV 2))))

def sp_sdigit : Sp3 := spR (fun (a : Nat × Int × Int) => [.ref a.1, .int a.2.2]) (fun a h => h[a.1]? = some (.lst [.int a.2.1]) ∧ 0 < a.2.2 ∧ a.2.2 < 2 ^ 2000) (fun a h d h' => d = .int (a.2.1 % a.2.2) ∧ h' = h.set a.1 (.lst [.int (a.2.1 / a.2.2)]))
theorem mono_sdigit : MonoS sp_sdigit := mono_spR
theorem len_sdigit : ∀ ds h Q E, sp_sdigit ds h Q E → ds.length = 2 := len_spR fun _ => rfl
theorem rd_sdigit : ∀ ds h Q E, ClS h.length h → ClDs h.length ds → sp_sdigit ds h Q E → t_sdigit (ends3 (GQ h.length Q)) (start3 3 ds) h := by
  rintro ds h Q E _ _ ⟨⟨a, x, n⟩, rfl, ⟨ha, h0, h1⟩, q⟩
  have ha' : h[a]? = some (.lst [.int x]) := ha
  have h0' : 0 < n := h0
  have h1' : n < 2 ^ 2000 := h1
  try simp only [↓tV_q, ↓tK_q, ↓tO_q, ↓cSeq_q, ↓cRet_q, ↓cAsg_q, ↓gN_q, ↓gSub3_q, ↓setR_q, ↓start3_q, ↓divR_ii_q, ↓modR_ii_q, ↓ixR_rq, thenE_nx, ends3_rt, onO_some, onC_q, onN_q, atT_0, ixN1_0, List.getElem?_cons_zero, List.getElem?_cons_succ, List.set_cons_zero, List.set_cons_succ, List.map_cons, List.map_nil, List.cons_append, List.nil_append, List.length_cons, List.length_nil, List.replicate_succ, List.replicate_zero, Nat.reduceAdd, Nat.reduceSub, t_sdigit, ha']
  exact ⟨h0', divOk_of h0' (Int.lt_of_lt_of_le h1' (by decide)), .inl (q _ _ ⟨rfl, rfl⟩)⟩
theorem sdigit_q {h g : Sto} {a : Nat} {x n : Int} {Q : DK} (ha : a < h.length) (h0 : 0 < n) (h1 : n < 2 ^ 2000) (q : ∀ x' r : Int, 0 ≤ r → r < n → Q (.int r) (Rs h a x' g)) : callS sp_sdigit [.ref a, .int n] (Rs h a x g) Q :=
  ⟨(a, x, n), rfl, ⟨Rs_getA ha, h0, h1⟩, by
    rintro _ _ ⟨rfl, rfl⟩
    dsimp only
    rw [Rs_setA ha]
    exact q _ _ (Int.emod_nonneg _ (Int.ne_of_gt h0)) (Int.emod_lt_of_pos _ h0)⟩
/-! ### sheets -/
abbrev Tri := Int × Int × Int
def triD (t : Tri) : D := .tup [.int t.1, .int t.2.1, .int t.2.2]
def sidesS (sh : List Tri) : List Int := sh.flatMap fun t => [t.1, t.2.1, t.2.2]
def tiesL (m : Nat) : List Nat := (List.range (3 * m)).map (· + 1)
def ShOk (sh : List Tri) : Prop := ∃ m, 1 ≤ m ∧ m ≤ 6 ∧ sh.length = 2 * m ∧ ((sidesS sh).map Int.natAbs).Perm (tiesL m ++ tiesL m)
def chk : List Int → List Tri
  | a :: b :: c :: r => (a, b, c) :: chk r
  | _ => []
theorem chk_spec : ∀ (n : Nat) (o : List Int), o.length = 3 * n → sidesS (chk o) = o ∧ (chk o).length = n ∧ ∀ k, k < n → ∃ t, (chk o)[k]? = some t ∧ (o.drop (3 * k)).take 3 = [t.1, t.2.1, t.2.2]
  | 0, o, h => by
    have : o = [] := List.eq_nil_of_length_eq_zero (by omega)
    subst this
    exact ⟨rfl, rfl, fun k hk => absurd hk (by omega)⟩
  | n + 1, o, h => by
    match o, h with
    | a :: b :: c :: r, h =>
      obtain ⟨h1, h2, h3⟩ := chk_spec n r (by simp at h; omega)
      refine ⟨?_, ?_, fun k hk => ?_⟩
      · show sidesS ((a, b, c) :: chk r) = _
        unfold sidesS at h1 ⊢
        rw [List.flatMap_cons, h1]; rfl
      · show (chk r).length + 1 = n + 1
        rw [h2]
      · cases k with
        | zero => exact ⟨(a, b, c), rfl, rfl⟩
        | succ k =>
          obtain ⟨t, e1, e2⟩ := h3 k (by omega)
          refine ⟨t, e1, ?_⟩
          rw [show 3 * (k + 1) = 3 * k + 1 + 1 + 1 by omega]
          exact e2
theorem cl_tri {n : Nat} {sh : List Tri} : ClDs n (sh.map triD) := ClDs.all fun x hx => by obtain ⟨p, _, rfl⟩ := List.mem_map.mp hx; simp [triD, ClD, ClDs]
/-- a draw in hand: the list of one at a -/
def spS {α : Type} (args : α → List D) (pre : α → Sto → Prop) (res : α → Sto → D → Sto → Prop) : Sp3 :=
  spR (fun (a : Nat × Int × α) => .ref a.1 :: args a.2.2) (fun a h => h[a.1]? = some (.lst [.int a.2.1]) ∧ pre a.2.2 h) (fun a h d h' => ∃ x g, res a.2.2 h d g ∧ h' = Rs h a.1 x g)
def b_lsheet_1 : C3 :=
  (cDrop (tLM appT (tV 3) (tC3 (tO mulR (tLM popAtT (tV 2) (tC3 (tCall3 sp_sdigit (tC3 (tV 0) (tC3 (tB3 lenR (tC3 (tV 2) tN3)) tN3))) tN3)) (tO subR (tK (.int 1)) (tO mulR (tK (.int 2)) (tCall3 sp_sdigit (tC3 (tV 0) (tC3 (tK (.int 2)) tN3)))))) tN3)))
def e_lsheet_1 : E3 :=
  (tB3 tupR (tC3 (tSl3 (tV 3) (oSo (tO mulR (tK (.int 3)) (tV 4))) (oSo (tO addR (tO mulR (tK (.int 3)) (tV 4)) (tK (.int 3))))) tN3))
def r_lsheet_1 : C3 :=
  (cSeq (cAsg (tO mulLR (tK (.int 2)) (tNew (xRg2 (tK (.int 1)) (tO addR (tO divR (tO mulR (tV 1) (tK (.int 3))) (tK (.int 2))) (tK (.int 1)))))) (gN 2))
    (cSeq (cAsg (tNew tN3) (gN 3))
    (cSeq (cWhile (tT (tOX (eqX true) (tV 2) tN3)) b_lsheet_1)
    (cRet (tNew (tLc3 (iRng (tC3 (tV 1) tN3)) (gN 4) bYes e_lsheet_1 [4]))))))
def t_lsheet : C3 :=
  (cSeq (cAsg (tO addR (tK (.int 2)) (tO mulR (tK (.int 2)) (tCall3 sp_sdigit (tC3 (tV 0) (tC3 (tK (.int 4)) tN3))))) (gN 1))
    (cSeq (cIf (tT (tO eqR (tCall3 sp_sdigit (tC3 (tV 0) (tC3 (tK (.int 8)) tN3))) (tK (.int 1)))) (cAsg (tO addR (tK (.int 10)) (tO mulR (tK (.int 2)) (tCall3 sp_sdigit (tC3 (tV 0) (tC3 (tK (.int 2)) tN3))))) (gN 1)) cNext)
    r_lsheet_1))

def sp_lsheet : Sp3 := spR (fun (a : Nat × Int) => [.ref a.1]) (fun a h => h[a.1]? = some (.lst [.int a.2])) (fun a h d h' => ∃ (x : Int) (sh : List Tri), ShOk sh ∧ d = .ref h.length ∧ h' = Rs h a.1 x [.lst (sh.map triD)])
theorem mono_lsheet : MonoS sp_lsheet := mono_spR
theorem len_lsheet : ∀ ds h Q E, sp_lsheet ds h Q E → ds.length = 1 := len_spR fun _ => rfl
theorem lsheet_q {h g : Sto} {a : Nat} {x : Int} {Q : DK} (ha : a < h.length) (q : ∀ (x : Int) (sh : List Tri), ShOk sh → Q (.ref (h.length + g.length)) (Rs h a x (g ++ [.lst (sh.map triD)]))) : callS sp_lsheet [.ref a] (Rs h a x g) Q :=
  ⟨(a, x), rfl, Rs_getA ha, by
    rintro _ _ ⟨x', sh, ho, rfl, rfl⟩
    have e : Rs (Rs h a x g) a x' [.lst (sh.map triD)] = Rs h a x' (g ++ [.lst (sh.map triD)]) := by
      show (Rs h a x g).set a _ ++ _ = _
      rw [Rs_setA ha, Rs_app]
    dsimp only
    rw [e, Rs_len]
    exact q x' sh ho⟩
theorem perm_eraseIdx : ∀ {P : List Int} {k : Nat} (hl : k < P.length), P.Perm (P[k] :: P.eraseIdx k)
  | a :: P, 0, _ => List.Perm.refl _
  | a :: P, k + 1, hl => by
    have hl' : k < P.length := by simpa using hl
    exact ((perm_eraseIdx hl').cons a).trans (List.Perm.swap _ _ _)
theorem perm_pop {P : List Int} {O : List Int} {k : Nat} {i e : Int} {T : List Nat} (hk : P[k]? = some i) (he : e = 1 ∨ e = -1) (h : (O.map Int.natAbs ++ P.map Int.natAbs).Perm T) : ((O ++ [i * e]).map Int.natAbs ++ (P.eraseIdx k).map Int.natAbs).Perm T := by
  obtain ⟨hl, rfl⟩ := List.getElem?_eq_some_iff.mp hk
  have h1 : (P[k] * e).natAbs = P[k].natAbs := by rcases he with rfl | rfl <;> omega
  have h2 : P.Perm (P[k] :: P.eraseIdx k) := perm_eraseIdx hl
  refine List.Perm.trans ?_ h
  rw [List.map_append, List.map_singleton, h1, List.append_assoc]
  refine List.Perm.append_left _ ?_
  have := (h2.map Int.natAbs).symm
  rw [List.map_cons] at this
  exact this
def stubs (m : Nat) : List Int := (List.range (3 * m)).map (fun (k : Nat) => 1 + (k : Int)) ++ (List.range (3 * m)).map (fun (k : Nat) => 1 + (k : Int))
theorem stubs_abs {m : Nat} : (stubs m).map Int.natAbs = tiesL m ++ tiesL m := by
  have : ((List.range (3 * m)).map (fun (k : Nat) => 1 + (k : Int))).map Int.natAbs = tiesL m := by
    rw [List.map_map]
    refine List.map_congr_left fun k _ => ?_
    show (1 + (k : Int)).natAbs = k + 1
    omega
  unfold stubs
  rw [List.map_append, this]
theorem eqX_is {h : Sto} {n : Nat} {ns : List Int} {Q : DK} (e : h[n]? = some (.lst (ns.map .int))) : eqX true (.ref n) [] h Q = Q (.bl (decide (ns ≠ []))) h := by
  have t1 : toP h 9 (.ref n) = some (.list (ns.map PyData.int)) := toP_refI e
  unfold eqX
  rw [t1, List.mapM_nil]
  cases ns with
  | nil => rfl
  | cons a r => rfl
theorem cutMid {xs : List D} {k e : Nat} (hk : k ≤ e) (he : e ≤ xs.length) : cutD xs (some (k : Int)) (some (e : Int)) = (xs.drop k).take (e - k) := by
  unfold cutD
  rw [HT.sIx_nat, HT.sIx_nat, Nat.min_eq_left he, Nat.min_eq_left (Nat.le_trans hk he)]
theorem seqIx {r : Int} {n : Nat} (h0 : 0 ≤ r) (h1 : r < n) : seqIndex? r n = some r.toNat := by
  unfold seqIndex?
  simp only
  rw [if_neg (show ¬ r < 0 by omega), if_pos (by simp; omega)]
theorem map_erase : ∀ {P : List Int} {k : Nat}, (P.map D.int).eraseIdx k = (P.eraseIdx k).map D.int
  | [], _ => rfl
  | _ :: _, 0 => rfl
  | _ :: P, k + 1 => congrArg (D.int _ :: ·) (map_erase (P := P) (k := k))
theorem rng_at {n x : Nat} {l r : List Nat} (e : List.range n = l ++ x :: r) : x = l.length ∧ x < n := by
  have h1 : l.length < n := by
    have := congrArg List.length e
    simp at this
    omega
  have h2 : (List.range n)[l.length]? = some x := by rw [e, List.getElem?_append_right (Nat.le_refl _), Nat.sub_self]; rfl
  rw [List.getElem?_range h1] at h2
  injection h2 with h2
  exact ⟨h2.symm, h2 ▸ h1⟩
theorem rd_lsheet : ∀ ds h Q E, ClS h.length h → ClDs h.length ds → sp_lsheet ds h Q E → t_lsheet (ends3 (GQ h.length Q)) (start3 5 ds) h := by
  rintro ds h Q E hcl _ ⟨⟨a, x⟩, rfl, hx, q⟩
  have hx' : h[a]? = some (.lst [.int x]) := hx
  have ha : a < h.length := (List.getElem?_eq_some_iff.mp hx').1
  have q' : ∀ (x : Int) (sh : List Tri), ShOk sh → Q (.ref h.length) (Rs h a x [.lst (sh.map triD)]) := fun x sh ho => q _ _ ⟨x, sh, ho, rfl, rfl⟩
  conv => arg 3; rw [Rs_mk hx']
  clear q hx hx'
  try simp only [↓tV_q, ↓tK_q, ↓tO_q, ↓tN3_q, ↓tC3_q, ↓cSeq_q, ↓cAsg_q, ↓tCall3_q, ↓start3_q, onO_some, List.getElem?_cons_zero, List.map_cons, List.map_nil, List.cons_append, List.nil_append, List.length_cons, List.length_nil, List.replicate_succ, List.replicate_zero, Nat.reduceAdd, Nat.reduceSub, t_lsheet]
  refine sdigit_q ha (by decide) (by decide) fun x d d0 d1 => ?_
  try simp only [↓tV_q, ↓tK_q, ↓tO_q, ↓tT_q, ↓tN3_q, ↓tC3_q, ↓cSeq_q, ↓cIf_q, ↓gN_q, ↓tCall3_q, ↓start3_q, ↓addR_ii_q, ↓mulR_ii_q, thenE_nx, onO_some, List.getElem?_cons_zero, List.set_cons_zero, List.set_cons_succ, List.map_cons, List.map_nil, List.cons_append, List.nil_append, List.length_cons, List.length_nil, List.replicate_succ, List.replicate_zero, Nat.reduceAdd, Nat.reduceSub]
  have fin : ∀ (x : Int) (m : Nat), 1 ≤ m → m ≤ 6 → r_lsheet_1 (ends3 (GQ h.length Q)) [some (.ref a), some (.int (2 * m : Nat)), none, none, none] (Rs h a x []) := by
    intro x m m1 m6
    try simp only [↓tV_q, ↓tK_q, ↓tO_q, ↓tN3_q, ↓tNew_q, ↓cSeq_q, ↓cAsg_q, ↓gN_q, ↓xRg2_q, ↓xRg_q, ↓addR_ii_q, ↓mulR_ii_q, ↓divR_ii_q, ↓mulLR_q, ↓Rs_len, ↓Rs_app, ↓Rs_get0, thenE_nx, onO_some, onI_int, onC_q, List.getElem?_cons_zero, List.getElem?_cons_succ, List.set_cons_zero, List.set_cons_succ, List.cons_append, List.nil_append, List.length_cons, List.length_nil, Nat.reduceAdd, Nat.add_zero, r_lsheet_1]
    refine ⟨mulOk_r (by decide), divOk_of (by decide) (by decide), ?_⟩
    have eN : ((2 * m : Nat) : Int) * 3 / 2 + 1 - 1 = ((3 * m : Nat) : Int) := by omega
    rw [eN]
    refine ⟨⟨by decide, by decide, by omega, by omega, by omega⟩, ?_⟩
    have e0 : (List.replicate (Int.toNat 2) (List.map (fun (k : Nat) => D.int (1 + ↑k)) (List.range ((3 * m : Nat) : Int).toNat))).flatten = (stubs m).map D.int := by
      rw [Int.toNat_natCast]
      simp [stubs, Int.toNat, List.map_map, List.replicate_succ, Function.comp_def]
    have el : (List.map (fun (k : Nat) => D.int (1 + ↑k)) (List.range ((3 * m : Nat) : Int).toNat)).length = 3 * m := by simp; omega
    generalize List.map (fun (k : Nat) => D.int (1 + ↑k)) (List.range ((3 * m : Nat) : Int).toNat) = c0 at e0 el ⊢
    skip
    refine ⟨⟨by decide, by decide, by rw [el, show Int.toNat 2 = 2 from rfl]; omega⟩, ?_⟩
    rw [e0]
    skip
    refine whL (fun n ρ h' => ∃ (x : Int) (O P : List Int), n = P.length ∧ ρ = [some (.ref a), some (.int (2 * m : Nat)), some (.ref (h.length + 1)), some (.ref (h.length + 2)), none] ∧ h' = Rs h a x [.lst c0, .lst (P.map .int), .lst (O.map .int)] ∧ (O.map Int.natAbs ++ P.map Int.natAbs).Perm (tiesL m ++ tiesL m)) ⟨x, [], stubs m, rfl, rfl, rfl, by rw [List.map_nil, List.nil_append, stubs_abs]⟩ ?_
    rintro n ρ h' F ⟨x, O, P, rfl, rfl, rfl, hp⟩ hF
    have hlen : O.length + P.length = 6 * m := by
      have := hp.length_eq
      simp [tiesL] at this
      omega
    try simp only [↓tV_q, ↓tT_q, ↓tN3_q, ↓tOX_q, onO_some, List.getElem?_cons_zero, List.getElem?_cons_succ]
    rw [eqX_is (ns := P) (by rw [Rs_getk]; rfl)]
    try simp only [onB_bl]
    refine ifC_of (fun hc => ?_) (fun hc => ?_)
    · have hP : P ≠ [] := by simpa using hc
      have hl : 0 < P.length := List.length_pos_iff.mpr hP
      try simp only [↓tV_q, ↓tO_q, ↓tN3_q, ↓tC3_q, ↓cDrop_q, ↓tCall3_q, ↓tB3_q, ↓tLM_q, ↓lmD_q, ↓lenR_rq, ↓Rs_getk, onO_some, onC_q, List.getElem?_cons_zero, List.getElem?_cons_succ, b_lsheet_1]
      refine sdigit_q ha (by simpa using hl) (by simp only [List.length_map]; exact Int.lt_of_lt_of_le (show (P.length : Int) < 40 by omega) (by decide)) fun x r r0 r1 => ?_
      rw [List.length_map] at r1
      try simp only [↓tN3_q, ↓popAtT_q, ↓Rs_getk, onC_q, List.getElem?_cons_zero, List.getElem?_cons_succ]
      refine ⟨⟨by omega, by omega⟩, ?_⟩
      have hk : r.toNat < P.length := by omega
      rw [List.length_map, seqIx r0 r1, onN_q, List.getElem?_map, List.getElem?_eq_getElem hk, Option.map_some, onD_q, map_erase]
      try simp only [↓tV_q, ↓tK_q, ↓tO_q, ↓tN3_q, ↓tC3_q, ↓tCall3_q, ↓Rs_setk, onO_some, List.getElem?_cons_zero, List.set_cons_zero, List.set_cons_succ]
      refine sdigit_q ha (by decide) (by decide) fun x e e0' e1 => ?_
      try simp only [↓tN3_q, ↓appT_q, ↓subR_ii_q, ↓mulR_ii_q, ↓Rs_getk, ↓Rs_setk, loopE_nx, onC_q, List.getElem?_cons_zero, List.getElem?_cons_succ, List.set_cons_zero, List.set_cons_succ]
      refine ⟨mulOk_r (by omega), mulOk_r (by omega), by rw [List.length_map]; omega, hF _ _ _ ?_ ⟨x, O ++ [P[r.toNat] * (1 - 2 * e)], P.eraseIdx r.toNat, rfl, rfl, by rw [List.map_append, List.map_singleton], perm_pop (List.getElem?_eq_getElem hk) (by omega) hp⟩⟩
      rw [List.length_eraseIdx, if_pos hk]
      omega
    · have hP : P = [] := by simpa using hc
      subst hP
      try simp only [↓tV_q, ↓tN3_q, ↓tC3_q, ↓tNew_q, ↓cRet_q, ↓iRng_q, ↓rngD_1q, ↓tLc3_q, thenE_nx, onO_some, wipe3_nil, wipe3_cons, List.getElem?_cons_zero, List.getElem?_cons_succ, List.set_cons_zero, List.set_cons_succ, List.map_nil]
      have hO : O.length = 3 * (2 * m) := by simp at hlen; omega
      obtain ⟨s1, s2, s3⟩ := chk_spec (2 * m) O hO
      refine ⟨by omega, by simp; omega, ?_⟩
      rw [Int.toNat_natCast]
      refine lcL (f := fun (k : Nat) => D.int (k : Int)) (fun l acc h' => ∃ G, acc = ((chk O).take l.length).map triD ∧ h' = Rs h a x (.lst c0 :: .lst [] :: .lst (O.map .int) :: G)) ⟨[], rfl, rfl⟩ (fun _ _ _ _ => trivial) ?_ ?_
      · rintro acc h' ⟨G, rfl, rfl⟩
        rw [List.length_range, List.take_of_length_le (by omega)]
        try simp only [↓Rs_len, ↓Rs_app, ends3_rt, List.cons_append, List.length_cons]
        refine gq_Rs hcl (by simp) cl_tri (q' x (chk O) ⟨m, m1, m6, s2, ?_⟩)
        rw [s1]
        simpa using hp
      · rintro l k r acc h' F e ⟨G, rfl, rfl⟩ hF
        obtain ⟨ek, kl⟩ := rng_at e
        obtain ⟨t, t1, t2⟩ := s3 k kl
        try simp only [↓tV_q, ↓tK_q, ↓tO_q, ↓tN3_q, ↓tC3_q, ↓gN_q, ↓bYes_q, ↓tB3_q, ↓tSl3_q, ↓oSo_q, ↓addR_ii_q, ↓mulR_ii_q, ↓slR_rq, ↓tupR_rq, ↓Rs_len, ↓Rs_app, ↓Rs_getk, onO_some, onI_int, ifC_true, onC_q, List.getElem?_cons_zero, List.getElem?_cons_succ, List.set_cons_zero, List.set_cons_succ, List.cons_append, List.length_cons, e_lsheet_1]
        refine ⟨mulOk_r (by omega), mulOk_r (by omega), ?_⟩
        have ec : cutD (O.map D.int) (some (3 * (k : Int))) (some (3 * (k : Int) + 3)) = [.int t.1, .int t.2.1, .int t.2.2] := by
          have := cutMid (xs := O.map D.int) (k := 3 * k) (e := 3 * k + 3) (by omega) (by rw [List.length_map]; omega)
          rw [show 3 * k + 3 - 3 * k = 3 by omega, ← List.map_drop, ← List.map_take, t2] at this
          exact this
        rw [ec, get_new]
        try simp only [↓Rs_app, onC_q, List.cons_append]
        refine hF _ _ ⟨G ++ [.lst [.int t.1, .int t.2.1, .int t.2.2]], ?_, rfl⟩
        rw [List.length_append, List.length_singleton, List.take_add_one, ← ek, t1, List.map_append]; rfl
  refine ⟨mulOk_r (by omega), ?_⟩
  refine sdigit_q ha (by decide) (by decide) fun x b b0 b1 => ?_
  try simp only [↓tK_q, ↓eqR_ii_q, onB_bl]
  refine ifC_of (fun hc => ?_) (fun hc => ?_)
  · try simp only [↓tV_q, ↓tK_q, ↓tO_q, ↓tN3_q, ↓tC3_q, ↓cAsg_q, ↓tCall3_q, onO_some, List.getElem?_cons_zero]
    refine sdigit_q ha (by decide) (by decide) fun x e e0 e1 => ?_
    try simp only [↓gN_q, ↓addR_ii_q, ↓mulR_ii_q, thenE_nx, List.set_cons_zero, List.set_cons_succ]
    refine ⟨mulOk_r (by omega), ?_⟩
    have := fin x (5 + e.toNat) (by omega) (by omega)
    rw [show ((2 * (5 + e.toNat) : Nat) : Int) = 10 + 2 * e by omega] at this
    exact this
  · try simp only [↓cNext_q, thenE_nx]
    have := fin x (1 + d.toNat) (by omega) (by omega)
    rw [show ((2 * (1 + d.toNat) : Nat) : Int) = 2 + 2 * d by omega] at this
    exact this
end F3
set_option maxHeartbeats 400000
/-! SC: heaps (plain): parts of a list by pairs that join, and their sorted form. -/
namespace F3
open PySem PySem.Spec PyProof.Rows L2
section
variable {α : Type} [DecidableEq α]
/-- led from one to another by pairs, either way -/
inductive Ln (ps : List (α × α)) : α → α → Prop
  | refl (x : α) : Ln ps x x
  | fw {x y z : α} : Ln ps x y → (y, z) ∈ ps → Ln ps x z
  | bw {x y z : α} : Ln ps x y → (z, y) ∈ ps → Ln ps x z
theorem Ln.trans {ps : List (α × α)} {x y z : α} (h1 : Ln ps x y) (h2 : Ln ps y z) : Ln ps x z := by
  induction h2 with
  | refl => exact h1
  | fw _ m ih => exact ih.fw m
  | bw _ m ih => exact ih.bw m
theorem Ln.symm {ps : List (α × α)} {x y : α} (h : Ln ps x y) : Ln ps y x := by
  induction h with
  | refl => exact .refl _
  | fw _ m ih => exact ((Ln.refl _).bw m).trans ih
  | bw _ m ih => exact ((Ln.refl _).fw m).trans ih
theorem Ln.mono {ps qs : List (α × α)} (hs : ∀ p ∈ ps, p ∈ qs) {x y : α} (h : Ln ps x y) : Ln qs x y := by
  induction h with
  | refl => exact .refl _
  | fw _ m ih => exact ih.fw (hs _ m)
  | bw _ m ih => exact ih.bw (hs _ m)
theorem Ln.none {x y : α} (h : Ln [] x y) : y = x := by
  induction h with
  | refl => rfl
  | fw _ m _ => cases m
  | bw _ m _ => cases m
structure Part (E : List α) (ps : List (α × α)) (hs : List (List α)) : Prop where
  fl : hs.flatten.Perm E
  ne : ∀ H ∈ hs, H ≠ []
  cn : ∀ H ∈ hs, ∀ x ∈ H, ∀ y ∈ H, Ln ps x y
  cl : ∀ H ∈ hs, ∀ x ∈ H, ∀ y, Ln ps x y → y ∈ H
theorem Part.start {E : List α} : Part E [] (E.map fun x => [x]) where
  fl := by
    have : (E.map fun x => [x]).flatten = E := by
      induction E with
      | nil => rfl
      | cons a r ih => rw [List.map_cons, List.flatten_cons, ih]; rfl
    rw [this]
  ne := by
    intro H hH e
    obtain ⟨x, _, rfl⟩ := List.mem_map.mp hH
    cases e
  cn := by
    intro H hH x hx y hy
    obtain ⟨z, _, rfl⟩ := List.mem_map.mp hH
    rw [List.mem_singleton.mp hx, List.mem_singleton.mp hy]
    exact .refl _
  cl := by
    intro H hH x hx y h
    rw [h.none]
    exact hx
def isIn (x : α) (H : List α) : Bool := decide (x ∈ H)
theorem isIn_iff {x : α} {H : List α} : isIn x H = true ↔ x ∈ H := by simp [isIn]
theorem isIn_cons {x a : α} {r : List α} : isIn x (a :: r) = (decide (a = x) || isIn x r) := by
  unfold isIn
  by_cases h1 : a = x
  · subst h1; simp
  · have : ¬ x = a := fun e => h1 e.symm
    simp [h1, this]
/-- the heaps that hold one or the other are put together -/
def touch (a b : α) (H : List α) : Bool := decide (a ∈ H) || decide (b ∈ H)
def unite (hs : List (List α)) (a b : α) : List (List α) := hs.filter (fun H => !touch a b H) ++ [(hs.filter (touch a b)).flatten]
theorem Part.unite {E : List α} {ps : List (α × α)} {hs : List (List α)} {a b : α} (P : Part E ps hs) (ha : a ∈ E) (hb : b ∈ E) : Part E (ps ++ [(a, b)]) (unite hs a b) := by
  have up : ∀ {x y : α}, Ln ps x y → Ln (ps ++ [(a, b)]) x y := fun h => h.mono fun p hp => List.mem_append_left _ hp
  have ab : Ln (ps ++ [(a, b)]) a b := (Ln.refl a).fw (List.mem_append_right _ List.mem_cons_self)
  have inE : ∀ {z : α}, z ∈ E → ∃ H ∈ hs, z ∈ H := fun hz => List.mem_flatten.mp (P.fl.mem_iff.mpr hz)
  have both : ∀ {x : α}, x ∈ (hs.filter (touch a b)).flatten ↔ ∃ H ∈ hs, touch a b H = true ∧ x ∈ H := by
    intro x
    rw [List.mem_flatten]
    constructor
    · rintro ⟨H, h1, h2⟩
      obtain ⟨h1, h3⟩ := List.mem_filter.mp h1
      exact ⟨H, h1, h3, h2⟩
    · rintro ⟨H, h1, h3, h2⟩
      exact ⟨H, List.mem_filter.mpr ⟨h1, h3⟩, h2⟩
  have toA : ∀ {x : α}, x ∈ (hs.filter (touch a b)).flatten → Ln (ps ++ [(a, b)]) x a := by
    intro x hx
    obtain ⟨H, h1, h2, h3⟩ := both.mp hx
    rcases Bool.or_eq_true _ _ ▸ (show (decide (a ∈ H) || decide (b ∈ H)) = true from h2) with h | h
    · exact up (P.cn H h1 x h3 a (of_decide_eq_true h))
    · exact (up (P.cn H h1 x h3 b (of_decide_eq_true h))).trans ab.symm
  have aB : a ∈ (hs.filter (touch a b)).flatten := by
    obtain ⟨H, h1, h2⟩ := inE ha
    exact both.mpr ⟨H, h1, by simp [touch, h2], h2⟩
  have bB : b ∈ (hs.filter (touch a b)).flatten := by
    obtain ⟨H, h1, h2⟩ := inE hb
    exact both.mpr ⟨H, h1, by simp [touch, h2], h2⟩
  refine ⟨?_, ?_, ?_, ?_⟩
  · unfold F3.unite
    rw [List.flatten_append, List.flatten_cons, List.flatten_nil, List.append_nil]
    refine List.Perm.trans List.perm_append_comm ?_
    rw [← List.flatten_append]
    exact (List.filter_append_perm (touch a b) hs).flatten.trans P.fl
  · intro H hH
    rcases List.mem_append.mp hH with h | h
    · exact P.ne H (List.mem_filter.mp h).1
    · rw [List.mem_singleton.mp h]
      intro e
      rw [e] at aB
      cases aB
  · intro H hH x hx y hy
    rcases List.mem_append.mp hH with h | h
    · exact up (P.cn H (List.mem_filter.mp h).1 x hx y hy)
    · rw [List.mem_singleton.mp h] at hx hy
      exact (toA hx).trans (toA hy).symm
  · intro H hH x hx y hl
    have step : ∀ {u v : α}, u ∈ H → ((u, v) ∈ ps ∨ (v, u) ∈ ps) ∨ ((u = a ∧ v = b) ∨ (u = b ∧ v = a)) → v ∈ H := by
      intro u v hu c
      rcases List.mem_append.mp hH with h | h
      · obtain ⟨h1, h2⟩ := List.mem_filter.mp h
        rcases c with c | c
        · exact P.cl H h1 u hu v (by rcases c with c | c; exact (Ln.refl _).fw c; exact (Ln.refl _).bw c)
        · exfalso
          rcases c with ⟨rfl, _⟩ | ⟨rfl, _⟩
          · simp [touch, hu] at h2
          · simp [touch, hu] at h2
      · rw [List.mem_singleton.mp h] at hu ⊢
        rcases c with c | c
        · obtain ⟨H0, h1, h2, h3⟩ := both.mp hu
          exact both.mpr ⟨H0, h1, h2, P.cl H0 h1 u h3 v (by rcases c with c | c; exact (Ln.refl _).fw c; exact (Ln.refl _).bw c)⟩
        · rcases c with ⟨_, rfl⟩ | ⟨_, rfl⟩
          · exact bB
          · exact aB
    induction hl with
    | refl => exact hx
    | fw _ m ih =>
      refine step ih ?_
      rcases List.mem_append.mp m with m | m
      · exact .inl (.inl m)
      · have := List.mem_singleton.mp m
        exact .inr (.inl ⟨congrArg Prod.fst this, congrArg Prod.snd this⟩)
    | bw _ m ih =>
      refine step ih ?_
      rcases List.mem_append.mp m with m | m
      · exact .inl (.inr m)
      · have := List.mem_singleton.mp m
        exact .inr (.inr ⟨congrArg Prod.snd this, congrArg Prod.fst this⟩)
theorem Part.fold {E : List α} : ∀ (qs ps : List (α × α)) (hs : List (List α)), Part E ps hs → (∀ p ∈ qs, p.1 ∈ E ∧ p.2 ∈ E) → Part E (ps ++ qs) (qs.foldl (fun hs p => F3.unite hs p.1 p.2) hs)
  | [], ps, hs, P, _ => by rw [List.append_nil]; exact P
  | p :: qs, ps, hs, P, h => by
    have := Part.fold qs (ps ++ [p]) _ (P.unite (h p List.mem_cons_self).1 (h p List.mem_cons_self).2) fun q hq => h q (List.mem_cons_of_mem _ hq)
    rw [List.append_assoc] at this
    exact this
theorem Part.nodup {E : List α} {ps : List (α × α)} {hs : List (List α)} (hE : E.Nodup) (P : Part E ps hs) : hs.flatten.Nodup := P.fl.nodup_iff.mpr hE
theorem flat_nd : ∀ {hs : List (List α)}, hs.flatten.Nodup → ∀ H ∈ hs, H.Nodup
  | H :: hs, h, K, hK => by
    rw [List.flatten_cons, List.nodup_append] at h
    rcases List.mem_cons.mp hK with rfl | hK
    · exact h.1
    · exact flat_nd h.2.1 K hK
/-- heaps have the same members -/
theorem Part.like {E : List α} {ps qs : List (α × α)} {hs ks : List (List α)} (hE : E.Nodup) (P : Part E ps hs) (R : Part E qs ks) (same : ∀ x y, Ln ps x y ↔ Ln qs x y) : ∀ H ∈ hs, ∃ K ∈ ks, H.Perm K := by
  intro H hH
  match H, P.ne H hH with
  | x :: r, _ =>
    have hx : x ∈ E := P.fl.mem_iff.mp (List.mem_flatten.mpr ⟨_, hH, List.mem_cons_self⟩)
    obtain ⟨K, hK, xK⟩ := List.mem_flatten.mp (R.fl.mem_iff.mpr hx)
    refine ⟨K, hK, (List.perm_ext_iff_of_nodup (flat_nd (P.nodup hE) _ hH) (flat_nd (R.nodup hE) _ hK)).mpr fun y => ⟨fun hy => ?_, fun hy => ?_⟩⟩
    · exact R.cl K hK x xK y ((same x y).mp (P.cn _ hH x List.mem_cons_self y hy))
    · exact P.cl _ hH x List.mem_cons_self y ((same x y).mpr (R.cn K hK x xK y hy))
/-! the walk of the law -/
def ers (l : List α) (x : α) : List α := l.erase x
theorem ers_self {a : α} {r : List α} : ers (a :: r) a = r := by simp [ers]
theorem ers_ne {a y : α} {r : List α} (h : ¬ a = y) : ers (a :: r) y = a :: ers r y := by
  unfold ers
  rw [List.erase_cons_tail (by simpa using h)]
def vis (c : α) (p : α × α) (st : List α × List α) : List α × List α := if p.1 = c ∧ p.2 ∈ st.2 then (st.1 ++ [p.2], ers st.2 p.2) else st
def sweep (c : α) (ps : List (α × α)) (st : List α × List α) : List α × List α := ps.foldl (fun st p => vis c (p.2, p.1) (vis c p st)) st
structure WalkI (ps : List (α × α)) (st st' : List α × List α) : Prop where
  pm : (st.1 ++ st.2).Perm (st'.1 ++ st'.2)
  pre : st.1 <+: st'.1
  sub : ∀ x ∈ st'.2, x ∈ st.2
theorem WalkI.refl {ps : List (α × α)} {st : List α × List α} : WalkI ps st st := ⟨.refl _, List.prefix_refl _, fun _ h => h⟩
theorem WalkI.trans {ps : List (α × α)} {a b c : List α × List α} (h1 : WalkI ps a b) (h2 : WalkI ps b c) : WalkI ps a c := ⟨h1.pm.trans h2.pm, h1.pre.trans h2.pre, fun x h => h1.sub x (h2.sub x h)⟩
theorem vis_I {ps : List (α × α)} {c : α} {p : α × α} {st : List α × List α} : WalkI ps st (vis c p st) := by
  unfold vis
  split
  next h =>
    refine ⟨?_, List.prefix_append _ _, fun x hx => List.mem_of_mem_erase hx⟩
    rw [List.append_assoc]
    exact List.Perm.append_left _ (List.perm_cons_erase h.2)
  next => exact .refl
theorem vis_new {c : α} {p : α × α} {st : List α × List α} : ∀ x ∈ (vis c p st).1, x ∈ st.1 ∨ (p.1 = c ∧ x = p.2) := by
  intro x hx
  unfold vis at hx
  split at hx
  next h =>
    rcases List.mem_append.mp hx with h' | h'
    · exact .inl h'
    · exact .inr ⟨h.1, List.mem_singleton.mp h'⟩
  next => exact .inl hx
theorem vis_out {c : α} {p : α × α} {st : List α × List α} (nd : st.2.Nodup) (h : p.1 = c) : p.2 ∉ (vis c p st).2 := by
  unfold vis
  split
  next => exact fun hm => (List.Nodup.mem_erase_iff nd).mp hm |>.1 rfl
  next h' => exact fun hm => h' ⟨h, hm⟩
theorem WalkI.nd {ps : List (α × α)} {a b : List α × List α} (w : WalkI ps a b) (nd : (a.1 ++ a.2).Nodup) : (b.1 ++ b.2).Nodup := w.pm.nodup_iff.mp nd
theorem nd_r {a b : List α} (nd : (a ++ b).Nodup) : b.Nodup := (List.nodup_append.mp nd).2.1
theorem sweep_spec {ps : List (α × α)} {c : α} : ∀ (qs : List (α × α)) (st : List α × List α), (∀ p ∈ qs, p ∈ ps) → (st.1 ++ st.2).Nodup →
    WalkI ps st (sweep c qs st) ∧ (∀ x ∈ (sweep c qs st).1, x ∈ st.1 ∨ Ln ps c x) ∧ ∀ p ∈ qs, (p.1 = c → p.2 ∉ (sweep c qs st).2) ∧ (p.2 = c → p.1 ∉ (sweep c qs st).2)
  | [], st, _, _ => ⟨.refl, fun x h => .inl h, fun p hp => by cases hp⟩
  | p :: qs, st, hs, nd => by
    have w1 : WalkI ps st (vis c p st) := vis_I
    have w2 : WalkI ps (vis c p st) (vis c (p.2, p.1) (vis c p st)) := vis_I
    have n1 := w1.nd nd
    have n2 := w2.nd n1
    obtain ⟨a1, a2, a3⟩ := sweep_spec qs (vis c (p.2, p.1) (vis c p st)) (fun q hq => hs q (List.mem_cons_of_mem _ hq)) n2
    have hp := hs p List.mem_cons_self
    refine ⟨w1.trans (w2.trans a1), fun x hx => ?_, fun q hq => ?_⟩
    · rcases a2 x hx with h | h
      · rcases vis_new x h with h | ⟨h1, rfl⟩
        · rcases vis_new x h with h | ⟨h1, rfl⟩
          · exact .inl h
          · exact .inr ((Ln.refl c).fw (by rw [← h1]; exact hp))
        · exact .inr ((Ln.refl c).bw (by rw [← (show p.2 = c from h1)]; exact hp))
      · exact .inr h
    · rcases List.mem_cons.mp hq with rfl | hq
      · exact ⟨fun e hm => vis_out (nd_r nd) e (w2.sub _ (a1.sub _ hm)), fun e hm => vis_out (p := (q.2, q.1)) (nd_r n1) e (a1.sub _ hm)⟩
      · exact a3 q hq
structure Done (ps : List (α × α)) (hs : List (List α)) : Prop where
  ne : ∀ H ∈ hs, H ≠ []
  cn : ∀ H ∈ hs, ∀ x ∈ H, ∀ y ∈ H, Ln ps x y
  cl : ∀ H ∈ hs, ∀ x ∈ H, ∀ y, Ln ps x y → y ∈ H
structure HeapI (E : List α) (ps : List (α × α)) (hs : List (List α)) (st : List α × List α) (k : Nat) : Prop where
  pm : (hs.flatten ++ (st.1 ++ st.2)).Perm E
  dn : Done ps hs
  ln : ∀ x ∈ st.1, ∀ y ∈ st.1, Ln ps x y
  cv : ∀ j, j < k → ∀ c, st.1[j]? = some c → ∀ p ∈ ps, (p.1 = c → p.2 ∉ st.2) ∧ (p.2 = c → p.1 ∉ st.2)
  le : k ≤ st.1.length
  ne : st.1 ≠ []
theorem HeapI.begin {E : List α} {ps : List (α × α)} {hs : List (List α)} {x : α} {left : List α} (pm : (hs.flatten ++ x :: left).Perm E) (dn : Done ps hs) : HeapI E ps hs ([x], left) 0 where
  pm := pm
  dn := dn
  ln := by
    intro y hy z hz
    rw [List.mem_singleton.mp hy, List.mem_singleton.mp hz]
    exact .refl _
  cv := fun j hj => absurd hj (Nat.not_lt_zero _)
  le := Nat.zero_le _
  ne := by simp
theorem HeapI.step {E : List α} {ps : List (α × α)} {hs : List (List α)} {st : List α × List α} {k : Nat} {c : α} (hE : E.Nodup) (I : HeapI E ps hs st k) (hc : st.1[k]? = some c) : HeapI E ps hs (sweep c ps st) (k + 1) := by
  have nd : (st.1 ++ st.2).Nodup := nd_r (I.pm.nodup_iff.mpr hE)
  obtain ⟨w, a2, a3⟩ := sweep_spec ps st (fun p h => h) nd
  obtain ⟨hk, hc'⟩ := List.getElem?_eq_some_iff.mp hc
  have cm : c ∈ st.1 := List.mem_of_getElem? hc
  obtain ⟨t, et⟩ := w.pre
  have toC : ∀ x ∈ (sweep c ps st).1, Ln ps c x := fun x hx => by
    rcases a2 x hx with h | h
    · exact I.ln c cm x h
    · exact h
  refine ⟨(List.Perm.append_left _ w.pm.symm).trans I.pm, I.dn, fun x hx y hy => (toC x hx).symm.trans (toC y hy), ?_, ?_, ?_⟩
  · intro j hj d hd p hp
    have hjl : j < st.1.length := by omega
    rw [← et, List.getElem?_append_left hjl] at hd
    by_cases ej : j < k
    · obtain ⟨b1, b2⟩ := I.cv j ej d hd p hp
      exact ⟨fun e hm => b1 e (w.sub _ hm), fun e hm => b2 e (w.sub _ hm)⟩
    · have : j = k := by omega
      subst this
      rw [hc] at hd
      injection hd with hd
      subst hd
      exact a3 p hp
  · rw [← et, List.length_append]; omega
  · rw [← et]
    intro e
    exact I.ne (List.append_eq_nil_iff.mp e).1
theorem HeapI.close {E : List α} {ps : List (α × α)} {hs : List (List α)} {st : List α × List α} {k : Nat} (hE : E.Nodup) (hps : ∀ p ∈ ps, p.1 ∈ E ∧ p.2 ∈ E) (I : HeapI E ps hs st k) (hk : k = st.1.length) : Done ps (hs ++ [st.1]) := by
  have nd := I.pm.nodup_iff.mpr hE
  obtain ⟨_, nd2, dj⟩ := List.nodup_append.mp nd
  have go : ∀ {y z : α}, y ∈ st.1 → ((y, z) ∈ ps ∨ (z, y) ∈ ps) → z ∈ st.1 := by
    intro y z hy hm
    have zE : z ∈ E := by rcases hm with m | m; exact (hps _ m).2; exact (hps _ m).1
    rcases List.mem_append.mp (I.pm.mem_iff.mpr zE) with h | h
    · exfalso
      obtain ⟨H, hH, zH⟩ := List.mem_flatten.mp h
      have yH : y ∈ H := I.dn.cl H hH z zH y (by rcases hm with m | m; exact (Ln.refl _).bw m; exact (Ln.refl _).fw m)
      exact dj y (List.mem_flatten.mpr ⟨H, hH, yH⟩) y (List.mem_append_left _ hy) rfl
    · rcases List.mem_append.mp h with h | h
      · exact h
      · exfalso
        obtain ⟨j, hj, ej⟩ := List.getElem_of_mem hy
        rcases hm with m | m
        · exact (I.cv j (by omega) y (by rw [List.getElem?_eq_getElem hj, ej]) _ m).1 rfl h
        · exact (I.cv j (by omega) y (by rw [List.getElem?_eq_getElem hj, ej]) _ m).2 rfl h
  refine ⟨?_, ?_, ?_⟩
  · intro H hH
    rcases List.mem_append.mp hH with h | h
    · exact I.dn.ne H h
    · rw [List.mem_singleton.mp h]; exact I.ne
  · intro H hH
    rcases List.mem_append.mp hH with h | h
    · exact I.dn.cn H h
    · rw [List.mem_singleton.mp h]; exact I.ln
  · intro H hH x hx y hl
    rcases List.mem_append.mp hH with h | h
    · exact I.dn.cl H h x hx y hl
    · rw [List.mem_singleton.mp h] at hx ⊢
      induction hl with
      | refl => exact hx
      | fw _ m ih => exact go ih (.inl m)
      | bw _ m ih => exact go ih (.inr m)
theorem Done.nil {ps : List (α × α)} : Done ps [] := ⟨by simp, by simp, by simp⟩
theorem Done.part {E : List α} {ps : List (α × α)} {hs : List (List α)} (d : Done ps hs) (pm : hs.flatten.Perm E) : Part E ps hs := ⟨pm, d.ne, d.cn, d.cl⟩
end
/-! ### things and their sorted form -/
abbrev Th := Int ⊕ (Int × Int)
def thD : Th → D
  | .inl i => .int i
  | .inr p => .tup [.int p.1, .int p.2]
def thP : Th → PyData
  | .inl i => .int i
  | .inr p => .tuple [.int p.1, .int p.2]
def kd : Th → Bool
  | .inl _ => false
  | .inr _ => true
def tle (a b : List (Int ⊕ List Nat)) : Bool := !PyProof.Rows.lexLt PyProof.Rows.itemOrd b a
theorem tle_total (a b : List (Int ⊕ List Nat)) : (tle a b || tle b a) = true := by
  unfold tle
  cases h1 : PyProof.Rows.lexLt PyProof.Rows.itemOrd b a with
  | false => rfl
  | true =>
    cases h2 : PyProof.Rows.lexLt PyProof.Rows.itemOrd a b with
    | false => rfl
    | true =>
      have := PyProof.Rows.lex_trans (O := PyProof.Rows.itemOrd) _ _ _ h1 h2
      rw [PyProof.Rows.lex_irrefl] at this
      cases this
theorem tle_trans (a b c : List (Int ⊕ List Nat)) (h1 : tle a b = true) (h2 : tle b c = true) : tle a c = true := by
  unfold tle at *
  cases h : PyProof.Rows.lexLt PyProof.Rows.itemOrd c a with
  | false => rfl
  | true =>
    rcases PyProof.Rows.lex_negTrans (O := PyProof.Rows.itemOrd) c b a h with h' | h'
    · rw [h'] at h2; cases h2
    · rw [h'] at h1; cases h1
theorem tle_anti {a b : List (Int ⊕ List Nat)} (h1 : tle a b = true) (h2 : tle b a = true) : a = b := by
  unfold tle at *
  exact PyProof.Rows.lex_total (O := PyProof.Rows.itemOrd) a b (by simpa using h2) (by simpa using h1)
theorem dataLe_t {β : Type} (k : β → PyData) (x y : β) : PySem.W.dataLe false k x y = tle (PySem.W.keyToks (k x)) (PySem.W.keyToks (k y)) := rfl
theorem ms_toks {β : Type} (k : β → PyData) (l : List β) : (l.mergeSort (PySem.W.dataLe false k)).map (fun b => PySem.W.keyToks (k b)) = (l.map fun b => PySem.W.keyToks (k b)).mergeSort tle :=
  List.map_mergeSort fun a _ b _ => dataLe_t k a b
theorem tle_uniq {l m : List (List (Int ⊕ List Nat))} (h : l.Perm m) : l.mergeSort tle = m.mergeSort tle :=
  List.Perm.eq_of_pairwise (le := fun a b => tle a b = true) (fun _ _ _ _ h1 h2 => tle_anti h1 h2) (List.pairwise_mergeSort tle_trans tle_total l) (List.pairwise_mergeSort tle_trans tle_total m) ((List.mergeSort_perm l tle).trans (h.trans (List.mergeSort_perm m tle).symm))
theorem kt_all : ∀ {xs ys : List Th} {b : Bool}, (∀ x ∈ xs, kd x = b) → (∀ y ∈ ys, kd y = b) → PySem.W.keyToksAll (xs.map thP) = PySem.W.keyToksAll (ys.map thP) → xs = ys
  | [], [], _, _, _, _ => rfl
  | [], y :: ys, _, _, _, h => by
    simp [PySem.W.keyToksAll] at h
  | x :: xs, [], _, _, _, h => by
    simp [PySem.W.keyToksAll] at h
  | x :: xs, y :: ys, b, hx, hy, h => by
    have kx := hx x List.mem_cons_self
    have ky := hy y List.mem_cons_self
    have go : PySem.W.keyToksAll (xs.map thP) = PySem.W.keyToksAll (ys.map thP) → xs = ys := kt_all (b := b) (fun z hz => hx z (List.mem_cons_of_mem _ hz)) (fun z hz => hy z (List.mem_cons_of_mem _ hz))
    match x, y with
    | .inl i, .inl j =>
      simp [PySem.W.keyToksAll, PySem.W.keyToks, thP] at h
      rw [h.1, go h.2]
    | .inr p, .inr r =>
      simp [PySem.W.keyToksAll, PySem.W.keyToks, thP] at h
      obtain ⟨h1, h2, h3⟩ := h
      rw [show p = r from Prod.ext h1 h2, go h3]
    | .inl i, .inr r => rw [← ky] at kx; cases kx
    | .inr p, .inl j => rw [← ky] at kx; cases kx
theorem kt_one {x y : Th} (h : PySem.W.keyToks (thP x) = PySem.W.keyToks (thP y)) : x = y := by
  match x, y with
  | .inl i, .inl j => simp [PySem.W.keyToks, thP] at h; rw [h]
  | .inr p, .inr r =>
    simp [PySem.W.keyToksAll, PySem.W.keyToks, thP] at h
    rw [show p = r from Prod.ext h.1 h.2]
  | .inl i, .inr r => simp [PySem.W.keyToksAll, PySem.W.keyToks, thP] at h
  | .inr p, .inl j => simp [PySem.W.keyToksAll, PySem.W.keyToks, thP] at h
/-- sorted(heap) -/
def sortE (H : List Th) : List Th := H.mergeSort (PySem.W.dataLe false thP)
def heapP (H : List Th) : PyData := .list (H.map thP)
/-- sorted([sorted(heap) for heap in heaps]) -/
def sortHH (hs : List (List Th)) : List (List Th) := (hs.map sortE).mergeSort (PySem.W.dataLe false heapP)
theorem map_inj {β γ : Type} {f : β → γ} : ∀ {l m : List β}, (∀ x ∈ l, ∀ y ∈ m, f x = f y → x = y) → l.map f = m.map f → l = m
  | [], [], _, _ => rfl
  | [], _ :: _, _, h => by simp at h
  | _ :: _, [], _, h => by simp at h
  | x :: l, y :: m, hi, h => by
    rw [List.map_cons, List.map_cons] at h
    injection h with h1 h2
    rw [hi x List.mem_cons_self y List.mem_cons_self h1, map_inj (fun a ha b hb => hi a (List.mem_cons_of_mem _ ha) b (List.mem_cons_of_mem _ hb)) h2]
theorem sortE_perm {H : List Th} : (sortE H).Perm H := List.mergeSort_perm _ _
theorem sortE_uniq {H K : List Th} (h : H.Perm K) : sortE H = sortE K := by
  refine map_inj (f := fun b => PySem.W.keyToks (thP b)) (fun x _ y _ e => kt_one e) ?_
  unfold sortE
  rw [ms_toks, ms_toks]
  exact tle_uniq (h.map _)
theorem sortHH_uniq {b : Bool} {hs ks : List (List Th)} (hb : ∀ H ∈ hs, ∀ x ∈ H, kd x = b) (kb : ∀ H ∈ ks, ∀ x ∈ H, kd x = b) (h : (hs.map sortE).Perm (ks.map sortE)) : sortHH hs = sortHH ks := by
  have mem : ∀ {hs : List (List Th)}, (∀ H ∈ hs, ∀ x ∈ H, kd x = b) → ∀ H ∈ sortHH hs, ∀ x ∈ H, kd x = b := by
    intro hs hb H hH x hx
    obtain ⟨K, hK, rfl⟩ := List.mem_map.mp ((List.mergeSort_perm _ _).mem_iff.mp hH)
    exact hb K hK x (sortE_perm.mem_iff.mp hx)
  refine map_inj (f := fun H => PySem.W.keyToks (heapP H)) (fun x hx y hy e => ?_) ?_
  · exact kt_all (mem hb x hx) (mem kb y hy) e
  · unfold sortHH
    rw [ms_toks, ms_toks]
    exact tle_uniq (h.map _)
theorem sort_nd : ∀ {hs : List (List Th)}, hs.flatten.Nodup → (∀ H ∈ hs, H ≠ []) → (hs.map sortE).Nodup
  | [], _, _ => List.nodup_nil
  | H :: hs, nd, ne => by
    rw [List.flatten_cons, List.nodup_append] at nd
    rw [List.map_cons, List.nodup_cons]
    refine ⟨fun hm => ?_, sort_nd nd.2.1 fun K hK => ne K (List.mem_cons_of_mem _ hK)⟩
    obtain ⟨K, hK, e⟩ := List.mem_map.mp hm
    match H, ne H List.mem_cons_self, nd.2.2 with
    | x :: r, _, dj =>
      have : x ∈ sortE K := by rw [e]; exact sortE_perm.mem_iff.mpr List.mem_cons_self
      exact dj x List.mem_cons_self x (List.mem_flatten.mpr ⟨K, hK, sortE_perm.mem_iff.mp this⟩) rfl
theorem Part.uniq {b : Bool} {E : List Th} {ps qs : List (Th × Th)} {hs ks : List (List Th)} (hE : E.Nodup) (hk : ∀ x ∈ E, kd x = b) (P : Part E ps hs) (R : Part E qs ks) (same : ∀ x y, Ln ps x y ↔ Ln qs x y) : sortHH hs = sortHH ks := by
  have sub : ∀ {ps : List (Th × Th)} {hs : List (List Th)}, Part E ps hs → ∀ H ∈ hs, ∀ x ∈ H, kd x = b := fun P H hH x hx => hk x (P.fl.mem_iff.mp (List.mem_flatten.mpr ⟨H, hH, hx⟩))
  have one : ∀ {ps qs : List (Th × Th)} {hs ks : List (List Th)}, Part E ps hs → Part E qs ks → (∀ x y, Ln ps x y ↔ Ln qs x y) → ∀ S ∈ hs.map sortE, S ∈ ks.map sortE := by
    intro ps qs hs ks P R same S hS
    obtain ⟨H, hH, rfl⟩ := List.mem_map.mp hS
    obtain ⟨K, hK, e⟩ := P.like hE R same H hH
    exact List.mem_map.mpr ⟨K, hK, (sortE_uniq e).symm⟩
  refine sortHH_uniq (sub P) (sub R) ((List.perm_ext_iff_of_nodup (sort_nd (P.nodup hE) P.ne) (sort_nd (R.nodup hE) R.ne)).mpr fun S => ⟨one P R same S, one R P (fun x y => (same x y).symm) S⟩)
end F3
set_option maxHeartbeats 400000
/-! SD: heaps put together (program), points. -/
namespace F3
open PySem PySem.Spec PyProof.Rows L2
/-! ### a store that grows -/
def Ap (h g : Sto) : Sto := h ++ g
section
variable {h g k : Sto} {n : Nat} {c : Cell}
theorem Ap_len : (Ap h g).length = h.length + g.length := by simp [Ap]
theorem Ap_app : Ap h g ++ k = Ap h (g ++ k) := by simp [Ap]
theorem Ap_get0 : (Ap h g)[h.length]? = g[0]? := by
  unfold Ap
  rw [List.getElem?_append_right (by simp)]; simp
theorem Ap_getk : (Ap h g)[h.length + n]? = g[n]? := by
  unfold Ap
  rw [List.getElem?_append_right (by simp)]; simp
theorem Ap_set0 : (Ap h g).set h.length c = Ap h (g.set 0 c) := by
  unfold Ap
  rw [List.set_append, if_neg (by simp)]; simp
theorem Ap_setk : (Ap h g).set (h.length + n) c = Ap h (g.set n c) := by
  unfold Ap
  rw [List.set_append, if_neg (by simp)]; simp
theorem Ap_mk : h = Ap h [] := by unfold Ap; rw [List.append_nil]
end
/-! ### things -/
theorem toP_th {h : Sto} {k : Nat} (x : Th) : toP h (k + 2) (thD x) = some (thP x) := by
  cases x <;> rfl
theorem toP_ths {h : Sto} {k : Nat} (H : List Th) : (H.map thD).mapM (toP h (k + 2)) = some (H.map thP) := mapM_of fun x _ => toP_th x
theorem toP_heap {h : Sto} {n k : Nat} {H : List Th} (e : h[n]? = some (.lst (H.map thD))) : toP h (k + 3) (.ref n) = some (heapP H) := toP_lst e (toP_ths H)
theorem eqv_th (a b : Th) : PyData.eqv (thP a) (thP b) = decide (a = b) := by
  match a, b with
  | .inl i, .inl j => simp [thP, PyData.eqv]; rw [Bool.eq_iff_iff]; simp
  | .inr (i, j), .inr (k, l) => simp [thP, PyData.eqv, PyData.eqvAll]; rw [Bool.eq_iff_iff]; simp
  | .inl i, .inr (k, l) => simp [thP, PyData.eqv]
  | .inr (i, j), .inl l => simp [thP, PyData.eqv]
theorem any_th {H : List Th} {x : Th} : ((H.map thP).any fun z => PyData.eqv z (thP x)) = isIn x H := by
  induction H with
  | nil => rfl
  | cons a r ih =>
    rw [List.map_cons, List.any_cons, ih, eqv_th, isIn_cons]
theorem inRD_th {h : Sto} {n : Nat} {H : List Th} {x : Th} {Q : DK} (e : h[n]? = some (.lst (H.map thD))) : inRD false (thD x) (.ref n) h Q = Q (.bl (isIn x H)) h := by
  unfold inRD
  rw [toP_th (k := 7) x, toP_heap (k := 6) e]
  show Q (.bl ((H.map thP).any fun z => PyData.eqv z (thP x))) h = _
  rw [any_th]
theorem cl_th {n : Nat} (x : Th) : ClD n (thD x) := by cases x <;> simp [thD, ClD, ClDs]
theorem cl_ths {n : Nat} {H : List Th} : ClDs n (H.map thD) := ClDs.all fun x hx => by obtain ⟨p, _, rfl⟩ := List.mem_map.mp hx; exact cl_th p
/-- a list of heaps: cells with their lists -/
abbrev Zs := List (Nat × List Th)
def refD (z : Nat × List Th) : D := .ref z.1
def HsZ (h : Sto) (n : Nat) (zs : Zs) : Prop := h[n]? = some (.lst (zs.map refD)) ∧ ∀ z ∈ zs, h[z.1]? = some (.lst (z.2.map thD))
theorem HsZ.up {h g : Sto} {n : Nat} {zs : Zs} (H : HsZ h n zs) : HsZ (h ++ g) n zs := ⟨get_up H.1, fun z hz => get_up (H.2 z hz)⟩
def b_united_1 : C3 :=
  (cIf (tOr3 (tT (tO (inRD false) (tV 1) (tV 5))) (tT (tO (inRD false) (tV 2) (tV 5)))) (cDrop (tLM extT (tV 4) (tC3 (tV 5) tN3))) (cDrop (tLM appT (tV 3) (tC3 (tV 5) tN3))))
def t_united : C3 :=
  (cSeq (cAsg (tNew tN3) (gN 3))
    (cSeq (cAsg (tNew tN3) (gN 4))
    (cSeq (cFor (iSeq (tV 0)) (gN 5) b_united_1)
    (cRet (tO addR (tV 3) (tNew (tC3 (tV 4) tN3)))))))

def sp_united : Sp3 := spR (fun (a : Nat × Th × Th × Zs) => [.ref a.1, thD a.2.1, thD a.2.2.1]) (fun a h => HsZ h a.1 a.2.2.2 ∧ a.2.2.2.length ≤ 1000 ∧ (a.2.2.2.map Prod.snd).flatten.length ≤ 1000)
  (fun a h d h' => ∃ g n zs, d = .ref n ∧ h' = h ++ g ∧ HsZ h' n zs ∧ zs.map Prod.snd = unite (a.2.2.2.map Prod.snd) a.2.1 a.2.2.1)
theorem mono_united : MonoS sp_united := mono_spR
theorem len_united : ∀ ds h Q E, sp_united ds h Q E → ds.length = 3 := len_spR fun _ => rfl
theorem united_q {h : Sto} {n : Nat} {x y : Th} {zs : Zs} {Q : DK} (hz : HsZ h n zs) (h1 : zs.length ≤ 1000) (h2 : (zs.map Prod.snd).flatten.length ≤ 1000)
    (q : ∀ (g : Sto) (k : Nat) (ws : Zs), HsZ (h ++ g) k ws → ws.map Prod.snd = unite (zs.map Prod.snd) x y → Q (.ref k) (h ++ g)) : callS sp_united [.ref n, thD x, thD y] h Q :=
  ⟨(n, x, y, zs), rfl, ⟨hz, h1, h2⟩, by rintro _ _ ⟨g, k, ws, rfl, rfl, e1, e2⟩; exact q g k ws e1 e2⟩
theorem flat_len {p : Nat × List Th → Bool} : ∀ l : Zs, ((l.filter p).flatMap Prod.snd).length ≤ (l.flatMap Prod.snd).length
  | [] => Nat.le_refl _
  | z :: l => by
    have := flat_len (p := p) l
    rw [List.filter_cons, List.flatMap_cons]
    split
    · rw [List.flatMap_cons, List.length_append, List.length_append]; omega
    · rw [List.length_append]; omega
theorem rd_united : ∀ ds h Q E, ClS h.length h → ClDs h.length ds → sp_united ds h Q E → t_united (ends3 (GQ h.length Q)) (start3 6 ds) h := by
  rintro ds h Q E hcl _ ⟨⟨n, x, y, zs⟩, rfl, ⟨hz, h1, h2⟩, q⟩
  have hz' : HsZ h n zs := hz
  have h1' : zs.length ≤ 1000 := h1
  have h2' : (zs.map Prod.snd).flatten.length ≤ 1000 := h2
  have q' : ∀ (g : Sto) (k : Nat) (ws : Zs), HsZ (h ++ g) k ws → ws.map Prod.snd = unite (zs.map Prod.snd) x y → Q (.ref k) (h ++ g) := fun g k ws e1 e2 => q _ _ ⟨g, k, ws, rfl, rfl, e1, e2⟩
  clear q hz h1 h2
  have e0 : ∀ g : Sto, (Ap h g)[n]? = some (.lst (zs.map refD)) := fun g => get_up hz'.1
  have ez : ∀ z ∈ zs, ∀ g : Sto, (Ap h g)[z.1]? = some (.lst (z.2.map thD)) := fun z hz g => get_up (hz'.2 z hz)
  conv => arg 3; rw [Ap_mk (h := h)]
  try simp only [↓tV_q, ↓tN3_q, ↓tNew_q, ↓cSeq_q, ↓cAsg_q, ↓gN_q, ↓cFor_q, ↓iSeq_q, ↓iSeqD_rq, ↓start3_q, ↓Ap_len, ↓Ap_app, thenE_nx, onO_some, onC_q, List.getElem?_cons_zero, List.set_cons_zero, List.set_cons_succ, List.map_cons, List.map_nil, List.cons_append, List.nil_append, List.length_cons, List.length_nil, List.replicate_succ, List.replicate_zero, Nat.reduceAdd, Nat.reduceSub, Nat.add_zero, t_united, e0]
  refine forL (f := refD) (fun l ρ h' => ∃ o5, ρ = [some (.ref n), some (thD x), some (thD y), some (.ref h.length), some (.ref (h.length + 1)), o5] ∧ h' = Ap h [.lst ((l.filter fun z => !touch x y z.2).map refD), .lst (((l.filter fun z => touch x y z.2).flatMap Prod.snd).map thD)]) ⟨none, rfl, rfl⟩ ?_ ?_ ?_
  · rintro l ρ h' ⟨o5, rfl, rfl⟩
    exact e0 _
  · rintro ρ h' ⟨o5, rfl, rfl⟩
    try simp only [↓tV_q, ↓tO_q, ↓tN3_q, ↓tC3_q, ↓tNew_q, ↓cRet_q, ↓addR_rq, ↓Ap_len, ↓Ap_app, ↓Ap_get0, ↓Ap_getk, thenE_nx, ends3_rt, onO_some, onC_q, List.getElem?_cons_zero, List.getElem?_cons_succ, List.cons_append, List.nil_append, List.length_cons, List.length_nil, Nat.reduceAdd, Nat.reduceLeDiff]
    refine ⟨?_, .inl ?_⟩
    · have := List.length_filter_le (fun z : Nat × List Th => !touch x y z.2) zs
      simp only [List.length_map]
      omega
    refine q' [.lst ((zs.filter fun z => !touch x y z.2).map refD), .lst (((zs.filter fun z => touch x y z.2).flatMap Prod.snd).map thD), .lst [.ref (h.length + 1)], .lst ((zs.filter fun z => !touch x y z.2).map refD ++ [.ref (h.length + 1)])] (h.length + 3) ((zs.filter fun z => !touch x y z.2) ++ [(h.length + 1, (zs.filter fun z => touch x y z.2).flatMap Prod.snd)]) ⟨?_, ?_⟩ ?_
    · rw [get_app, List.map_append]; rfl
    · intro z hz
      rcases List.mem_append.mp hz with hz | hz
      · exact get_up (hz'.2 z (List.mem_filter.mp hz).1)
      · rw [List.mem_singleton.mp hz]
        exact get_app
    · unfold unite
      rw [List.map_append, List.filter_map, List.filter_map, List.flatMap_def]; rfl
  · rintro l z r ρ h' F e ⟨o5, rfl, rfl⟩ hF
    have zm : z ∈ zs := by rw [e]; exact List.mem_append_right _ List.mem_cons_self
    have ez' := ez z zm
    have hll : l.length ≤ 1000 := by rw [e, List.length_append] at h1'; omega
    have hfl : ((l.filter fun z => touch x y z.2).flatMap Prod.snd).length + z.2.length ≤ 1000 := by
      have h3 : ((l.filter fun z => touch x y z.2).flatMap Prod.snd).length ≤ (l.flatMap Prod.snd).length := flat_len l
      have h4 := h2'
      rw [e, List.map_append, List.flatten_append, List.length_append, List.map_cons, List.flatten_cons, List.length_append, ← List.flatMap_def] at h4
      omega
    have yes : touch x y z.2 = true → F [some (.ref n), some (thD x), some (thD y), some (.ref h.length), some (.ref (h.length + 1)), some (refD z)] (Ap h [.lst ((l.filter fun z => !touch x y z.2).map refD), .lst (((l.filter fun z => touch x y z.2).flatMap Prod.snd).map thD ++ z.2.map thD)]) := fun ht => hF _ _ ⟨some (refD z), rfl, by simp [List.filter_append, ht]⟩
    have no : touch x y z.2 = false → F [some (.ref n), some (thD x), some (thD y), some (.ref h.length), some (.ref (h.length + 1)), some (refD z)] (Ap h [.lst ((l.filter fun z => !touch x y z.2).map refD ++ [refD z]), .lst (((l.filter fun z => touch x y z.2).flatMap Prod.snd).map thD)]) := fun ht => hF _ _ ⟨some (refD z), rfl, by simp [List.filter_append, ht]⟩
    have et : touch x y z.2 = (isIn x z.2 || isIn y z.2) := rfl
    clear hF
    try simp only [↓tV_q, ↓tO_q, ↓tT_q, ↓tOr3_q, ↓cIf_q, ↓gN_q, onO_some, List.getElem?_cons_zero, List.getElem?_cons_succ, List.set_cons_zero, List.set_cons_succ, b_united_1]
    rw [show refD z = .ref z.1 from rfl] at yes no ⊢
    rw [inRD_th (ez' _)]
    try simp only [onB_bl]
    generalize hb : isIn x z.2 = b at et ⊢
    cases b with
    | true =>
      try simp only [↓tV_q, ↓tN3_q, ↓tC3_q, ↓cDrop_q, ↓tLM_q, ↓lmD_q, ↓extT_q, ↓Ap_getk, ↓Ap_setk, loopE_nx, onO_some, ifC_true, onC_q, List.getElem?_cons_zero, List.getElem?_cons_succ, List.set_cons_zero, List.set_cons_succ, ez']
      exact ⟨by simp only [List.length_map]; omega, yes (by rw [et]; rfl)⟩
    | false =>
      try simp only [↓tV_q, ↓tO_q, ↓tT_q, onO_some, ifC_false, List.getElem?_cons_zero, List.getElem?_cons_succ]
      rw [inRD_th (ez' _)]
      try simp only [onB_bl]
      generalize hb2 : isIn y z.2 = b2 at et ⊢
      cases b2 with
      | true =>
        try simp only [↓tV_q, ↓tN3_q, ↓tC3_q, ↓cDrop_q, ↓tLM_q, ↓lmD_q, ↓extT_q, ↓Ap_getk, ↓Ap_setk, loopE_nx, onO_some, ifC_true, onC_q, List.getElem?_cons_zero, List.getElem?_cons_succ, List.set_cons_zero, List.set_cons_succ, ez']
        exact ⟨by simp only [List.length_map]; omega, yes (by rw [et]; rfl)⟩
      | false =>
        try simp only [↓tV_q, ↓tN3_q, ↓tC3_q, ↓cDrop_q, ↓tLM_q, ↓lmD_q, ↓appT_q, ↓Ap_get0, ↓Ap_set0, loopE_nx, onO_some, ifC_false, onC_q, List.getElem?_cons_zero, List.getElem?_cons_succ, List.set_cons_zero]
        refine ⟨?_, no (by rw [et]; rfl)⟩
        have := List.length_filter_le (fun z : Nat × List Th => !touch x y z.2) l
        simp only [List.length_map]
        omega
/-! ### ends and points -/
def endT (s : Int) : Th := .inr (if s < 0 then -s else s, if 0 < s then 1 else 0)
def begT (s : Int) : Th := .inr (if s < 0 then -s else s, if s < 0 then 1 else 0)
/-- the corners' pairs of a triangle -/
def trPrs (t : Tri) : List (Th × Th) := [(endT t.1, begT t.2.1), (endT t.2.1, begT t.2.2), (endT t.2.2, begT t.1)]
def prsS (sh : List Tri) : List (Th × Th) := sh.flatMap trPrs
/-- both ends of all ties -/
def endsE (n : Nat) : List Th := (List.range n).flatMap fun (k : Nat) => [.inr (1 + (k : Int), 0), .inr (1 + (k : Int), 1)]
theorem ShOk.half {sh : List Tri} (h : ShOk sh) : ∃ m : Nat, 1 ≤ m ∧ m ≤ 6 ∧ sh.length = 2 * m ∧ (sh.length : Int) * 3 / 2 = (3 * m : Nat) := by
  obtain ⟨m, h1, h2, h3, _⟩ := h
  exact ⟨m, h1, h2, h3, by rw [h3]; omega⟩
theorem ShOk.side {sh : List Tri} (h : ShOk sh) {m : Nat} (hm : sh.length = 2 * m) : ∀ s ∈ sidesS sh, 1 ≤ s.natAbs ∧ s.natAbs ≤ 3 * m := by
  obtain ⟨m', h1, h2, h3, h4⟩ := h
  have : m' = m := by omega
  subst this
  intro s hs
  have := h4.mem_iff.mp (List.mem_map.mpr ⟨s, hs, rfl⟩)
  simp only [List.mem_append, or_self] at this
  obtain ⟨k, hk, e⟩ := List.mem_map.mp this
  have := List.mem_range.mp hk
  omega
theorem endsE_nd (n : Nat) : (endsE n).Nodup := by
  unfold endsE
  induction n with
  | zero => simp
  | succ n ih =>
    rw [List.range_succ, List.flatMap_append, List.nodup_append]
    refine ⟨ih, by simp, ?_⟩
    intro a ha b hb e
    subst e
    obtain ⟨k, hk, hka⟩ := List.mem_flatMap.mp ha
    have hk := List.mem_range.mp hk
    simp at hb hka
    rcases hb with rfl | rfl <;> simp at hka <;> omega
theorem endsE_kd {n : Nat} : ∀ x ∈ endsE n, kd x = true := by
  intro x hx
  obtain ⟨k, _, h⟩ := List.mem_flatMap.mp hx
  simp at h
  rcases h with rfl | rfl <;> rfl
theorem endsE_mem {n : Nat} {i j : Int} (h1 : 1 ≤ i) (h2 : i ≤ n) (hj : j = 0 ∨ j = 1) : (Sum.inr (i, j) : Th) ∈ endsE n := by
  refine List.mem_flatMap.mpr ⟨(i - 1).toNat, List.mem_range.mpr (by omega), ?_⟩
  have : 1 + (((i - 1).toNat : Nat) : Int) = i := by omega
  rw [this]
  rcases hj with rfl | rfl <;> simp
theorem endsE_len (n : Nat) : (endsE n).length = 2 * n := by
  unfold endsE
  induction n with
  | zero => rfl
  | succ n ih => rw [List.range_succ, List.flatMap_append, List.length_append, ih]; simp; omega
theorem endT_mem {n : Nat} {s : Int} (h1 : 1 ≤ s.natAbs) (h2 : s.natAbs ≤ n) : endT s ∈ endsE n := by
  unfold endT
  refine endsE_mem (by split <;> omega) (by split <;> omega) (by split <;> simp)
theorem begT_mem {n : Nat} {s : Int} (h1 : 1 ≤ s.natAbs) (h2 : s.natAbs ≤ n) : begT s ∈ endsE n := by
  unfold begT
  refine endsE_mem (by split <;> omega) (by split <;> omega) (by split <;> simp)
theorem prsS_mem {sh : List Tri} (h : ShOk sh) {m : Nat} (hm : sh.length = 2 * m) : ∀ p ∈ prsS sh, p.1 ∈ endsE (3 * m) ∧ p.2 ∈ endsE (3 * m) := by
  intro p hp
  obtain ⟨t, ht, hp⟩ := List.mem_flatMap.mp hp
  have sd : ∀ s : Int, s = t.1 ∨ s = t.2.1 ∨ s = t.2.2 → 1 ≤ s.natAbs ∧ s.natAbs ≤ 3 * m := fun s hs => h.side hm s (List.mem_flatMap.mpr ⟨t, ht, by simpa using hs⟩)
  obtain ⟨a1, a2⟩ := sd t.1 (by simp)
  obtain ⟨b1, b2⟩ := sd t.2.1 (by simp)
  obtain ⟨c1, c2⟩ := sd t.2.2 (by simp)
  simp only [trPrs, List.mem_cons, List.not_mem_nil, or_false] at hp
  rcases hp with rfl | rfl | rfl
  · exact ⟨endT_mem a1 a2, begT_mem b1 b2⟩
  · exact ⟨endT_mem b1 b2, begT_mem c1 c2⟩
  · exact ⟨endT_mem c1 c2, begT_mem a1 a2⟩
end F3
set_option maxHeartbeats 400000
/-! GH: what is a sheet, of any thing (program and law). -/
namespace F3
open PySem PySem.Spec PyProof.Rows L2
/-- a thing that tells data of no more than so many signs -/
def KnB (h : Sto) (d : D) : Prop := ∃ k p, toP h k d = some p ∧ shB 100 p ≤ 16777216
theorem KnB.kn {h : Sto} {d : D} (x : KnB h d) : Kn h d := x.elim fun _ y => y.elim fun _ e => kn_toP e.1
theorem KnB.tup {h : Sto} {xs : List D} (x : KnB h (.tup xs)) : xs.length ≤ 16777216 ∧ ∀ y ∈ xs, KnB h y := by
  obtain ⟨k, p, e, hb⟩ := x
  cases k with
  | zero => simp [toP] at e
  | succ k =>
    obtain ⟨h1, h2⟩ := toP_tup_sz e hb
    exact ⟨h1, fun y hy => (h2 y hy).elim fun q z => ⟨k, q, z.1, z.2⟩⟩
theorem KnB.ref {h : Sto} {n : Nat} (x : KnB h (.ref n)) : ∃ xs, h[n]? = some (.lst xs) ∧ ∀ y ∈ xs, KnB h y := by
  obtain ⟨k, p, e, hb⟩ := x
  cases k with
  | zero => simp [toP] at e
  | succ k =>
    obtain ⟨xs, h1, _, h2⟩ := toP_ref_sz e hb
    exact ⟨xs, h1, fun y hy => (h2 y hy).elim fun q z => ⟨k, q, z.1, z.2⟩⟩
theorem toP_up {h g : Sto} : ∀ (k : Nat) {d : D} {p : PyData}, toP h k d = some p → toP (h ++ g) k d = some p
  | 0, d, p, e => by simp [toP] at e
  | k + 1, d, p, e => by
    have mm : ∀ {xs : List D} {ps : List PyData}, xs.mapM (toP h k) = some ps → xs.mapM (toP (h ++ g) k) = some ps := by
      intro xs
      induction xs with
      | nil => exact fun e => e
      | cons x r ih =>
        intro ps e
        rw [List.mapM_cons] at e ⊢
        cases ea : toP h k x with
        | none => rw [ea] at e; cases e
        | some q =>
          rw [ea] at e
          cases er : r.mapM (toP h k) with
          | none => rw [er] at e; cases e
          | some qs =>
            rw [er] at e
            rw [toP_up k ea, ih er]
            exact e
    cases d with
    | tup xs =>
      simp only [toP, Option.map_eq_some_iff] at e ⊢
      obtain ⟨ps, e1, e2⟩ := e
      exact ⟨ps, mm e1, e2⟩
    | fl xs =>
      simp only [toP, Option.map_eq_some_iff] at e ⊢
      obtain ⟨ps, e1, e2⟩ := e
      exact ⟨ps, mm e1, e2⟩
    | ref n =>
      simp only [toP] at e ⊢
      split at e
      next xs hx =>
        rw [get_up hx]
        simp only [Option.map_eq_some_iff] at e ⊢
        obtain ⟨ps, e1, e2⟩ := e
        exact ⟨ps, mm e1, e2⟩
      next => cases e
    | _ => exact e
theorem KnB.up {h g : Sto} {d : D} (x : KnB h d) : KnB (Ap h g) d := x.elim fun k y => y.elim fun p e => ⟨k, p, toP_up k e.1, e.2⟩
open Classical in
noncomputable def shV (xs : List D) : Bool := decide (∃ sh, xs = sh.map triD ∧ ShOk sh)
noncomputable def isShD (h : Sto) : D → Bool
  | .ref n => match h[n]? with
    | some (.lst xs) => shV xs
    | _ => false
  | _ => false
theorem isShD_ref {h : Sto} {n : Nat} {xs : List D} (e : h[n]? = some (.lst xs)) : isShD h (.ref n) = shV xs := by
  unfold isShD
  simp only [e]
open Classical in
theorem shV_no {xs : List D} (h : ∀ sh, xs = sh.map triD → ¬ ShOk sh) : shV xs = false := by
  unfold shV
  exact decide_eq_false fun ⟨sh, e, ok⟩ => h sh e ok
open Classical in
theorem shV_yes {sh : List Tri} (ok : ShOk sh) : shV (sh.map triD) = true := by
  unfold shV
  exact decide_eq_true ⟨sh, rfl, ok⟩
theorem triD_inj {a b : List Tri} (h : a.map triD = b.map triD) : a = b := by
  induction a generalizing b with
  | nil => cases b with
    | nil => rfl
    | cons x r => cases h
  | cons x r ih =>
    cases b with
    | nil => cases h
    | cons y s =>
      simp only [List.map_cons, List.cons.injEq, triD, D.tup.injEq, D.int.injEq, and_true] at h
      obtain ⟨⟨h1, h2, h3⟩, h4⟩ := h
      rw [ih h4]
      obtain ⟨x1, x2, x3⟩ := x
      obtain ⟨y1, y2, y3⟩ := y
      simp only at h1 h2 h3
      rw [h1, h2, h3]
open Classical in
theorem shV_tri {sh : List Tri} {m : Nat} (hm : sh.length = 2 * m) (m1 : 1 ≤ m) (m6 : m ≤ 6) {p : Prop} [Decidable p] (hp : p ↔ ((sidesS sh).map Int.natAbs).Perm (tiesL m ++ tiesL m)) : shV (sh.map triD) = decide p := by
  rw [Bool.eq_iff_iff, decide_eq_true_eq, hp]
  unfold shV
  rw [decide_eq_true_eq]
  constructor
  · rintro ⟨sh2, e, m2, _, _, h3, h4⟩
    rw [← triD_inj e] at h3 h4
    rw [show m = m2 by omega]
    exact h4
  · intro h
    exact ⟨sh, rfl, m, m1, m6, hm, h⟩
/-- a thing that is a triangle by its kind, or is none -/
theorem tri_or {h : Sto} {d : D} (k : KnB h d) : (∃ t : Tri, d = triD t) ∨ ∀ t : Tri, d ≠ triD t := by
  by_cases e : ∃ t : Tri, d = triD t
  · exact .inl e
  · exact .inr fun t ht => e ⟨t, ht⟩
theorem tri_len {d : D} {xs : List D} (e : d = .tup xs) (h : (xs.length : Int) ≠ 3) : ∀ t : Tri, d ≠ triD t := by
  rintro t ht
  rw [e] at ht
  unfold triD at ht
  injection ht with ht
  rw [ht] at h
  exact h rfl
theorem tri_all {xs : List D} (hl : (xs.length : Int) = 3) (h : xs.all isW = true) : ∃ t : Tri, D.tup xs = triD t := by
  match xs, hl, h with
  | [a, b, c], _, h =>
    simp only [List.all_cons, List.all_nil, Bool.and_true, Bool.and_eq_true] at h
    obtain ⟨x, rfl⟩ := isW_int h.1
    obtain ⟨y, rfl⟩ := isW_int h.2.1
    obtain ⟨z, rfl⟩ := isW_int h.2.2
    exact ⟨(x, y, z), rfl⟩
theorem tri_not {xs : List D} (h : xs.all isW = false) : ∀ t : Tri, D.tup xs ≠ triD t := by
  rintro t ht
  unfold triD at ht
  injection ht with ht
  rw [ht] at h
  exact absurd h (by simp [isW])
theorem not_sheet {xs l r : List D} {d : D} (e : xs = l ++ d :: r) (h : ∀ t : Tri, d ≠ triD t) : shV xs = false := by
  refine shV_no fun sh hs _ => ?_
  have : d ∈ sh.map triD := by rw [← hs, e]; exact List.mem_append_right _ List.mem_cons_self
  obtain ⟨t, _, ht⟩ := List.mem_map.mp this
  exact h t ht.symm
theorem whole_qK {d : D} {h : Sto} {Q : DK} (hk : Kn h d) (q : Q (.bl (isW d)) h) : callS sp_is_whole [d] h Q := ⟨d, rfl, hk, q⟩
theorem bls_fn {α : Type} (f : α → Bool) : ∀ xs : List α, blsOf (xs.map fun x => D.bl (f x)) = some (xs.map f)
  | [] => rfl
  | x :: xs => by rw [List.map_cons, blsOf, bls_fn f xs]; rfl
theorem sort_one : ∀ {l m : List Int}, l.Perm m → l.Pairwise (· ≤ ·) → m.Pairwise (· ≤ ·) → l = m
  | [], m, h, _, _ => (List.Perm.nil_eq h)
  | a :: l, m, h, h1, h2 => by
    cases m with
    | nil => exact absurd h.length_eq (by simp)
    | cons b m =>
      have e : a = b := by
        have ha : a ∈ b :: m := h.mem_iff.mp List.mem_cons_self
        have hb : b ∈ a :: l := h.mem_iff.mpr List.mem_cons_self
        have p1 := (List.pairwise_cons.mp h1).1
        have p2 := (List.pairwise_cons.mp h2).1
        rcases List.mem_cons.mp ha with h3 | h3
        · exact h3
        · rcases List.mem_cons.mp hb with h4 | h4
          · exact h4.symm
          · have := p1 b h4
            have := p2 a h3
            omega
      subst e
      rw [sort_one (List.Perm.cons_inv h) (List.pairwise_cons.mp h1).2 (List.pairwise_cons.mp h2).2]
def absI (v : Int) : Int := if v < 0 then -v else v
theorem absI_nat (v : Int) : absI v = (v.natAbs : Int) := by
  unfold absI
  split <;> omega
theorem natPerm {a b : List Nat} : (a.map fun (k : Nat) => (k : Int)).Perm (b.map fun (k : Nat) => (k : Int)) ↔ a.Perm b := by
  constructor
  · intro h
    have := h.map Int.toNat
    rw [List.map_map, List.map_map] at this
    have e : ∀ l : List Nat, l.map (Int.toNat ∘ fun (k : Nat) => (k : Int)) = l := fun l => by
      induction l with
      | nil => rfl
      | cons x r ih => rw [List.map_cons, ih]; rfl
    rwa [e, e] at this
  · exact fun h => h.map _
theorem sides_abs (sh : List Tri) : (sidesS sh).map absI = ((sidesS sh).map Int.natAbs).map fun (k : Nat) => (k : Int) := by
  rw [List.map_map]
  exact List.map_congr_left fun v _ => absI_nat v
theorem ties_int (m : Nat) : (List.range (3 * m)).map (fun (k : Nat) => 1 + (k : Int)) = (tiesL m).map fun (k : Nat) => (k : Int) := by
  unfold tiesL
  rw [List.map_map]
  refine List.map_congr_left fun k _ => ?_
  simp only [Function.comp]
  omega
theorem toP_intsK {h : Sto} {n : Nat} {ns : List Int} (e : h[n]? = some (.lst (ns.map .int))) : toP h 9 (.ref n) = some (.list (ns.map .int)) := toP_refI (k := 7) e
theorem sidesS_len : ∀ sh : List Tri, (sidesS sh).length = 3 * sh.length
  | [] => rfl
  | t :: r => by
    have := sidesS_len r
    unfold sidesS at this ⊢
    rw [List.flatMap_cons, List.length_append, this]
    simp only [List.length_cons, List.length_nil]
    omega
def t_how_many_ties : C3 :=
  (cRet (tO divR (tO mulR (tB3 lenR (tC3 (tV 0) tN3)) (tK (.int 3))) (tK (.int 2))))

def sp_how_many_ties : Sp3 := spD (fun (a__ : Nat × List D) => match a__ with | (n, xs) => [.ref n]) (fun (a__ : Nat × List D) (h : Sto) => match a__ with | (n, xs) => h[n]? = some (.lst xs) ∧ xs.length ≤ 1000) (fun (a__ : Nat × List D) (h : Sto) => match a__ with | (n, xs) => .int ((xs.length : Int) * 3 / 2)) (fun (a__ : Nat × List D) (h : Sto) => match a__ with | (n, xs) => h)
theorem mono_how_many_ties : MonoS sp_how_many_ties := mono_spD
theorem len_how_many_ties : ∀ ds h Q E, sp_how_many_ties ds h Q E → ds.length = 1 := len_spD fun _ => rfl
theorem how_many_ties_q {n : Nat} {xs : List D} {h : Sto} {Q : DK} (hp : h[n]? = some (.lst xs) ∧ xs.length ≤ 1000) (q : Q (.int ((xs.length : Int) * 3 / 2)) (h)) : callS sp_how_many_ties [.ref n] h Q := ⟨(n, xs), rfl, hp, q⟩
theorem rd_how_many_ties : ∀ ds h Q E, ClS h.length h → ClDs h.length ds → sp_how_many_ties ds h Q E → t_how_many_ties (ends3 (GQ h.length Q)) (start3 1 ds) h := by
  rintro ds h Q E hcl _ ⟨⟨n, xs⟩, rfl, hp0, q0⟩
  have hp : h[n]? = some (.lst xs) ∧ xs.length ≤ 1000 := hp0
  have q : Q (.int ((xs.length : Int) * 3 / 2)) (h) := q0
  clear hp0 q0
  obtain ⟨hn, hl⟩ := hp
  try simp only [↓tV_q, ↓tK_q, ↓tO_q, ↓tN3_q, ↓tC3_q, ↓cRet_q, ↓tB3_q, ↓start3_q, ↓mulR_ii_q, ↓divR_ii_q, ↓lenR_rq, ends3_rt, onO_some, onC_q, List.getElem?_cons_zero, List.map_cons, List.map_nil, List.cons_append, List.nil_append, List.length_cons, List.length_nil, List.replicate_zero, Nat.reduceAdd, Nat.reduceSub, t_how_many_ties, hn]
  exact ⟨mulOk_r (by decide), divOk_of (by decide) (by decide), .inl q⟩
def e_is_sheet_1 : E3 :=
  (tCall3 sp_is_whole (tC3 (tV 3) tN3))
def e_is_sheet_2 : E3 :=
  (tB3 absR (tC3 (tV 3) tN3))
def r_is_sheet_2 : C3 :=
  (cDrop (tLM extT (tV 1) (tC3 (tNew (tLc3 (iSeq (tV 2)) (gN 3) bYes e_is_sheet_2 [3])) tN3)))
def b_is_sheet_1 : C3 :=
  (cSeq (cIf (tOr3 (tNot3 (tT (tB3 isiR (tC3 (tV 2) (tC3 (tK (.ty "tuple")) tN3))))) (tOr3 (tT (tO neR (tB3 lenR (tC3 (tV 2) tN3)) (tK (.int 3)))) (tNot3 (tT (tB3 allX (tLc3 (iSeq (tV 2)) (gN 3) bYes e_is_sheet_1 [3])))))) (cRet (tK (.bl false))) cNext)
    r_is_sheet_2)
def r_is_sheet_1 : C3 :=
  (cSeq (cAsg (tNew tN3) (gN 1))
    (cSeq (cFor (iSeq (tV 0)) (gN 2) b_is_sheet_1)
    (cRet (tOX (eqX false) (tNew (tL3 (onLM srtX) (tC3 (tV 1) tN3))) (tL3 (onLM srtX) (tC3 (tO mulLR (tK (.int 2)) (tNew (xRg2 (tK (.int 1)) (tO addR (tCall3 sp_how_many_ties (tC3 (tV 0) tN3)) (tK (.int 1)))))) tN3))))))
def t_is_sheet : C3 :=
  (cSeq (cIf (tOr3 (tNot3 (tT (tB3 isiR (tC3 (tV 0) (tC3 (tK (.ty "list")) tN3))))) (tOr3 (tT (tO neR (tO modR (tB3 lenR (tC3 (tV 0) tN3)) (tK (.int 2))) (tK (.int 0)))) (tNot3 (tT (tCh leR leR (tK (.int 2)) (tB3 lenR (tC3 (tV 0) tN3)) (tK (.int 12))))))) (cRet (tK (.bl false))) cNext)
    r_is_sheet_1)

def sp_is_sheet : Sp3 := spD (fun (d : D) => [d]) (fun d h => KnB h d ∧ ∀ xs, d ≠ .fl xs) (fun d h => .bl (isShD h d)) (fun _ h => h)
theorem mono_is_sheet : MonoS sp_is_sheet := mono_spD
theorem len_is_sheet : ∀ ds h Q E, sp_is_sheet ds h Q E → ds.length = 1 := len_spD fun _ => rfl
theorem is_sheet_q {d : D} {h : Sto} {Q : DK} (hk : KnB h d) (hf : ∀ xs, d ≠ .fl xs) (q : Q (.bl (isShD h d)) h) : callS sp_is_sheet [d] h Q := ⟨d, rfl, ⟨hk, hf⟩, q⟩
theorem no_list {h : Sto} {d : D} {ty : String} (hk : KnB h d) (e : tyN d h = some ty) (ht : isT ty "list" = false) : isShD h d = false := by
  unfold isShD
  split
  next n =>
    obtain ⟨xs, h1, _⟩ := hk.ref
    rw [tyN_r h1] at e
    cases e
    exact absurd ht (by decide)
  next => rfl
theorem yes_list {h : Sto} {d : D} {ty : String} (hk : KnB h d) (hf : ∀ xs, d ≠ .fl xs) (e : tyN d h = some ty) (ht : isT ty "list" = true) : ∃ n xs, d = .ref n ∧ h[n]? = some (.lst xs) ∧ ∀ y ∈ xs, KnB h y := by
  cases d with
  | ref n =>
    obtain ⟨xs, h1, h2⟩ := hk.ref
    exact ⟨n, xs, rfl, h1, h2⟩
  | fl xs => exact absurd rfl (hf xs)
  | _ => simp only [tyN, reduceCtorEq, Option.some.injEq] at e <;> first | (subst e; exact absurd ht (by decide)) | exact e.elim
theorem rd_is_sheet : ∀ ds h Q E, ClS h.length h → ClDs h.length ds → sp_is_sheet ds h Q E → t_is_sheet (ends3 (GQ h.length Q)) (start3 4 ds) h := by
  rintro ds h Q E hcl _ ⟨d, rfl, ⟨hk, hf⟩, q⟩
  have hk : KnB h d := hk
  have hf : ∀ xs, d ≠ .fl xs := hf
  have q' : Q (.bl (isShD h d)) h := q
  obtain ⟨ty, e⟩ := hk.kn
  have bad : isShD h d = false → ∀ g, GQ h.length Q (.bl false) (Ap h g) := fun e g => by
    rw [e] at q'
    exact gq_tail rfl (by simp [ClD]) hcl q'
  have e' : tyN d (Ap h []) = some ty := by rw [← Ap_mk]; exact e
  conv => arg 3; rw [Ap_mk (h := h)]
  try simp only [↓tV_q, ↓tK_q, ↓tT_q, ↓tOr3_q, ↓tNot3_q, ↓tN3_q, ↓tC3_q, ↓cSeq_q, ↓cIf_q, ↓tB3_q, ↓start3_q, ↓isi_5, onO_some, onB_bl, isU_q, List.getElem?_cons_zero, List.map_cons, List.map_nil, List.cons_append, List.nil_append, List.length_cons, List.length_nil, List.replicate_succ, List.replicate_zero, Nat.reduceAdd, Nat.reduceSub, t_is_sheet, e']
  cases ht : isT ty "list" with
  | false =>
    try simp only [↓tK_q, ↓cRet_q, thenE_rt, ends3_rt, ifC_true, Bool.not_false]
    exact bad (no_list hk e ht) []
  | true =>
    obtain ⟨n, xs, rfl, hn, hx⟩ := yes_list hk hf e ht
    rw [isShD_ref hn] at q' bad
    have e0 : ∀ g : Sto, (Ap h g)[n]? = some (.lst xs) := fun g => get_up hn
    try simp only [↓tV_q, ↓tK_q, ↓tO_q, ↓tT_q, ↓tOr3_q, ↓tN3_q, ↓tC3_q, ↓tB3_q, ↓start3_q, ↓modR_ii_q, ↓neR_ii_q, ↓lenR_rq, onO_some, onB_bl, ifC_false, onC_q, List.getElem?_cons_zero, List.map_cons, List.map_nil, List.cons_append, List.nil_append, List.length_cons, List.length_nil, List.replicate_succ, List.replicate_zero, Nat.reduceAdd, Nat.reduceSub, true_and, Bool.not_true, Int.reduceLT, e0]
    have off : (∀ m : Nat, 1 ≤ m → m ≤ 6 → xs.length ≠ 2 * m) → shV xs = false := fun hm => shV_no fun sh hs ⟨m, m1, m6, h3, _⟩ => hm m m1 m6 (by rw [hs, List.length_map]; exact h3)
    refine ifC_ofn (fun h1 => ?_) (fun h1 => ?_)
    · try simp only [↓tK_q, ↓cRet_q, thenE_rt, ends3_rt, ifC_true]
      exact bad (off fun m m1 m6 hm => h1 (by omega)) []
    · try simp only [↓tV_q, ↓tK_q, ↓tT_q, ↓tNot3_q, ↓tCh_q, ↓tN3_q, ↓tC3_q, ↓tB3_q, ↓start3_q, ↓leR_ii_q, ↓lenR_rq, onO_some, onC_q, ifT_q, List.getElem?_cons_zero, List.map_cons, List.map_nil, List.cons_append, List.nil_append, List.length_cons, List.length_nil, List.replicate_succ, List.replicate_zero, Nat.reduceAdd, Nat.reduceSub, e0]
      refine ifC_of (fun h2 => ?_) (fun h2 => ?_)
      · try simp only [↓tK_q, ↓leR_ii_q, onB_bl]
        refine ifC_ofn (fun h3 => ?_) (fun h3 => ?_)
        · try simp only [↓tK_q, ↓cRet_q, thenE_rt, ends3_rt]
          exact bad (off fun m m1 m6 hm => h3 (by omega)) []
        · obtain ⟨m, hm, m1, m6⟩ : ∃ m : Nat, xs.length = 2 * m ∧ 1 ≤ m ∧ m ≤ 6 := ⟨xs.length / 2, by omega, by omega, by omega⟩
          try simp only [↓tV_q, ↓tN3_q, ↓tNew_q, ↓cNext_q, ↓cSeq_q, ↓cAsg_q, ↓gN_q, ↓cFor_q, ↓iSeq_q, ↓iSeqD_rq, ↓start3_q, ↓Ap_len, ↓Ap_app, thenE_nx, onO_some, onC_q, List.getElem?_cons_zero, List.set_cons_zero, List.set_cons_succ, List.map_cons, List.map_nil, List.cons_append, List.nil_append, List.length_cons, List.length_nil, List.replicate_succ, List.replicate_zero, Nat.reduceAdd, Nat.reduceSub, Nat.add_zero, r_is_sheet_1, e0]
          refine forQ (fun ys ρ h' => ∃ (l : List Tri) (g : Sto) (o2 o3 : Option D), xs = l.map triD ++ ys ∧ ρ = [some (.ref n), some (.ref h.length), o2, o3] ∧ h' = Ap h (.lst (((sidesS l).map absI).map .int) :: g)) ⟨[], [], _, _, rfl, rfl, rfl⟩ ?_ ?_ ?_
          · rintro ys ρ h' ⟨l, g, o2, o3, _, rfl, rfl⟩
            exact e0 _
          · rintro ρ h' ⟨l, g, o2, o3, ex, rfl, rfl⟩
            rw [List.append_nil] at ex
            subst ex
            rw [List.length_map] at hm
            try simp only [↓tV_q, ↓tN3_q, ↓tC3_q, ↓tNew_q, ↓cRet_q, ↓tL3_q, ↓tOX_q, ↓srtX_q, ↓onLM_rq, ↓Ap_get0, thenE_nx, onO_some, onC_q, List.getElem?_cons_zero, List.getElem?_cons_succ]
            rw [intsOf_map]
            try simp only [↓tV_q, ↓tK_q, ↓tO_q, ↓tN3_q, ↓tC3_q, ↓tNew_q, ↓tCall3_q, ↓tL3_q, ↓xRg2_q, ↓Ap_app, onO_some, onIs_q, List.getElem?_cons_zero, List.cons_append]
            intro ns' hp hs
            skip
            refine how_many_ties_q (xs := l.map triD) ⟨e0 _, by rw [List.length_map]; omega⟩ ?_
            rw [List.length_map, show (l.length : Int) * 3 / 2 = ((3 * m : Nat) : Int) by omega]
            try simp only [↓tK_q, ↓xRg_q, ↓addR_ii_q, ↓mulLR_q, ↓Ap_len, ↓Ap_app, ↓Ap_getk, onI_int, List.getElem?_cons_succ, List.cons_append, List.length_cons]
            have eT : (((3 * m : Nat) : Int) + 1 - 1).toNat = 3 * m := by omega
            have eU : (List.range (3 * m)).map (fun (k : Nat) => D.int (1 + (k : Int))) = ((List.range (3 * m)).map fun (k : Nat) => 1 + (k : Int)).map .int := by rw [List.map_map]; rfl
            rw [eT, eU]
            have ew := ties_int m
            generalize hW : ((List.range (3 * m)).map fun (k : Nat) => 1 + (k : Int)) = W at ew
            have lW : W.length = 3 * m := by rw [← hW, List.length_map, List.length_range]
            refine ⟨⟨by decide, by decide, by omega, by omega, by omega⟩, ?_⟩
            try simp only [↓tN3_q, ↓srtX_q, ↓onLM_rq, ↓Ap_len, ↓Ap_app, ↓Ap_getk, onC_q, List.getElem?_cons_succ, List.cons_append, List.length_cons, get_new, List.length_map]
            refine ⟨⟨by decide, by decide, by rw [lW, show Int.toNat 2 = 2 from rfl]; omega⟩, ?_⟩
            have eV : (List.replicate (Int.toNat 2) (W.map D.int)).flatten = (W ++ W).map .int := by
              show W.map D.int ++ (W.map D.int ++ []) = _
              rw [List.append_nil, List.map_append]
            rw [eV]
            skip
            rw [intsOf_map]
            try simp only [↓Ap_len, ↓Ap_app, ends3_rt, onIs_q, List.cons_append, List.length_cons]
            intro ms hp2 hs2
            have key : (ns' = ms) ↔ ((sidesS l).map Int.natAbs).Perm (tiesL m ++ tiesL m) := by
              rw [← natPerm, ← sides_abs, List.map_append, ← ew]
              constructor
              · intro e
                exact hp.symm.trans (e ▸ hp2)
              · intro pm
                exact sort_one (hp.trans (pm.trans hp2.symm)) hs hs2
            have ec : (Ap h (Cell.lst (((sidesS l).map absI).map D.int) :: (g ++ [Cell.lst (ns'.map D.int)] ++ [Cell.lst (W.map D.int)] ++ [Cell.lst ((W ++ W).map D.int)])))[h.length + (g.length + 1)]? = some (.lst (ns'.map .int)) := by
              rw [Ap_getk, List.getElem?_cons_succ]
              exact get_up (get_up get_new)
            unfold eqX
            rw [toP_intsK ec, toP_ints (k := 7) ms]
            dsimp only
            have ve : PyData.eqv (.list (ns'.map .int)) (.list (ms.map .int)) = decide (ns' = ms) := by
              rw [PyData.eqv, eqv_ints]
            rw [if_neg Bool.false_ne_true, ve]
            rw [shV_tri hm m1 m6 key] at q'
            exact gq_tail rfl (by simp [ClD]) hcl q'
          · rintro d ys ρ h' F ⟨l, g, o2, o3, ex, rfl, rfl⟩ hF
            have dk : KnB h d := hx d (by rw [ex]; exact List.mem_append_right _ List.mem_cons_self)
            have dkA : ∀ g, KnB (Ap h g) d := fun g => dk.up
            obtain ⟨tz, ez⟩ := (dkA (.lst (((sidesS l).map absI).map .int) :: g)).kn
            have lim : (sidesS l).length ≤ 36 := by
              have := congrArg List.length ex
              rw [List.length_append, List.length_map] at this
              rw [sidesS_len]
              omega
            have no : (∀ t : Tri, d ≠ triD t) → ∀ g, GQ h.length Q (.bl false) (Ap h g) := fun hd => bad (not_sheet ex hd)
            try simp only [↓tV_q, ↓tK_q, ↓tT_q, ↓tOr3_q, ↓tNot3_q, ↓tN3_q, ↓tC3_q, ↓cSeq_q, ↓cIf_q, ↓gN_q, ↓tB3_q, ↓isi_4, onO_some, onB_bl, isU_q, List.getElem?_cons_zero, List.getElem?_cons_succ, List.set_cons_zero, List.set_cons_succ, b_is_sheet_1, ez]
            cases htz : isT tz "tuple" with
            | false =>
              try simp only [↓tK_q, ↓cRet_q, thenE_rt, loopE_rt, ends3_rt, ifC_true, Bool.not_false]
              refine no (fun t e => ?_) _
              rw [e] at ez
              cases ez
              exact absurd htz (by decide)
            | true =>
              obtain ⟨zs, rfl⟩ := (tyN_w ez).2.2 htz
              obtain ⟨zl, zk⟩ := dk.tup
              try simp only [↓tV_q, ↓tK_q, ↓tO_q, ↓tT_q, ↓tOr3_q, ↓tN3_q, ↓tC3_q, ↓tB3_q, ↓neR_ii_q, ↓lenR_t_q, onO_some, onB_bl, ifC_false, List.getElem?_cons_zero, List.getElem?_cons_succ, Bool.not_true]
              refine ifC_ofn (fun h4 => ?_) (fun h4 => ?_)
              · try simp only [↓tK_q, ↓cRet_q, thenE_rt, loopE_rt, ends3_rt, ifC_true]
                exact no (tri_len rfl h4) _
              · try simp only [↓tV_q, ↓tT_q, ↓tNot3_q, ↓iSeq_q, ↓iSeqD_tq, ↓tLc3_q, ↓tB3_q, onO_some, wipe3_nil, wipe3_cons, List.getElem?_cons_zero, List.getElem?_cons_succ, List.set_cons_zero, List.set_cons_succ]
                refine ⟨zl, ?_⟩
                have ei : zs = zs.map id := by simp
                conv => arg 6; rw [ei]
                refine lcMap (r := fun d => D.bl (isW d)) trivial ?_ fun x hx Q q => ?_
                · try simp only [↓allX_q, onB_bl, onBs_q, bls_fn]
                  refine ifC_ofb (fun h5 => ?_) (fun h5 => ?_)
                  · try simp only [↓tK_q, ↓cRet_q, thenE_rt, loopE_rt, ends3_rt]
                    refine no (tri_not ?_) _
                    rw [List.all_map] at h5
                    simpa using h5
                  · have h5 : zs.all isW = true := by
                      rw [List.all_map] at h5
                      simpa using h5
                    obtain ⟨t, et⟩ := tri_all h4 h5
                    unfold triD at et
                    injection et with et
                    subst et
                    try simp only [↓tV_q, ↓tC3_q, ↓tNew_q, ↓cNext_q, ↓cDrop_q, ↓iSeq_q, ↓iSeqD_tq, ↓tLc3_q, ↓tLM_q, ↓lmD_q, ↓Ap_get0, thenE_nx, onO_some, onC_q, wipe3_nil, wipe3_cons, List.getElem?_cons_zero, List.getElem?_cons_succ, List.set_cons_zero, List.set_cons_succ, List.length_cons, List.length_nil, Nat.reduceAdd, Nat.reduceLeDiff, true_and, r_is_sheet_2]
                    refine lcMap (f := fun v : Int => D.int v) (xs := [t.1, t.2.1, t.2.2]) (r := fun v => D.int (absI v)) (by trivial) ?_ ?_
                    · try simp only [↓tN3_q, ↓extT_q, ↓Ap_len, ↓Ap_app, ↓Ap_get0, ↓Ap_getk, ↓Ap_set0, loopE_nx, onC_q, List.getElem?_cons_zero, List.getElem?_cons_succ, List.set_cons_zero, List.map_cons, List.map_nil, List.cons_append, List.length_cons, List.length_nil, Nat.reduceAdd, Nat.reduceLeDiff, get_new]
                      refine ⟨by simp only [List.length_map, List.length_cons, List.length_nil]; omega, hF _ _ ⟨l ++ [t], g ++ [Cell.lst [D.int (absI t.1), D.int (absI t.2.1), D.int (absI t.2.2)]], _, _, ?_, rfl, ?_⟩⟩
                      · rw [ex, List.map_append, List.append_assoc]; rfl
                      · have e5 : sidesS (l ++ [t]) = sidesS l ++ [t.1, t.2.1, t.2.2] := by unfold sidesS; rw [List.flatMap_append]; rfl
                        rw [e5, List.map_append, List.map_append]
                        rfl
                    · intro v _ Q' hQ
                      try simp only [↓tV_q, ↓tN3_q, ↓tC3_q, ↓gN_q, ↓tB3_q, ↓absR_i_q, onO_some, List.getElem?_cons_zero, List.getElem?_cons_succ, List.set_cons_zero, List.set_cons_succ, e_is_sheet_2]
                      exact hQ
                · try simp only [↓tV_q, ↓tN3_q, ↓tC3_q, ↓gN_q, ↓tCall3_q, onO_some, List.getElem?_cons_zero, List.getElem?_cons_succ, List.set_cons_zero, List.set_cons_succ, e_is_sheet_1]
                  exact whole_qK (zk x hx).up.kn q
      · try simp only [↓tK_q, ↓cRet_q, thenE_rt, ends3_rt, onB_bl, ifC_true, Bool.not_false]
        exact bad (off fun m m1 m6 hm => h2 (by omega)) []
theorem in_six {n : Nat} : inD (.int (n : Int)) [.int 2, .int 4, .int 6, .int 8, .int 10, .int 12] = decide (n = 2 ∨ n = 4 ∨ n = 6 ∨ n = 8 ∨ n = 10 ∨ n = 12) := by
  rw [Bool.eq_iff_iff, decide_eq_true_eq]
  simp only [inD, eqD, Bool.or_eq_true, decide_eq_true_eq, Bool.or_false, beq_iff_eq, Bool.false_eq_true, or_false, List.any_cons, List.any_nil]
  omega
theorem two_perm {N T : List Int} (nd : T.Nodup) (hl : N.length = 2 * T.length) : (∀ t ∈ T, N.count t = 2) ↔ N.Perm (T ++ T) := by
  constructor
  · intro h
    have f1 : (N.filter fun x => decide (x ∈ T)).Perm (T ++ T) := by
      rw [List.perm_iff_count]
      intro x
      rw [List.count_append]
      by_cases hx : x ∈ T
      · rw [List.count_filter (by simpa using hx), h x hx, List.Nodup.count nd, if_pos hx]
      · rw [List.count_eq_zero.mpr hx, List.count_eq_zero.mpr fun hm => hx (by simpa using (List.mem_filter.mp hm).2)]
    have f2 := (List.filter_append_perm (fun x => decide (x ∈ T)) N)
    have l1 := f1.length_eq
    have l2 := f2.length_eq
    rw [List.length_append] at l1 l2
    have : (N.filter fun x => !decide (x ∈ T)) = [] := List.eq_nil_of_length_eq_zero (by omega)
    rw [this, List.append_nil] at f2
    exact f2.symm.trans f1
  · intro p t ht
    rw [p.count_eq, List.count_append, List.Nodup.count nd, if_pos ht]
def r_lissheet_3 : C3 :=
  (cDrop (tLM appT (tV 1) (tC3 (tB3 absR (tC3 (tV 3) tN3)) tN3)))
def b_lissheet_2 : C3 :=
  (cSeq (cIf (tOr3 (tNot3 (tT (tB3 isiR (tC3 (tV 3) (tC3 (tK (.ty "int")) tN3))))) (tT (tB3 isiR (tC3 (tV 3) (tC3 (tK (.ty "bool")) tN3))))) (cRet (tK (.bl false))) cNext)
    r_lissheet_3)
def r_lissheet_2 : C3 :=
  (cFor (iSeq (tV 2)) (gN 3) b_lissheet_2)
def b_lissheet_1 : C3 :=
  (cSeq (cIf (tOr3 (tNot3 (tT (tB3 isiR (tC3 (tV 2) (tC3 (tK (.ty "tuple")) tN3))))) (tT (tO neR (tB3 lenR (tC3 (tV 2) tN3)) (tK (.int 3))))) (cRet (tK (.bl false))) cNext)
    r_lissheet_2)
def e_lissheet_1 : E3 :=
  (tO eqR (tLM cntT (tV 1) (tC3 (tV 4) tN3)) (tK (.int 2)))
def r_lissheet_1 : C3 :=
  (cSeq (cAsg (tNew tN3) (gN 1))
    (cSeq (cFor (iSeq (tV 0)) (gN 2) b_lissheet_1)
    (cRet (tB3 allX (tLc3 (iRng (tC3 (tK (.int 1)) (tC3 (tO addR (tO divR (tO mulR (tB3 lenR (tC3 (tV 0) tN3)) (tK (.int 3))) (tK (.int 2))) (tK (.int 1))) tN3))) (gN 4) bYes e_lissheet_1 [4])))))
def t_lissheet : C3 :=
  (cSeq (cIf (tOr3 (tNot3 (tT (tB3 isiR (tC3 (tV 0) (tC3 (tK (.ty "list")) tN3))))) (tT (tO ninR (tB3 lenR (tC3 (tV 0) tN3)) (tTup3 (tC3 (tK (.int 2)) (tC3 (tK (.int 4)) (tC3 (tK (.int 6)) (tC3 (tK (.int 8)) (tC3 (tK (.int 10)) (tC3 (tK (.int 12)) tN3)))))))))) (cRet (tK (.bl false))) cNext)
    r_lissheet_1)

def sp_lissheet : Sp3 := sp_is_sheet
theorem mono_lissheet : MonoS sp_lissheet := mono_spD
theorem len_lissheet : ∀ ds h Q E, sp_lissheet ds h Q E → ds.length = 1 := len_spD fun _ => rfl
theorem lissheet_q {d : D} {h : Sto} {Q : DK} (hk : KnB h d) (hf : ∀ xs, d ≠ .fl xs) (q : Q (.bl (isShD h d)) h) : callS sp_lissheet [d] h Q := ⟨d, rfl, ⟨hk, hf⟩, q⟩
theorem rd_lissheet : ∀ ds h Q E, ClS h.length h → ClDs h.length ds → sp_lissheet ds h Q E → t_lissheet (ends3 (GQ h.length Q)) (start3 5 ds) h := by
  rintro ds h Q E hcl _ ⟨d, rfl, ⟨hk, hf⟩, q⟩
  have hk : KnB h d := hk
  have hf : ∀ xs, d ≠ .fl xs := hf
  have q' : Q (.bl (isShD h d)) h := q
  obtain ⟨ty, e⟩ := hk.kn
  have bad : isShD h d = false → ∀ g, GQ h.length Q (.bl false) (Ap h g) := fun e g => by
    rw [e] at q'
    exact gq_tail rfl (by simp [ClD]) hcl q'
  have e' : tyN d (Ap h []) = some ty := by rw [← Ap_mk]; exact e
  conv => arg 3; rw [Ap_mk (h := h)]
  try simp only [↓tV_q, ↓tK_q, ↓tT_q, ↓tOr3_q, ↓tNot3_q, ↓tN3_q, ↓tC3_q, ↓cSeq_q, ↓cIf_q, ↓tB3_q, ↓start3_q, ↓isi_5, onO_some, onB_bl, isU_q, List.getElem?_cons_zero, List.map_cons, List.map_nil, List.cons_append, List.nil_append, List.length_cons, List.length_nil, List.replicate_succ, List.replicate_zero, Nat.reduceAdd, Nat.reduceSub, t_lissheet, e']
  cases ht : isT ty "list" with
  | false =>
    try simp only [↓tK_q, ↓cRet_q, thenE_rt, ends3_rt, ifC_true, Bool.not_false]
    exact bad (no_list hk e ht) []
  | true =>
    obtain ⟨n, xs, rfl, hn, hx⟩ := yes_list hk hf e ht
    rw [isShD_ref hn] at q' bad
    have e0 : ∀ g : Sto, (Ap h g)[n]? = some (.lst xs) := fun g => get_up hn
    try simp only [↓tV_q, ↓tK_q, ↓tO_q, ↓tT_q, ↓tN3_q, ↓tC3_q, ↓tTup3_q, ↓tB3_q, ↓start3_q, ↓lenR_rq, onO_some, ifC_false, onC_q, List.getElem?_cons_zero, List.map_cons, List.map_nil, List.cons_append, List.nil_append, List.length_cons, List.length_nil, List.replicate_succ, List.replicate_zero, Nat.reduceAdd, Nat.reduceSub, Bool.not_true, e0]
    have off : (∀ m : Nat, 1 ≤ m → m ≤ 6 → xs.length ≠ 2 * m) → shV xs = false := fun hm => shV_no fun sh hs ⟨m, m1, m6, h3, _⟩ => hm m m1 m6 (by rw [hs, List.length_map]; exact h3)
    refine ⟨⟨rfl, rfl⟩, ?_⟩
    rw [in_six]
    try simp only [onB_bl]
    refine ifC_ofn (fun h1 => ?_) (fun h1 => ?_)
    · try simp only [↓tK_q, ↓cRet_q, thenE_rt, ends3_rt]
      exact bad (off fun m m1 m6 hm => h1 (by omega)) []
    · obtain ⟨m, hm, m1, m6⟩ : ∃ m : Nat, xs.length = 2 * m ∧ 1 ≤ m ∧ m ≤ 6 := ⟨xs.length / 2, by omega, by omega, by omega⟩
      try simp only [↓tV_q, ↓tN3_q, ↓tNew_q, ↓cNext_q, ↓cSeq_q, ↓cAsg_q, ↓gN_q, ↓cFor_q, ↓iSeq_q, ↓iSeqD_rq, ↓start3_q, ↓Ap_len, ↓Ap_app, thenE_nx, onO_some, onC_q, List.getElem?_cons_zero, List.set_cons_zero, List.set_cons_succ, List.map_cons, List.map_nil, List.cons_append, List.nil_append, List.length_cons, List.length_nil, List.replicate_succ, List.replicate_zero, Nat.reduceAdd, Nat.reduceSub, Nat.add_zero, r_lissheet_1, e0]
      refine forQ (fun ys ρ h' => ∃ (l : List Tri) (o2 o3 : Option D), xs = l.map triD ++ ys ∧ ρ = [some (.ref n), some (.ref h.length), o2, o3, none] ∧ h' = Ap h [.lst (((sidesS l).map absI).map .int)]) ⟨[], _, _, rfl, rfl, rfl⟩ ?_ ?_ ?_
      · rintro ys ρ h' ⟨l, o2, o3, _, rfl, rfl⟩
        exact e0 _
      · rintro ρ h' ⟨l, o2, o3, ex, rfl, rfl⟩
        rw [List.append_nil] at ex
        subst ex
        rw [List.length_map] at hm
        try simp only [↓tV_q, ↓tK_q, ↓tO_q, ↓tN3_q, ↓tC3_q, ↓cRet_q, ↓iRng_q, ↓rngD_2q, ↓tLc3_q, ↓tB3_q, ↓addR_ii_q, ↓mulR_ii_q, ↓divR_ii_q, ↓lenR_rq, thenE_nx, onO_some, onC_q, wipe3_nil, wipe3_cons, List.getElem?_cons_zero, List.set_cons_zero, List.set_cons_succ, e0, List.length_map]
        rw [show (l.length : Int) * 3 / 2 = ((3 * m : Nat) : Int) by omega]
        refine ⟨mulOk_r (by decide), divOk_of (by decide) (by decide), ⟨by omega, by omega, by omega, by omega⟩, by simp; omega, ?_⟩
        rw [show (((3 * m : Nat) : Int) + 1 - 1).toNat = 3 * m by omega]
        refine lcMap (f := fun (k : Nat) => D.int (1 + (k : Int))) (r := fun k => D.bl (decide (((((sidesS l).map absI).count (1 + (k : Int)) : Nat) : Int) = 2))) trivial ?_ ?_
        · try simp only [↓allX_q, ends3_rt, onBs_q, bls_fn]
          have key : (∀ k < 3 * m, ((sidesS l).map absI).count (1 + (k : Int)) = 2) ↔ ((sidesS l).map Int.natAbs).Perm (tiesL m ++ tiesL m) := by
            rw [← natPerm, ← sides_abs, List.map_append, ← ties_int m, ← two_perm (T := (List.range (3 * m)).map fun (k : Nat) => 1 + (k : Int))]
            · constructor
              · intro hk t ht
                obtain ⟨k, hk2, rfl⟩ := List.mem_map.mp ht
                exact hk k (List.mem_range.mp hk2)
              · intro hk k hk2
                exact hk _ (List.mem_map.mpr ⟨k, List.mem_range.mpr hk2, rfl⟩)
            · exact List.pairwise_map.mpr (List.nodup_range.imp fun h e => h (by omega))
            · rw [List.length_map, List.length_map, List.length_range, sidesS_len]
              omega
          have ea : ((List.range (3 * m)).map fun (k : Nat) => decide (((((sidesS l).map absI).count (1 + (k : Int)) : Nat) : Int) = 2)).all id = shV (l.map triD) := by
            rw [shV_tri hm m1 m6 key, Bool.eq_iff_iff, List.all_map, List.all_eq_true, decide_eq_true_eq]
            constructor
            · intro hk k hk2
              have := hk k (List.mem_range.mpr hk2)
              simp only [Function.comp, id, decide_eq_true_eq] at this
              omega
            · intro hk k hk2
              have := hk k (List.mem_range.mp hk2)
              simp only [Function.comp, id, decide_eq_true_eq]
              omega
          rw [ea]
          exact gq_tail rfl (by simp [ClD]) hcl q'
        · intro k _ Q hQ
          try simp only [↓tV_q, ↓tO_q, ↓tN3_q, ↓tC3_q, ↓gN_q, ↓tLM_q, ↓lmD_q, ↓cntT_q, ↓Ap_get0, onO_some, onC_q, List.getElem?_cons_zero, List.getElem?_cons_succ, List.set_cons_zero, List.set_cons_succ, e_lissheet_1]
          rw [intsOf_map]
          try simp only [↓tK_q, ↓eqR_ii_q, ↓Ap_set0, onIs_q, List.set_cons_zero]
          exact hQ
      · rintro d ys ρ h' F ⟨l, o2, o3, ex, rfl, rfl⟩ hF
        have dk : KnB h d := hx d (by rw [ex]; exact List.mem_append_right _ List.mem_cons_self)
        have dkA : ∀ g, KnB (Ap h g) d := fun g => dk.up
        obtain ⟨tz, ez⟩ := (dkA [.lst (((sidesS l).map absI).map .int)]).kn
        have lim : (sidesS l).length ≤ 36 := by
          have := congrArg List.length ex
          rw [List.length_append, List.length_map] at this
          rw [sidesS_len]
          omega
        have no : (∀ t : Tri, d ≠ triD t) → ∀ g, GQ h.length Q (.bl false) (Ap h g) := fun hd => bad (not_sheet ex hd)
        try simp only [↓tV_q, ↓tK_q, ↓tT_q, ↓tOr3_q, ↓tNot3_q, ↓tN3_q, ↓tC3_q, ↓cSeq_q, ↓cIf_q, ↓gN_q, ↓tB3_q, ↓isi_4, onO_some, onB_bl, isU_q, List.getElem?_cons_zero, List.getElem?_cons_succ, List.set_cons_zero, List.set_cons_succ, b_lissheet_1, ez]
        cases htz : isT tz "tuple" with
        | false =>
          try simp only [↓tK_q, ↓cRet_q, thenE_rt, loopE_rt, ends3_rt, ifC_true, Bool.not_false]
          refine no (fun t e => ?_) _
          rw [e] at ez
          cases ez
          exact absurd htz (by decide)
        | true =>
          obtain ⟨zs, rfl⟩ := (tyN_w ez).2.2 htz
          obtain ⟨zl, zk⟩ := dk.tup
          try simp only [↓tV_q, ↓tK_q, ↓tO_q, ↓tT_q, ↓tN3_q, ↓tC3_q, ↓tB3_q, ↓neR_ii_q, ↓lenR_t_q, onO_some, onB_bl, ifC_false, List.getElem?_cons_zero, List.getElem?_cons_succ, Bool.not_true]
          refine ifC_ofn (fun h4 => ?_) (fun h4 => ?_)
          · try simp only [↓tK_q, ↓cRet_q, thenE_rt, loopE_rt, ends3_rt]
            exact no (tri_len rfl h4) _
          · try simp only [↓tV_q, ↓cNext_q, ↓cFor_q, ↓iSeq_q, ↓iSeqD_tq, thenE_nx, onO_some, List.getElem?_cons_zero, List.getElem?_cons_succ, r_lissheet_2]
            refine forQ (fun ws ρ h' => ∃ (l2 : List Int) (o3 : Option D), zs = l2.map .int ++ ws ∧ ρ = [some (.ref n), some (.ref h.length), some (.tup zs), o3, none] ∧ h' = Ap h [.lst (((sidesS l ++ l2).map absI).map .int)]) ⟨[], _, rfl, rfl, by rw [List.append_nil]⟩ (fun _ _ _ _ => trivial) ?_ ?_
            · rintro ρ h' ⟨l2, o3, ez2, rfl, rfl⟩
              rw [List.append_nil] at ez2
              subst ez2
              rw [List.length_map] at h4
              match l2, h4 with
              | [a, b, c], _ =>
                refine hF _ _ ⟨l ++ [(a, b, c)], _, _, ?_, rfl, ?_⟩
                · rw [ex, List.map_append, List.append_assoc]; rfl
                · have e5 : sidesS (l ++ [(a, b, c)]) = sidesS l ++ [a, b, c] := by unfold sidesS; rw [List.flatMap_append]; rfl
                  rw [e5]
            · rintro x ws ρ h' F2 ⟨l2, o3, ez2, rfl, rfl⟩ hF2
              have xk : KnB h x := zk x (by rw [ez2]; exact List.mem_append_right _ List.mem_cons_self)
              have l2l : l2.length ≤ 3 := by
                have := congrArg List.length ez2
                rw [List.length_append, List.length_map, List.length_cons] at this
                omega
              obtain ⟨tx, ex2⟩ := (show KnB (Ap h [.lst (((sidesS l ++ l2).map absI).map .int)]) x from xk.up).kn
              have w := (tyN_w ex2).1
              have nx : isW x = false → ∀ t : Tri, D.tup zs ≠ triD t := fun hw => tri_not (by
                rw [Bool.eq_false_iff]
                intro ha
                have := List.all_eq_true.mp ha x (by rw [ez2]; exact List.mem_append_right _ List.mem_cons_self)
                rw [hw] at this
                cases this)
              try simp only [↓tV_q, ↓tK_q, ↓tT_q, ↓tOr3_q, ↓tNot3_q, ↓tN3_q, ↓tC3_q, ↓cSeq_q, ↓cIf_q, ↓gN_q, ↓tB3_q, ↓isi_1, onO_some, onB_bl, isU_q, List.getElem?_cons_zero, List.getElem?_cons_succ, List.set_cons_zero, List.set_cons_succ, b_lissheet_2, ex2]
              cases hi : isT tx "int" with
              | false =>
                try simp only [↓tK_q, ↓cRet_q, thenE_rt, loopE_rt, ends3_rt, ifC_true, Bool.not_false]
                exact no (nx (by rw [← w, hi]; rfl)) _
              | true =>
                try simp only [↓tV_q, ↓tK_q, ↓tT_q, ↓tN3_q, ↓tC3_q, ↓tB3_q, ↓isi_2, onO_some, onB_bl, ifC_false, isU_q, List.getElem?_cons_zero, List.getElem?_cons_succ, Bool.not_true, ex2]
                cases hb : isT tx "bool" with
                | true =>
                  try simp only [↓tK_q, ↓cRet_q, thenE_rt, loopE_rt, ends3_rt, ifC_true]
                  exact no (nx (by rw [← w, hi, hb]; rfl)) _
                | false =>
                  obtain ⟨i, rfl⟩ := isW_int (d := x) (by rw [← w, hi, hb]; rfl)
                  try simp only [↓tV_q, ↓tN3_q, ↓tC3_q, ↓cNext_q, ↓cDrop_q, ↓tB3_q, ↓tLM_q, ↓lmD_q, ↓appT_q, ↓absR_i_q, ↓Ap_get0, ↓Ap_set0, thenE_nx, loopE_nx, onO_some, ifC_false, onC_q, List.getElem?_cons_zero, List.getElem?_cons_succ, List.set_cons_zero, r_lissheet_3]
                  refine ⟨by rw [List.length_map, List.length_map, List.length_append]; omega, hF2 _ _ ⟨l2 ++ [i], _, ?_, rfl, ?_⟩⟩
                  · rw [ez2, List.map_append, List.append_assoc]; rfl
                  · simp only [List.map_append, List.append_assoc]
                    rfl
end F3
set_option maxHeartbeats 400000
/-! GI: things made of a sheet (law k43). -/
namespace F3
open PySem PySem.Spec PyProof.Rows L2
/-- an item of a thing -/
def El (n : Nat) (g : Sto) (x : D) : Prop := (∃ p, At n g 3 3000 x p) ∧ ∀ xs, x ≠ .fl xs
def Pl (x : D) : Prop := (∀ n g, ∃ p, At n g 2 500 x p) ∧ ∀ xs, x ≠ .fl xs
theorem pl_int {i : Int} (h : SmI i) : Pl (.int i) := ⟨fun n g => ⟨_, (at_int h).up (by decide) (by decide)⟩, fun _ => nofun⟩
theorem pl_bl {b : Bool} : Pl (.bl b) := ⟨fun n g => ⟨_, at_bl.up (by decide) (by decide)⟩, fun _ => nofun⟩
theorem pl_non : Pl .non := ⟨fun n g => ⟨_, at_non.up (by decide) (by decide)⟩, fun _ => nofun⟩
theorem pl_str {x : String} (hc : ∀ c ∈ (Str.ofString x).cps.toList, c < 16 ^ 8) (hl : 10 * (Str.ofString x).length + 2 ≤ 101) : Pl (.str x) := ⟨fun n g => ⟨_, (at_str hc hl).up (by decide) (by decide)⟩, fun _ => nofun⟩
theorem pl_one : Pl (.tup [.int 1]) := ⟨fun n g => by
  obtain ⟨p, hp⟩ := at_tup (n := n) (g := g) (L := 1) (B := 101) (B' := 500) (xs := [.int 1]) (fun x hx => by rw [List.mem_singleton.mp hx]; exact ⟨_, at_int (litI ⟨by decide, by decide⟩)⟩) (by simp)
  exact ⟨p, hp⟩, fun _ => nofun⟩
theorem Pl.el {n : Nat} {g : Sto} {x : D} (h : Pl x) : El n g x := ⟨(h.1 n g).elim fun p a => ⟨p, a.up (by decide) (by decide)⟩, h.2⟩
theorem el_tup {n : Nat} {g : Sto} {xs : List D} (h : ∀ x ∈ xs, Pl x) (hl : xs.length ≤ 5) : El n g (.tup xs) := by
  refine ⟨?_, fun _ => nofun⟩
  obtain ⟨p, hp⟩ := at_tup (n := n) (g := g) (L := 2) (B := 500) (B' := 3000) (xs := xs) (fun x hx => (h x hx).1 n g) (by have : (500 + 2) * xs.length ≤ 502 * 5 := Nat.mul_le_mul_left _ hl; omega)
  exact ⟨p, hp⟩
theorem el_lst {n k : Nat} {g : Sto} {xs : List D} (e : g[k]? = some (.lst xs)) (h : ∀ x ∈ xs, Pl x) (hl : xs.length ≤ 5) : El n g (.ref (n + k)) := by
  refine ⟨?_, fun _ => nofun⟩
  obtain ⟨p, hp⟩ := at_lst (n := n) (g := g) (L := 2) (B := 500) (B' := 3000) (xs := xs) e (fun x hx => (h x hx).1 n g) (by have : (500 + 2) * xs.length ≤ 502 * 5 := Nat.mul_le_mul_left _ hl; omega)
  exact ⟨p, hp⟩
theorem El.app {n : Nat} {g k : Sto} {x : D} (h : El n g x) : El n (g ++ k) x := ⟨h.1.elim fun p a => ⟨p, a.app⟩, h.2⟩
theorem thing_l {n k : Nat} {g : Sto} {xs : List D} (e : g[k]? = some (.lst xs)) (h : ∀ x ∈ xs, El n g x) (hl : xs.length ≤ 100) : Thing n g (.ref (n + k)) :=
  thing_ex (L := 4) (B := 16777216) (at_lst (L := 3) (B := 3000) e (fun x hx => (h x hx).1) (by have : (3000 + 2) * xs.length ≤ 3002 * 100 := Nat.mul_le_mul_left _ hl; omega)) (fun _ => nofun) (by decide) (by decide)
theorem thing_t {n : Nat} {g : Sto} {xs : List D} (h : ∀ x ∈ xs, El n g x) (hl : xs.length ≤ 100) : Thing n g (.tup xs) :=
  thing_ex (L := 4) (B := 16777216) (at_tup (L := 3) (B := 3000) (fun x hx => (h x hx).1) (by have : (3000 + 2) * xs.length ≤ 3002 * 100 := Nat.mul_le_mul_left _ hl; omega)) (fun _ => nofun) (by decide) (by decide)
theorem thing_el {n : Nat} {g : Sto} {x : D} (h : El n g x) : Thing n g x := thing_ex h.1 h.2 (by decide) (by decide)
theorem mem_3 {Q : D → Prop} {x y z : D} (hx : Q x) (hy : Q y) (hz : Q z) : ∀ u ∈ [x, y, z], Q u := fun u hu => by
  simp only [List.mem_cons, List.not_mem_nil, or_false] at hu
  rcases hu with rfl | rfl | rfl <;> assumption
theorem ShOk.sidesIn' {sh : List Tri} (h : ShOk sh) {m : Nat} (hm : sh.length = 2 * m) {t : Tri} (ht : t ∈ sh) : ∀ s ∈ [t.1, t.2.1, t.2.2], 1 ≤ s.natAbs ∧ s.natAbs ≤ 3 * m := fun s hs =>
  h.side hm s (by unfold sidesS; exact List.mem_flatMap.mpr ⟨t, ht, hs⟩)
def t_sbent : C3 :=
  (cSeq (cAsg (tCall3 sp_sdigit (tC3 (tV 1) (tC3 (tB3 lenR (tC3 (tV 0) tN3)) tN3))) (gN 2))
    (cSeq (cAsg (tO ixR (tV 0) (tV 2)) (gTup3 3 (gCons3 (gN 3) (gCons3 (gN 4) (gCons3 (gN 5) gNil3)))))
    (cSeq (cAsg (tCall3 sp_sdigit (tC3 (tV 1) (tC3 (tK (.int 14)) tN3))) (gN 6))
    (cSeq (cAsg (tO divR (tO mulR (tB3 lenR (tC3 (tV 0) tN3)) (tK (.int 3))) (tK (.int 2))) (gN 7))
    (cSeq (cAsg (tIxX (tC3 (tO addR (tV 7) (tK (.int 1))) (tC3 (tK (.int 0)) (tC3 (tO subR (tU negR (tV 7)) (tK (.int 1))) (tC3 (tV 4) (tC3 (tU negR (tV 3)) (tC3 (tK (.bl true)) (tC3 (tK .non) (tC3 (tK (.str "1")) (tC3 (tO powR (tK (.int 10)) (tK (.int 20))) (tC3 (tTup3 (tC3 (tK (.int 1)) tN3)) tN3)))))))))) (tCall3 sp_sdigit (tC3 (tV 1) (tC3 (tK (.int 10)) tN3)))) (gN 8))
    (cSeq (cAsg (tNew (tC3 (tTup3 (tC3 (tV 3) (tC3 (tV 4) tN3))) (tC3 (tTup3 (tC3 (tV 3) (tC3 (tV 4) (tC3 (tV 5) (tC3 (tV 3) tN3))))) (tC3 (tNew (tC3 (tV 3) (tC3 (tV 4) (tC3 (tV 5) tN3)))) (tC3 (tV 3) (tC3 (tK .non) (tC3 (tTup3 tN3) (tC3 (tK (.str "123")) (tC3 (tTup3 (tC3 (tU negR (tV 5)) (tC3 (tU negR (tV 4)) (tC3 (tU negR (tV 3)) tN3)))) tN3))))))))) (gN 9))
    (cSeq (cAsg (tNew (tL3 lstM (tC3 (tV 0) tN3))) (gN 10))
    (cSeq (cIf (tT (tO ltR (tV 6) (tK (.int 4)))) (cAsg (tIxX (tC3 (tTup3 (tC3 (tV 8) (tC3 (tV 4) (tC3 (tV 5) tN3)))) (tC3 (tTup3 (tC3 (tV 3) (tC3 (tV 8) (tC3 (tV 5) tN3)))) (tC3 (tTup3 (tC3 (tV 3) (tC3 (tV 4) (tC3 (tV 8) tN3)))) (tC3 (tTup3 (tC3 (tU negR (tV 3)) (tC3 (tV 4) (tC3 (tV 5) tN3)))) tN3)))) (tV 6)) (gSub3 (tV 10) (tV 2))) (cIf (tT (tO ltR (tV 6) (tK (.int 7)))) (cAsg (tO ixR (tV 9) (tCall3 sp_sdigit (tC3 (tV 1) (tC3 (tK (.int 8)) tN3)))) (gSub3 (tV 10) (tV 2))) (cIf (tT (tO eqR (tV 6) (tK (.int 7)))) (cAsg (tO addR (tV 10) (tNew (tC3 (tO ixR (tV 0) (tV 2)) tN3))) (gN 10)) (cIf (tT (tO eqR (tV 6) (tK (.int 8)))) (cDrop (tLM popAtT (tV 10) (tC3 (tV 2) tN3))) (cIf (tT (tO eqR (tV 6) (tK (.int 9)))) (cAsg (tO addR (tV 10) (tNew (tC3 (tTup3 (tC3 (tO addR (tV 7) (tK (.int 1))) (tC3 (tO addR (tV 7) (tK (.int 2))) (tC3 (tO addR (tV 7) (tK (.int 3))) tN3)))) (tC3 (tTup3 (tC3 (tO subR (tU negR (tV 7)) (tK (.int 1))) (tC3 (tO addR (tV 7) (tK (.int 2))) (tC3 (tO addR (tV 7) (tK (.int 3))) tN3)))) tN3)))) (gN 10)) (cIf (tT (tO eqR (tV 6) (tK (.int 10)))) (cAsg (tB3 tupR (tC3 (tV 10) tN3)) (gN 10)) (cIf (tT (tO eqR (tV 6) (tK (.int 11)))) (cAsg (tIxX (tC3 (tK .non) (tC3 (tK (.int 0)) (tC3 (tK (.bl true)) (tC3 (tK (.str "1 1 2 / 2 3 3")) (tC3 (tNew tN3) (tC3 (tNew (tC3 (tNew tN3) tN3)) (tC3 (tTup3 tN3) (tC3 (tNew (tC3 (tK .non) tN3)) tN3)))))))) (tCall3 sp_sdigit (tC3 (tV 1) (tC3 (tK (.int 8)) tN3)))) (gN 10)) (cIf (tT (tO eqR (tV 6) (tK (.int 12)))) (cAsg (tTup3 (tC3 (tV 3) (tC3 (tV 5) (tC3 (tV 4) tN3)))) (gSub3 (tV 10) (tV 2))) (cAsg (tNew (xRev (tV 10))) (gN 10))))))))))
    (cRet (tV 10))))))))))

def sp_sbent : Sp3 := spR (fun (a : Nat × Nat × Int × List Tri) => [.ref a.1, .ref a.2.1]) (fun a h => h[a.1]? = some (.lst (a.2.2.2.map triD)) ∧ h[a.2.1]? = some (.lst [.int a.2.2.1]) ∧ ShOk a.2.2.2)
  (fun a h d h' => ∃ (x : Int) (g : Sto), Thing h.length g d ∧ h' = Rs h a.2.1 x g)
theorem mono_sbent : MonoS sp_sbent := mono_spR
theorem len_sbent : ∀ ds h Q E, sp_sbent ds h Q E → ds.length = 2 := len_spR fun _ => rfl
theorem rd_sbent : ∀ ds h Q E, ClS h.length h → ClDs h.length ds → sp_sbent ds h Q E → t_sbent (ends3 (GQ h.length Q)) (start3 11 ds) h := by
  rintro ds h Q E hcl _ ⟨⟨n, a, x, sh⟩, rfl, ⟨hn, hx, ok⟩, q⟩
  have hn' : h[n]? = some (.lst (sh.map triD)) := hn
  have hx' : h[a]? = some (.lst [.int x]) := hx
  have ok' : ShOk sh := ok
  have ha : a < h.length := (List.getElem?_eq_some_iff.mp hx').1
  have na : n ≠ a := by
    rintro rfl
    rw [hn'] at hx'
    simp only [Option.some.injEq, Cell.lst.injEq] at hx'
    cases sh with
    | nil => cases hx'
    | cons t r =>
      simp only [List.map_cons, List.cons.injEq] at hx'
      cases hx'.1
  have q' : ∀ (x : Int) (g : Sto) (d : D), Thing h.length g d → GQ h.length Q d (Rs h a x g) := fun x g d t => .inl (q _ _ ⟨x, g, t, rfl⟩)
  conv => arg 3; rw [Rs_mk hx']
  have e0 : ∀ x g, (Rs h a x g)[n]? = some (.lst (sh.map triD)) := fun x g => by
    unfold Rs
    refine get_up ?_
    rw [List.getElem?_set_ne fun z => na z.symm]
    exact hn'
  clear q hn hx ok
  obtain ⟨m, m1, m6, hm, em⟩ := ok'.half
  try simp only [↓tV_q, ↓tN3_q, ↓tC3_q, ↓cSeq_q, ↓cAsg_q, ↓tCall3_q, ↓tB3_q, ↓start3_q, ↓lenR_rq, onO_some, onC_q, List.getElem?_cons_zero, List.getElem?_cons_succ, List.map_cons, List.map_nil, List.cons_append, List.nil_append, List.length_cons, List.length_nil, List.replicate_succ, List.replicate_zero, Nat.reduceAdd, Nat.reduceSub, t_sbent, e0, List.length_map]
  refine sdigit_q ha (by omega) (Int.lt_of_lt_of_le (show (sh.length : Int) < 40 by omega) (by decide)) fun x i i0 i1 => ?_
  obtain ⟨t, et, et2⟩ := atI_some (xs := sh) i0 i1
  have ht := ok'.sidesIn' hm (List.mem_of_getElem? et2)
  try simp only [↓tV_q, ↓tO_q, ↓cSeq_q, ↓cAsg_q, ↓gN_q, ↓start3_q, ↓ixR_rq, thenE_nx, onO_some, onC_q, List.getElem?_cons_zero, List.getElem?_cons_succ, List.set_cons_zero, List.set_cons_succ, List.map_cons, List.map_nil, List.cons_append, List.nil_append, List.length_cons, List.length_nil, List.replicate_succ, List.replicate_zero, Nat.reduceAdd, Nat.reduceSub, e0]
  rw [atT_of (d := triD t) (by rw [atI_map, et]; rfl)]
  obtain ⟨t1, t2, t3⟩ := t
  have b1 : Pl (.int t1) := pl_int (by have := ht t1 (by simp); unfold SmI; omega)
  have b2 : Pl (.int t2) := pl_int (by have := ht t2 (by simp); unfold SmI; omega)
  have b3 : Pl (.int t3) := pl_int (by have := ht t3 (by simp); unfold SmI; omega)
  have c1 : Pl (.int (-t1)) := pl_int (by have := ht t1 (by simp); unfold SmI; omega)
  have c2 : Pl (.int (-t2)) := pl_int (by have := ht t2 (by simp); unfold SmI; omega)
  have c3 : Pl (.int (-t3)) := pl_int (by have := ht t3 (by simp); unfold SmI; omega)
  unfold triD
  dsimp only
  try simp only [↓tV_q, ↓tK_q, ↓tN3_q, ↓tC3_q, ↓cSeq_q, ↓cAsg_q, ↓gN_q, ↓gNil3_q, ↓gCons3_q, ↓gTup3_q, ↓tCall3_q, thenE_nx, onO_some, List.getElem?_cons_zero, List.getElem?_cons_succ, List.set_cons_zero, List.set_cons_succ, List.length_cons, List.length_nil, Nat.reduceAdd, true_and]
  refine sdigit_q ha (by decide) (by decide) fun x k k0 k1 => ?_
  try simp only [↓tV_q, ↓tK_q, ↓tO_q, ↓tU_q, ↓tN3_q, ↓tC3_q, ↓tTup3_q, ↓cSeq_q, ↓cAsg_q, ↓gN_q, ↓tCall3_q, ↓tB3_q, ↓tIxX_q, ↓addR_ii_q, ↓subR_ii_q, ↓mulR_ii_q, ↓divR_ii_q, ↓powR_ii_q, ↓negR_i_q, ↓lenR_rq, thenE_nx, onO_some, onC_q, List.getElem?_cons_zero, List.getElem?_cons_succ, List.set_cons_zero, List.set_cons_succ, true_and, Int.reduceLE, e0, List.length_map]
  rw [em]
  refine ⟨mulOk_r (by decide), divOk_of (by decide) (by decide), by decide, ?_⟩
  refine sdigit_q ha (by decide) (by decide) fun x j j0 j1 => ?_
  try simp only [onI_int]
  refine atT_all j0 (by simpa using j1) fun y hy => ?_
  have py : Pl y := by
    simp only [List.mem_cons, List.not_mem_nil, or_false] at hy
    rcases hy with rfl | rfl | rfl | rfl | rfl | rfl | rfl | rfl | rfl | rfl
    · exact pl_int (by unfold SmI; omega)
    · exact pl_int (litI ⟨by decide, by decide⟩)
    · exact pl_int (by unfold SmI; omega)
    · exact b2
    · exact c1
    · exact pl_bl
    · exact pl_non
    · exact pl_str (by decide) (by decide)
    · exact pl_int (litI ⟨by decide, by decide⟩)
    · exact pl_one
  clear hy j0 j1 j
  try simp only [↓tV_q, ↓tK_q, ↓tO_q, ↓tU_q, ↓tT_q, ↓tN3_q, ↓tC3_q, ↓tTup3_q, ↓tNew_q, ↓cSeq_q, ↓cIf_q, ↓cAsg_q, ↓gN_q, ↓tL3_q, ↓ltR_ii_q, ↓negR_i_q, ↓lstM_rq, ↓Rs_len, ↓Rs_app, thenE_nx, onO_some, onB_bl, onC_q, List.getElem?_cons_zero, List.getElem?_cons_succ, List.set_cons_zero, List.set_cons_succ, List.cons_append, List.nil_append, List.length_cons, List.length_nil, Nat.reduceAdd, Nat.add_zero, e0]
  have trs : ∀ G, ∀ d ∈ sh.map triD, El h.length G d := fun G d hd => by
    obtain ⟨u, hu, rfl⟩ := List.mem_map.mp hd
    have hb := ok'.sidesIn' hm hu
    have pu : ∀ s ∈ [u.1, u.2.1, u.2.2], Pl (.int s) := fun s hs => pl_int (by have := hb s hs; unfold SmI; omega)
    exact el_tup (mem_3 (pu _ (by simp)) (pu _ (by simp)) (pu _ (by simp))) (Nat.le_of_ble_eq_true rfl)
  have fin : ∀ (x : Int) (G : Sto) (k : Nat) (xs : List D), G[k]? = some (.lst xs) → (∀ d ∈ xs, El h.length G d) → xs.length ≤ 100 → GQ h.length Q (.ref (h.length + k)) (Rs h a x G) := fun x G k xs e1 e2 e3 => q' _ _ _ (thing_l e1 e2 e3)
  have sets : ∀ (G : Sto) (y' : D), El h.length G y' → ∀ d ∈ (sh.map triD).set i.toNat y', El h.length G d := fun G y' hy d hd => by
    rcases List.mem_or_eq_of_mem_set hd with z | z
    · exact trs G d z
    · exact z ▸ hy
  have sl : (sh.map triD).length ≤ 100 := by rw [List.length_map]; omega
  have ixs : ixN (sh.map triD).length i = some i.toNat := by
    rw [List.length_map]
    unfold ixN
    (repeat' split) <;> first | rfl | (exfalso; omega)
  have c0 : ∀ (B : Sto), El h.length (.lst [.int t1, .int t2, .int t3] :: B) (.ref h.length) := fun B => el_lst (k := 0) rfl (mem_3 b1 b2 b3) (Nat.le_of_ble_eq_true rfl)
  refine ifC_of (fun h1 => ?_) (fun h1 => ?_)
  · try simp only [↓tV_q, ↓tU_q, ↓tN3_q, ↓tC3_q, ↓tTup3_q, ↓cAsg_q, ↓tIxX_q, ↓negR_i_q, onO_some, onI_int, List.getElem?_cons_zero, List.getElem?_cons_succ]
    refine atT_all k0 (by simpa using h1) fun z hz => ?_
    have ez : ∀ G, El h.length G z := fun G => by
      simp only [List.mem_cons, List.not_mem_nil, or_false] at hz
      rcases hz with rfl | rfl | rfl | rfl
      · exact el_tup (mem_3 py b2 b3) (Nat.le_of_ble_eq_true rfl)
      · exact el_tup (mem_3 b1 py b3) (Nat.le_of_ble_eq_true rfl)
      · exact el_tup (mem_3 b1 b2 py) (Nat.le_of_ble_eq_true rfl)
      · exact el_tup (mem_3 c1 b2 b3) (Nat.le_of_ble_eq_true rfl)
    try simp only [↓tV_q, ↓cRet_q, ↓gSub3_q, ↓setR_q, ↓Rs_getk, ↓Rs_setk, thenE_nx, ends3_rt, onO_some, onC_q, onN_q, List.getElem?_cons_zero, List.getElem?_cons_succ, List.set_cons_zero, List.set_cons_succ, ixs]
    exact fin _ _ 2 _ rfl (sets _ _ (ez _)) (by rw [List.length_set]; exact sl)
  · try simp only [↓tV_q, ↓tK_q, ↓tO_q, ↓tT_q, ↓cIf_q, ↓ltR_ii_q, onO_some, onB_bl, List.getElem?_cons_zero, List.getElem?_cons_succ]
    refine ifC_of (fun h2 => ?_) (fun h2 => ?_)
    · try simp only [↓tV_q, ↓tK_q, ↓tO_q, ↓tN3_q, ↓tC3_q, ↓cAsg_q, ↓tCall3_q, onO_some, List.getElem?_cons_zero, List.getElem?_cons_succ]
      refine sdigit_q ha (by decide) (by decide) fun x j j0 j1 => ?_
      try simp only [↓ixR_rq, ↓Rs_getk, onC_q, List.getElem?_cons_zero, List.getElem?_cons_succ]
      refine atT_all j0 (by simpa using j1) fun z hz => ?_
      have ez : ∀ B, El h.length (.lst [.int t1, .int t2, .int t3] :: B) z := fun B => by
        simp only [List.mem_cons, List.not_mem_nil, or_false] at hz
        rcases hz with rfl | rfl | rfl | rfl | rfl | rfl | rfl | rfl
        · exact el_tup (fun u hu => by simp only [List.mem_cons, List.not_mem_nil, or_false] at hu; rcases hu with rfl | rfl <;> assumption) (Nat.le_of_ble_eq_true rfl)
        · exact el_tup (fun u hu => by simp only [List.mem_cons, List.not_mem_nil, or_false] at hu; rcases hu with rfl | rfl | rfl | rfl <;> assumption) (Nat.le_of_ble_eq_true rfl)
        · exact c0 B
        · exact b1.el
        · exact pl_non.el
        · exact el_tup (fun u hu => by cases hu) (Nat.le_of_ble_eq_true rfl)
        · exact (pl_str (by decide) (by decide)).el
        · exact el_tup (mem_3 c3 c2 c1) (Nat.le_of_ble_eq_true rfl)
      try simp only [↓tV_q, ↓cRet_q, ↓gSub3_q, ↓setR_q, ↓Rs_getk, ↓Rs_setk, thenE_nx, ends3_rt, onO_some, onC_q, onN_q, List.getElem?_cons_zero, List.getElem?_cons_succ, List.set_cons_zero, List.set_cons_succ, ixs]
      exact fin _ _ 2 _ rfl (sets _ _ (ez _)) (by rw [List.length_set]; exact sl)
    · try simp only [↓tV_q, ↓tK_q, ↓tO_q, ↓tT_q, ↓cIf_q, ↓eqR_ii_q, onO_some, onB_bl, List.getElem?_cons_zero, List.getElem?_cons_succ]
      refine ifC_of (fun h3 => ?_) (fun h3 => ?_)
      · try simp only [↓tV_q, ↓tO_q, ↓tC3_q, ↓tNew_q, ↓cAsg_q, ↓ixR_rq, onO_some, onC_q, List.getElem?_cons_zero, List.getElem?_cons_succ, e0]
        rw [atT_of (d := triD (t1, t2, t3)) (by rw [atI_map, et]; rfl)]
        try simp only [↓tV_q, ↓tN3_q, ↓cRet_q, ↓gN_q, ↓addR_rq, ↓Rs_len, ↓Rs_app, ↓Rs_getk, thenE_nx, ends3_rt, onO_some, onC_q, List.getElem?_cons_zero, List.getElem?_cons_succ, List.set_cons_zero, List.set_cons_succ, List.cons_append, List.nil_append, List.length_cons, List.length_nil, Nat.reduceAdd, Nat.reduceLeDiff]
        refine ⟨by omega, fin _ _ 4 _ rfl (fun d hd => ?_) (by rw [List.length_append, List.length_cons, List.length_nil]; rw [List.length_map] at sl ⊢; omega)⟩
        rcases List.mem_append.mp hd with z | z
        · exact trs _ d z
        · rw [List.mem_singleton.mp z]
          exact el_tup (mem_3 b1 b2 b3) (Nat.le_of_ble_eq_true rfl)
      · try simp only [↓tV_q, ↓tK_q, ↓tO_q, ↓tT_q, ↓cIf_q, ↓eqR_ii_q, onO_some, onB_bl, List.getElem?_cons_zero, List.getElem?_cons_succ]
        refine ifC_of (fun h4 => ?_) (fun h4 => ?_)
        · try simp only [↓tV_q, ↓tN3_q, ↓tC3_q, ↓cDrop_q, ↓tLM_q, ↓lmD_q, ↓popAtT_q, ↓Rs_getk, onO_some, onC_q, List.getElem?_cons_zero, List.getElem?_cons_succ]
          refine ⟨⟨by omega, by omega⟩, ?_⟩
          rw [seqIx i0 (by rw [List.length_map]; exact i1)]
          obtain ⟨hi, ei⟩ := List.getElem?_eq_some_iff.mp et2
          try simp only [↓tV_q, ↓cRet_q, ↓Rs_setk, thenE_nx, ends3_rt, onO_some, onN_q, onD_q, Option.map_some, List.getElem?_cons_zero, List.getElem?_cons_succ, List.set_cons_zero, List.set_cons_succ, List.getElem?_map, et2]
          refine fin _ _ 2 _ rfl (fun d hd => trs _ d (List.mem_of_mem_eraseIdx hd)) (by rw [List.length_eraseIdx]; split <;> omega)
        · try simp only [↓tV_q, ↓tK_q, ↓tO_q, ↓tT_q, ↓cIf_q, ↓eqR_ii_q, onO_some, onB_bl, List.getElem?_cons_zero, List.getElem?_cons_succ]
          refine ifC_of (fun h5 => ?_) (fun h5 => ?_)
          · try simp only [↓tV_q, ↓tK_q, ↓tO_q, ↓tU_q, ↓tN3_q, ↓tC3_q, ↓tTup3_q, ↓tNew_q, ↓cRet_q, ↓cAsg_q, ↓gN_q, ↓addR_ii_q, ↓addR_rq, ↓subR_ii_q, ↓negR_i_q, ↓Rs_len, ↓Rs_app, ↓Rs_getk, thenE_nx, ends3_rt, onO_some, onC_q, List.getElem?_cons_zero, List.getElem?_cons_succ, List.set_cons_zero, List.set_cons_succ, List.cons_append, List.nil_append, List.length_cons, List.length_nil, Nat.reduceAdd, Nat.reduceLeDiff]
            refine ⟨by omega, fin _ _ 4 _ rfl (fun d hd => ?_) (by rw [List.length_append, List.length_cons, List.length_cons, List.length_nil]; rw [List.length_map] at sl ⊢; omega)⟩
            have f : ∀ i : Int, 0 ≤ i → i ≤ 3 → Pl (.int (((3 * m : Nat) : Int) + i)) := fun i _ _ => pl_int (by unfold SmI; omega)
            rcases List.mem_append.mp hd with z | z
            · exact trs _ d z
            · simp only [List.mem_cons, List.not_mem_nil, or_false] at z
              rcases z with rfl | rfl
              · exact el_tup (mem_3 (f 1 (by decide) (by decide)) (f 2 (by decide) (by decide)) (f 3 (by decide) (by decide))) (Nat.le_of_ble_eq_true rfl)
              · exact el_tup (mem_3 (pl_int (by unfold SmI; omega)) (f 2 (by decide) (by decide)) (f 3 (by decide) (by decide))) (Nat.le_of_ble_eq_true rfl)
          · try simp only [↓tV_q, ↓tK_q, ↓tO_q, ↓tT_q, ↓cIf_q, ↓eqR_ii_q, onO_some, onB_bl, List.getElem?_cons_zero, List.getElem?_cons_succ]
            refine ifC_of (fun h6 => ?_) (fun h6 => ?_)
            · try simp only [↓tV_q, ↓tN3_q, ↓tC3_q, ↓cRet_q, ↓cAsg_q, ↓gN_q, ↓tB3_q, ↓tupR_rq, ↓Rs_getk, thenE_nx, ends3_rt, onO_some, onC_q, List.getElem?_cons_zero, List.getElem?_cons_succ, List.set_cons_zero, List.set_cons_succ]
              exact q' _ _ _ (thing_t (trs _) sl)
            · try simp only [↓tV_q, ↓tK_q, ↓tO_q, ↓tT_q, ↓cIf_q, ↓eqR_ii_q, onO_some, onB_bl, List.getElem?_cons_zero, List.getElem?_cons_succ]
              refine ifC_of (fun h7 => ?_) (fun h7 => ?_)
              · try simp only [↓tV_q, ↓tK_q, ↓tN3_q, ↓tC3_q, ↓tTup3_q, ↓tNew_q, ↓cAsg_q, ↓tCall3_q, ↓tIxX_q, ↓Rs_len, ↓Rs_app, onO_some, List.getElem?_cons_zero, List.getElem?_cons_succ, List.cons_append, List.nil_append, List.length_cons, List.length_nil, Nat.reduceAdd]
                refine sdigit_q ha (by decide) (by decide) fun x j j0 j1 => ?_
                try simp only [↓Rs_len, ↓Rs_app, onI_int, List.cons_append, List.nil_append, List.length_cons, List.length_nil, Nat.reduceAdd]
                refine atT_all j0 (by simpa using j1) fun z hz => ?_
                try simp only [↓tV_q, ↓cRet_q, ↓gN_q, thenE_nx, ends3_rt, onO_some, List.getElem?_cons_zero, List.getElem?_cons_succ, List.set_cons_zero, List.set_cons_succ]
                refine q' _ _ _ ?_
                simp only [List.mem_cons, List.not_mem_nil, or_false] at hz
                rcases hz with rfl | rfl | rfl | rfl | rfl | rfl | rfl | rfl
                · exact thing_el pl_non.el
                · exact thing_el (pl_int (litI ⟨by decide, by decide⟩)).el
                · exact thing_el pl_bl.el
                · exact thing_ex ⟨_, (⟨fun _ _ _ => by simp only [toP]; rw [if_pos (show PyData.strOk (Str.ofString "1 1 2 / 2 3 3") = true from tok_str _)], (show ∀ c ∈ (Str.ofString "1 1 2 / 2 3 3").cps.toList, c < 16 ^ 8 by decide), by decide⟩ : At _ _ 1 3000 (.str (Str.ofString "1 1 2 / 2 3 3")) (.str (Str.ofString "1 1 2 / 2 3 3")))⟩ (fun _ => nofun) (by decide) (by decide)
                · exact thing_l (k := 3) rfl (fun u hu => by cases hu) (by decide)
                · exact thing_l (k := 5) rfl (fun u hu => by rw [List.mem_singleton.mp hu]; exact el_lst (k := 4) rfl (fun u hu => by cases hu) (by decide)) (Nat.le_of_ble_eq_true rfl)
                · exact thing_t (fun u hu => by cases hu) (by decide)
                · exact thing_l (k := 6) rfl (fun u hu => by rw [List.mem_singleton.mp hu]; exact pl_non.el) (by decide)
              · try simp only [↓tV_q, ↓tK_q, ↓tO_q, ↓tT_q, ↓cIf_q, ↓eqR_ii_q, onO_some, onB_bl, List.getElem?_cons_zero, List.getElem?_cons_succ]
                refine ifC_of (fun h8 => ?_) (fun h8 => ?_)
                · try simp only [↓tV_q, ↓tN3_q, ↓tC3_q, ↓tTup3_q, ↓cRet_q, ↓cAsg_q, ↓gSub3_q, ↓setR_q, ↓Rs_getk, ↓Rs_setk, thenE_nx, ends3_rt, onO_some, onC_q, onN_q, List.getElem?_cons_zero, List.getElem?_cons_succ, List.set_cons_zero, List.set_cons_succ, ixs]
                  exact fin _ _ 2 _ rfl (sets _ _ (el_tup (mem_3 b1 b3 b2) (Nat.le_of_ble_eq_true rfl))) (by rw [List.length_set]; exact sl)
                · try simp only [↓tV_q, ↓tNew_q, ↓cRet_q, ↓cAsg_q, ↓gN_q, ↓xRev_q, ↓onL'_r, ↓Rs_len, ↓Rs_app, ↓Rs_getk, thenE_nx, ends3_rt, onO_some, onC_q, List.getElem?_cons_zero, List.getElem?_cons_succ, List.set_cons_zero, List.set_cons_succ, List.cons_append, List.nil_append, List.length_cons, List.length_nil, Nat.reduceAdd]
                  exact fin _ _ 3 _ rfl (fun d hd => trs _ d (List.mem_reverse.mp hd)) (by rw [List.length_reverse]; exact sl)
theorem sbent_q {h g : Sto} {n a : Nat} {x : Int} {sh : List Tri} {Q : DK} (hn : (Rs h a x g)[n]? = some (.lst (sh.map triD))) (ha : a < h.length) (ok : ShOk sh) (q : ∀ (x : Int) (k : Sto) (d : D), Thing (Rs h a x g).length k d → Q d (Rs h a x (g ++ k))) : callS sp_sbent [.ref n, .ref a] (Rs h a x g) Q :=
  ⟨(n, a, x, sh), rfl, ⟨hn, Rs_getA ha, ok⟩, by
    rintro d h' ⟨y, k, t, rfl⟩
    have e : Rs (Rs h a x g) a y k = Rs h a y (g ++ k) := by
      show (Rs h a x g).set a (.lst [.int y]) ++ k = _
      rw [Rs_setA ha, Rs_app]
    show Q d (Rs (Rs h a x g) a y k)
    rw [e]
    exact q y k d (by simpa [Rs_len] using t)⟩
end F3
set_option maxHeartbeats 400000
/-! K43: what is a sheet. -/
namespace F3
open PySem PySem.Spec PyProof.Rows L2
theorem Thing.knb {n : Nat} {g h : Sto} {d : D} (th : Thing n g d) (hh : Hold n g h) : KnB h d ∧ ∀ xs, d ≠ .fl xs := by
  obtain ⟨p, _, sb, nf, tp⟩ := th
  exact ⟨⟨9, p, tp h hh, sb⟩, nf⟩
theorem Thing.txt {n : Nat} {g h : Sto} {d : D} (th : Thing n g d) (hh : Hold n g h) : ∃ p, toP h 9 d = some p ∧ ShwOk p := by
  obtain ⟨p, sd, sb, nf, tp⟩ := th
  exact ⟨p, tp h hh, sh_ok sd sb⟩
theorem sheet_thing {n k : Nat} {g : Sto} {sh : List Tri} (ok : ShOk sh) (e : g[k]? = some (.lst (sh.map triD))) : Thing n g (.ref (n + k)) := by
  obtain ⟨m, m1, m6, hm, em⟩ := ok.half
  refine thing_l e (fun d hd => ?_) (by rw [List.length_map]; omega)
  obtain ⟨u, hu, rfl⟩ := List.mem_map.mp hd
  have hb := ok.sidesIn' hm hu
  have pu : ∀ s ∈ [u.1, u.2.1, u.2.2], Pl (.int s) := fun s hs => pl_int (by have := hb s hs; unfold SmI; omega)
  exact el_tup (mem_3 (pu _ (by simp)) (pu _ (by simp)) (pu _ (by simp))) (Nat.le_of_ble_eq_true rfl)
theorem hold_end {h g k : Sto} : Hold (Ap h g).length k (Ap h (g ++ k)) := fun i x hx => by
  rw [← Ap_app]
  unfold Ap at *
  rw [List.getElem?_append_right (by omega), Nat.add_sub_cancel_left]
  exact hx
def b_law_1 : C3 :=
  (cSeq (cAsg (tNew (tC3 (tCall3 sp_sbig (tC3 (tV 0) (tC3 (tO addR (tK (.int 1)) (tV 3)) tN3))) tN3)) (gN 1))
    (cSeq (cAsg (tCall3 sp_sbent (tC3 (tV 2) (tC3 (tV 1) tN3))) (gN 4))
    (cSeq (cAsg (tB3 repG (tC3 (tV 4) tN3)) (gN 5))
    (cSeq (cAsg (tCall3 sp_is_sheet (tC3 (tV 4) tN3)) (gN 6))
    (cIf (tOr3 (tNot3 (tT (tB3 isiR (tC3 (tV 6) (tC3 (tK (.ty "bool")) tN3))))) (tOr3 (tT (tO neR (tV 6) (tCall3 sp_lissheet (tC3 (tV 4) tN3)))) (tT (tO neSR (tB3 repG (tC3 (tV 4) tN3)) (tV 5))))) (cRet (tK (.bl false))) cNext)))))
def r_law_1 : C3 :=
  (cSeq (cFor (iRng (tC3 (tB3 maxR (tC3 (tK (.int 1)) (tC3 (tB3 minR (tC3 (tK (.int 6)) (tC3 (tO subR (tB3 lenR (tC3 (tV 0) tN3)) (tK (.int 1))) tN3))) tN3))) tN3)) (gN 3) b_law_1)
    (cRet (tK (.bl true))))
def t_law : C3 :=
  (cSeq (cAsg (tNew (tC3 (tCall3 sp_sbig (tC3 (tV 0) (tC3 (tK (.int 0)) tN3))) tN3)) (gN 1))
    (cSeq (cAsg (tCall3 sp_lsheet (tC3 (tV 1) tN3)) (gN 2))
    (cSeq (cIf (tT (tO isnR (tCall3 sp_is_sheet (tC3 (tNew (tL3 lstM (tC3 (tV 2) tN3))) tN3)) (tK (.bl true)))) (cRet (tK (.bl false))) cNext)
    r_law_1)))

theorem rd_law : ∀ ds h Q E, ClS h.length h → ClDs h.length ds → sp_law ds h Q E → t_law (ends3 (GQ h.length Q)) (start3 7 ds) h := by
  rintro ds h Q E _ _ ⟨ns, rfl, hl, rfl, q⟩
  have q' : ∀ (b : Bool) (h' : Sto), b = true → GQ 0 Q (.bl b) h' := fun b h' e => .inl (e ▸ q h')
  try simp only [↓tV_q, ↓tK_q, ↓tN3_q, ↓tC3_q, ↓tNew_q, ↓cSeq_q, ↓cAsg_q, ↓tCall3_q, ↓start3_q, onO_some, List.getElem?_cons_zero, List.map_cons, List.map_nil, List.cons_append, List.nil_append, List.length_cons, List.length_nil, List.replicate_succ, List.replicate_zero, Nat.reduceAdd, Nat.reduceSub, t_law]
  refine sbig_q (by decide) fun b => ?_
  try simp only [↓tV_q, ↓tN3_q, ↓tC3_q, ↓cSeq_q, ↓cAsg_q, ↓gN_q, ↓tCall3_q, ↓start3_q, thenE_nx, onO_some, List.getElem?_cons_zero, List.getElem?_cons_succ, List.set_cons_zero, List.set_cons_succ, List.map_cons, List.map_nil, List.cons_append, List.nil_append, List.length_cons, List.length_nil, List.replicate_succ, List.replicate_zero, Nat.reduceAdd, Nat.reduceSub]
  refine lsheet_q (h := [.lst [.int b]]) (g := []) (a := 0) (x := b) (by simp) fun x sh ok => ?_
  rw [show Rs [Cell.lst [.int b]] 0 x ([] ++ [.lst (sh.map triD)]) = Ap [] [.lst [.int x], .lst (sh.map triD)] from rfl]
  have g1 : (Ap [] [Cell.lst [.int x], .lst (sh.map triD)])[1]? = some (.lst (sh.map triD)) := rfl
  try simp only [↓tV_q, ↓tO_q, ↓tT_q, ↓tN3_q, ↓tC3_q, ↓tNew_q, ↓cSeq_q, ↓cIf_q, ↓gN_q, ↓tCall3_q, ↓tL3_q, ↓lstM_rq, ↓Ap_len, ↓Ap_app, thenE_nx, onO_some, onC_q, List.getElem?_cons_zero, List.getElem?_cons_succ, List.set_cons_zero, List.set_cons_succ, List.cons_append, List.nil_append, List.length_cons, List.length_nil, Nat.reduceAdd, Nat.add_zero, g1]
  have kb := (sheet_thing (n := 0) (k := 2) (g := [Cell.lst [D.int x], Cell.lst (List.map triD sh), Cell.lst (List.map triD sh)]) ok rfl).knb (h := Ap [] [Cell.lst [D.int x], Cell.lst (List.map triD sh), Cell.lst (List.map triD sh)]) (fun i c hc => by rw [Nat.zero_add]; exact hc)
  refine is_sheet_q kb.1 kb.2 ?_
  rw [isShD_ref (h := Ap [] [Cell.lst [D.int x], Cell.lst (List.map triD sh), Cell.lst (List.map triD sh)]) (n := 2) rfl, shV_yes ok]
  have b1 : (Ap [] [Cell.lst [.int x], .lst (sh.map triD), .lst (sh.map triD)])[1]? = some (.lst (sh.map triD)) := rfl
  generalize (Ap [] [Cell.lst [.int x], .lst (sh.map triD), .lst (sh.map triD)]) = B at b1 ⊢
  try simp only [↓tK_q, ↓cNext_q, ↓isnR_bb_q, thenE_nx, onB_bl, ifC_false, Bool.not_true, decide_true]
  try simp only [↓tV_q, ↓tK_q, ↓tO_q, ↓tN3_q, ↓tC3_q, ↓cSeq_q, ↓cFor_q, ↓iRng_q, ↓rngD_1q, ↓tB3_q, ↓subR_ii_q, ↓lenR_f_q, ↓minR_ii_q, ↓maxR_ii_q, onO_some, List.getElem?_cons_zero, r_law_1]
  refine ⟨by rw [List.length_map]; constructor <;> ((repeat' split) <;> omega), ?_⟩
  have hN : (if (if ((List.map D.int ns).length : Int) - 1 < 6 then ((List.map D.int ns).length : Int) - 1 else 6) > 1 then
              if ((List.map D.int ns).length : Int) - 1 < 6 then ((List.map D.int ns).length : Int) - 1 else 6
            else 1).toNat ≤ 6 := by (repeat' split) <;> omega
  generalize (if (if ((List.map D.int ns).length : Int) - 1 < 6 then ((List.map D.int ns).length : Int) - 1 else 6) > 1 then
              if ((List.map D.int ns).length : Int) - 1 < 6 then ((List.map D.int ns).length : Int) - 1 else 6
            else 1).toNat = N at hN ⊢
  refine forL (f := fun (k : Nat) => D.int (k : Int)) (fun l ρ h' => ∃ (G : Sto) (o1 o3 o4 o5 o6 : Option D), ρ = [some (.fl (ns.map .int)), o1, some (.ref 1), o3, o4, o5, o6] ∧ h' = Ap B G) ⟨[], _, _, _, _, _, rfl, Ap_mk⟩ (fun _ _ _ _ => trivial) ?_ ?_
  · rintro ρ h' ⟨G, o1, o3, o4, o5, o6, rfl, rfl⟩
    try simp only [↓tK_q, ↓cRet_q, thenE_nx, ends3_rt]
    exact q' _ _ rfl
  · rintro l j r ρ h' F e ⟨G, o1, o3, o4, o5, o6, rfl, rfl⟩ hF
    try simp only [↓tV_q, ↓tK_q, ↓tO_q, ↓tN3_q, ↓tC3_q, ↓tNew_q, ↓cSeq_q, ↓cAsg_q, ↓gN_q, ↓tCall3_q, ↓addR_ii_q, onO_some, List.getElem?_cons_zero, List.getElem?_cons_succ, List.set_cons_zero, List.set_cons_succ, b_law_1]
    refine sbig_q (by omega) fun b => ?_
    try simp only [↓tV_q, ↓tN3_q, ↓tC3_q, ↓cSeq_q, ↓cAsg_q, ↓gN_q, ↓tCall3_q, ↓Ap_len, ↓Ap_app, thenE_nx, onO_some, List.getElem?_cons_zero, List.getElem?_cons_succ, List.set_cons_zero, List.set_cons_succ]
    have eR : ∀ (y : Int) (k : Sto), Rs (Ap B (G ++ [.lst [.int b]])) (B.length + G.length) y k = Ap B (G ++ .lst [.int y] :: k) := fun y k => by
      unfold Rs Ap
      rw [← List.append_assoc, ← List.length_append, List.set_append, if_neg (by omega), Nat.sub_self, List.set_cons_zero]
      simp
    have eC := eR b []
    rw [show Ap B (G ++ [Cell.lst [.int b]]) = Rs (Ap B (G ++ [.lst [.int b]])) (B.length + G.length) b [] from eC.symm]
    refine sbent_q (sh := sh) ?_ (by rw [Ap_len, List.length_append, List.length_singleton]; omega) ok fun y k d th => ?_
    · rw [eC]; exact get_up b1
    rw [List.nil_append]
    rw [eR] at th
    have ho : Hold (Ap B (G ++ [.lst [.int y]])).length k (Ap B (G ++ .lst [.int y] :: k)) := fun i c hc => by
      rw [Ap_len, List.length_append, List.length_singleton, Nat.add_assoc, Ap_getk, List.getElem?_append_right (by omega), show G.length + 1 + i - G.length = i + 1 by omega, List.getElem?_cons_succ]
      exact hc
    obtain ⟨kb, nf⟩ := th.knb ho
    obtain ⟨p, tp, tx⟩ := th.txt ho
    rw [eR]
    try simp only [↓tV_q, ↓tN3_q, ↓tC3_q, ↓cSeq_q, ↓cAsg_q, ↓gN_q, ↓tB3_q, ↓repG_q, thenE_nx, onO_some, List.getElem?_cons_zero, List.getElem?_cons_succ, List.set_cons_zero, List.set_cons_succ]
    refine ⟨p, tp, tx, ?_⟩
    try simp only [↓tV_q, ↓tN3_q, ↓tC3_q, ↓cSeq_q, ↓cAsg_q, ↓gN_q, ↓tCall3_q, thenE_nx, onO_some, List.getElem?_cons_zero, List.getElem?_cons_succ, List.set_cons_zero, List.set_cons_succ]
    refine is_sheet_q kb nf ?_
    try simp only [↓tV_q, ↓tK_q, ↓tO_q, ↓tT_q, ↓tOr3_q, ↓tNot3_q, ↓tN3_q, ↓tC3_q, ↓cIf_q, ↓gN_q, ↓tCall3_q, ↓tB3_q, ↓isi_2, thenE_nx, onO_some, onB_bl, ifC_false, isU_q, tyN_bl_q, isT_2, List.getElem?_cons_zero, List.getElem?_cons_succ, List.set_cons_zero, List.set_cons_succ, Bool.not_true]
    refine lissheet_q kb nf ?_
    try simp only [↓neR_bb_q, onB_bl]
    generalize isShD (Ap B (G ++ Cell.lst [D.int y] :: k)) d = t
    have e2 : (!t == t) = false := by cases t <;> rfl
    rw [e2]
    try simp only [↓tV_q, ↓tO_q, ↓tT_q, ↓tN3_q, ↓tC3_q, ↓tB3_q, ↓repG_q, onO_some, ifC_false, List.getElem?_cons_zero, List.getElem?_cons_succ]
    refine ⟨p, tp, tx, ?_⟩
    try simp only [↓tV_q, ↓cNext_q, ↓neSR_q, loopE_nx, onO_some, onB_bl, ifC_false, List.getElem?_cons_zero, List.getElem?_cons_succ, Bool.not_true, decide_true]
    exact hF _ _ ⟨_, _, _, _, _, _, rfl, rfl⟩
end F3
set_option maxHeartbeats 400000
namespace F3
open PySem PySem.Spec PyProof.Rows L2
def topS (i : Nat) : Stmt := PySem.Challenge.pw_farcords_k43_what_is_a_sheet.main.body.getD i (.Pass ⟨0, 0, 0, 0⟩)
abbrev s_is_whole : Stmt := topS 3
abbrev N_is_whole : List Str := ["thing"]
theorem sc_is_whole : FnScope N_is_whole ["thing"] (defScope s_is_whole) := ⟨rfl, rfl, rfl, by decide +kernel, rfl, by decide +kernel, by decide +kernel⟩
abbrev s_is_sheet : Stmt := topS 4
abbrev N_is_sheet : List Str := ["thing", "found", "triangle", "side"]
theorem sc_is_sheet : FnScope N_is_sheet ["thing"] (defScope s_is_sheet) := ⟨rfl, rfl, rfl, by decide +kernel, rfl, by decide +kernel, by decide +kernel⟩
abbrev s_how_many_ties : Stmt := topS 5
abbrev N_how_many_ties : List Str := ["sheet"]
theorem sc_how_many_ties : FnScope N_how_many_ties ["sheet"] (defScope s_how_many_ties) := ⟨rfl, rfl, rfl, by decide +kernel, rfl, by decide +kernel, by decide +kernel⟩
abbrev s_scell : Stmt := topS 7
abbrev N_scell : List Str := ["_law_script", "_law_k"]
theorem sc_scell : FnScope N_scell ["_law_script", "_law_k"] (defScope s_scell) := ⟨rfl, rfl, rfl, by decide +kernel, rfl, by decide +kernel, by decide +kernel⟩
abbrev s_sbig : Stmt := topS 8
abbrev N_sbig : List Str := ["_law_script", "_law_at", "_law_by", "_law_prime", "_law_cell", "_law_big_here", "_law_k", "_law_one"]
theorem sc_sbig : FnScope N_sbig ["_law_script", "_law_at"] (defScope s_sbig) := ⟨rfl, rfl, rfl, by decide +kernel, rfl, by decide +kernel, by decide +kernel⟩
abbrev s_sdigit : Stmt := topS 9
abbrev N_sdigit : List Str := ["_law_rest", "_law_many", "_law_found"]
theorem sc_sdigit : FnScope N_sdigit ["_law_rest", "_law_many"] (defScope s_sdigit) := ⟨rfl, rfl, rfl, by decide +kernel, rfl, by decide +kernel, by decide +kernel⟩
abbrev s_lsheet : Stmt := topS 10
abbrev N_lsheet : List Str := ["_law_rest", "_law_many", "_law_pool", "_law_order", "_law_k"]
theorem sc_lsheet : FnScope N_lsheet ["_law_rest"] (defScope s_lsheet) := ⟨rfl, rfl, rfl, by decide +kernel, rfl, by decide +kernel, by decide +kernel⟩
abbrev s_lissheet : Stmt := topS 11
abbrev N_lissheet : List Str := ["_law_thing", "_law_ties", "_law_triangle", "_law_side", "_law_tie"]
theorem sc_lissheet : FnScope N_lissheet ["_law_thing"] (defScope s_lissheet) := ⟨rfl, rfl, rfl, by decide +kernel, rfl, by decide +kernel, by decide +kernel⟩
abbrev s_sbent : Stmt := topS 12
abbrev N_sbent : List Str := ["_law_sheet_here", "_law_rest", "_law_at", "_law_one", "_law_two", "_law_three", "_law_kind", "_law_far", "_law_side", "_law_triangle", "_law_made"]
theorem sc_sbent : FnScope N_sbent ["_law_sheet_here", "_law_rest"] (defScope s_sbent) := ⟨rfl, rfl, rfl, by decide +kernel, rfl, by decide +kernel, by decide +kernel⟩
abbrev s_law : Stmt := topS 13
abbrev N_law : List Str := ["_law_script", "_law_rest", "_law_sheet_here", "_law_k", "_law_made", "_law_kept", "_law_told"]
theorem sc_law : FnScope N_law ["_law_script"] (defScope s_law) := ⟨rfl, rfl, rfl, by decide +kernel, rfl, by decide +kernel, by decide +kernel⟩
section
variable {P : Program} {w : World} {K : PySem.W.Frag} {mg : Str → Option Value} {base : Heap}
theorem d_is_whole {f : Addr} (m_int : mg "int" = none) (m_isinstance : mg "isinstance" = none) (m_bool : mg "bool" = none) (cdv : Value) (A : Around) (outer : List Env) (s : Shared) (H : Hp) (E : XK) (hr : Room 0 (A.deeper (envOfC "is_whole" (defScope s_is_whole) s.heap.objs.size f cdv))) :
    PCs3 (cxOf CX0 P w K mg base N_is_whole "is_whole" (defScope s_is_whole) f cdv A outer s H E).nox (defBody s_is_whole) t_is_whole :=
  (cs3_one (c3_ret (e3_and (e3_cb k_isi m_isinstance (a3_cons (e3_v 0) (a3_cons (e3_ty rfl m_int (by decide +kernel)) a3_nil))) (e3_one (e3_not (e3_cb k_isi m_isinstance (a3_cons (e3_v 0) (a3_cons (e3_ty rfl m_bool (by decide +kernel)) a3_nil))))))))
theorem d_is_sheet {f : Addr} (m_list : mg "list" = none) (m_isinstance : mg "isinstance" = none) (m_len : mg "len" = none) (m_tuple : mg "tuple" = none) (m_all : mg "all" = none) (m_abs : mg "abs" = none) (m_sorted : mg "sorted" = none) (m_range : mg "range" = none) (F_is_whole : Fn3 P w K mg base "is_whole" 1 ["thing"] sp_is_whole) (F_how_many_ties : Fn3 P w K mg base "how_many_ties" 1 ["sheet"] sp_how_many_ties) {tk_FEWEST : Tok} (g_FEWEST : mg "FEWEST" = some (.int 2 tk_FEWEST)) {tk_MOST : Tok} (g_MOST : mg "MOST" = some (.int 12 tk_MOST)) (cdv : Value) (A : Around) (outer : List Env) (s : Shared) (H : Hp) (E : XK) (hr : Room 1 (A.deeper (envOfC "is_sheet" (defScope s_is_sheet) s.heap.objs.size f cdv))) :
    PCs3 (cxOf CX0 P w K mg base N_is_sheet "is_sheet" (defScope s_is_sheet) f cdv A outer s H E).nox (defBody s_is_sheet) t_is_sheet :=
  (cs3_cons (c3_if (PW3.to (w3_or (b3_not (b3_val (e3_cb k_isi m_isinstance (a3_cons (e3_v 0) (a3_cons (e3_ty rfl m_list (by decide +kernel)) a3_nil))))) (w3_or (b3_cmp (o_ne hr.units) (e3_op o_mod (e3_cb k_len m_len (a3_cons (e3_v 0) a3_nil)) e3_int) e3_int) (w3_or1 (b3_not (b3_chain o_le o_le (e3_gint rfl g_FEWEST) (e3_cb k_len m_len (a3_cons (e3_v 0) a3_nil)) (e3_gint rfl g_MOST))))))) (cs3_one (c3_ret e3_bl)) cs3_nil)
    (show PCs3 _ _ r_is_sheet_1 from (cs3_cons (c3_set 1 sc_is_sheet.nd (e3_new (x3_lst a3_nil)))
    (cs3_cons (c3_for PassesOwn.never rfl (i3_seq (e3_v 0)) (g3_n 2 sc_is_sheet.nd) (show PCs3 _ _ b_is_sheet_1 from (cs3_cons (c3_if (PW3.to (w3_or (b3_not (b3_val (e3_cb k_isi m_isinstance (a3_cons (e3_v 2) (a3_cons (e3_ty rfl m_tuple (by decide +kernel)) a3_nil))))) (w3_or (b3_cmp (o_ne hr.units) (e3_cb k_len m_len (a3_cons (e3_v 2) a3_nil)) e3_int) (w3_or1 (b3_not (b3_val (e3_cbx (kx_all rfl) m_all (x3_lc (own := [("side", 3)]) rfl sc_is_sheet.nd (i3_seq (e3_v 2)) (blkOk_by (own := [("side", 3)]) (N := N_is_sheet) (sc := defScope s_is_sheet) (by decide +kernel)) cg_n gm_n (fun _ _ _ _ _ => (pg_name (i := 3) sc_is_sheet.nd rfl (by first | exact Or.inl rfl | exact Or.inr rfl))) (fun _ _ _ _ _ => pts3_nil) (fun _ _ _ _ _ => (show PE3 _ _ e_is_sheet_1 from (e3_call F_is_whole hr (a3_cons (e3_v 3) a3_nil)))))))))))) (cs3_one (c3_ret e3_bl)) cs3_nil)
    (show PCs3 _ _ r_is_sheet_2 from (cs3_one (c3_expr (e3_lm m_extend PySem.F.slot_list_extend PySem.F.type_list_extend (e3_v 1) (a3_cons (e3_new (x3_lc (own := [("side", 3)]) rfl sc_is_sheet.nd (i3_seq (e3_v 2)) (blkOk_by (own := [("side", 3)]) (N := N_is_sheet) (sc := defScope s_is_sheet) (by decide +kernel)) cg_n gm_n (fun _ _ _ _ _ => (pg_name (i := 3) sc_is_sheet.nd rfl (by first | exact Or.inl rfl | exact Or.inr rfl))) (fun _ _ _ _ _ => pts3_nil) (fun _ _ _ _ _ => (show PE3 _ _ e_is_sheet_2 from (e3_cb k_abs m_abs (a3_cons (e3_v 3) a3_nil)))))) a3_nil))))))))
    (cs3_one (c3_ret (e3_cmpx (ox_eq hr.units) (e3_new (x3_cb kl_sorted m_sorted (a3_cons (e3_v 1) a3_nil))) (x3_cb kl_sorted m_sorted (a3_cons (e3_op o_mulL e3_int (e3_new (x3_rg2 rfl m_list m_range e3_int (e3_op o_add (e3_call F_how_many_ties hr (a3_cons (e3_v 0) a3_nil)) e3_int)))) a3_nil)))))))))
theorem d_how_many_ties {f : Addr} (m_len : mg "len" = none) (cdv : Value) (A : Around) (outer : List Env) (s : Shared) (H : Hp) (E : XK) (hr : Room 0 (A.deeper (envOfC "how_many_ties" (defScope s_how_many_ties) s.heap.objs.size f cdv))) :
    PCs3 (cxOf CX0 P w K mg base N_how_many_ties "how_many_ties" (defScope s_how_many_ties) f cdv A outer s H E).nox (defBody s_how_many_ties) t_how_many_ties :=
  (cs3_one (c3_ret (e3_op o_div (e3_op o_mul (e3_cb k_len m_len (a3_cons (e3_v 0) a3_nil)) e3_int) e3_int)))
theorem d_scell {f : Addr} (m_len : mg "len" = none) (cdv : Value) (A : Around) (outer : List Env) (s : Shared) (H : Hp) (E : XK) (hr : Room 0 (A.deeper (envOfC "_law_cell_at" (defScope s_scell) s.heap.objs.size f cdv))) :
    PCs3 (cxOf CX0 P w K mg base N_scell "_law_cell_at" (defScope s_scell) f cdv A outer s H E).nox (defBody s_scell) t_scell :=
  (cs3_cons (c3_if (b3_cmp o_lt (e3_v 1) (e3_cb k_len m_len (a3_cons (e3_v 0) a3_nil))) (cs3_one (c3_ret (e3_ix (e3_v 0) (e3_v 1)))) cs3_nil)
    (cs3_one (c3_ret e3_int)))
theorem d_sbig {f : Addr} (m_range : mg "range" = none) (F_scell : Fn3 P w K mg base "_law_cell_at" 1 ["_law_script", "_law_k"] sp_scell) (cdv : Value) (A : Around) (outer : List Env) (s : Shared) (H : Hp) (E : XK) (hr : Room 1 (A.deeper (envOfC "_law_big" (defScope s_sbig) s.heap.objs.size f cdv))) :
    PCs3 (cxOf CX0 P w K mg base N_sbig "_law_big" (defScope s_sbig) f cdv A outer s H E).nox (defBody s_sbig) t_sbig :=
  (cs3_cons (c3_set 2 sc_sbig.nd (e3_tup (a3_cons e3_int (a3_cons e3_int (a3_cons e3_int (a3_cons e3_int (a3_cons e3_int (a3_cons e3_int (a3_cons e3_int (a3_cons e3_int a3_nil))))))))))
    (cs3_cons (c3_set 3 sc_sbig.nd (e3_tup (a3_cons e3_int (a3_cons e3_int (a3_cons e3_int (a3_cons e3_int (a3_cons e3_int (a3_cons e3_int (a3_cons e3_int (a3_cons e3_int a3_nil))))))))))
    (cs3_cons (c3_set 4 sc_sbig.nd (e3_call F_scell hr (a3_cons (e3_v 0) (a3_cons (e3_v 1) a3_nil))))
    (cs3_cons (c3_if (b3_cmp o_ge (e3_v 4) (e3_op o_pow e3_int e3_int)) (cs3_one (c3_ret (e3_v 4))) cs3_nil)
    (show PCs3 _ _ r_sbig_1 from (cs3_cons (c3_set 5 sc_sbig.nd e3_int)
    (cs3_cons (c3_for PassesOwn.never rfl (i3_range1 rfl m_range (a3_cons e3_int a3_nil)) (g3_n 6 sc_sbig.nd) (show PCs3 _ _ b_sbig_1 from (cs3_cons (c3_set 7 sc_sbig.nd (e3_op o_add (e3_op o_add (e3_op o_mod (e3_call F_scell hr (a3_cons (e3_v 0) (a3_cons (e3_op o_add (e3_v 1) (e3_op o_mod (e3_v 6) e3_int)) a3_nil))) (e3_op o_pow e3_int e3_int)) e3_int) (e3_op o_mul (e3_v 6) (e3_v 6))))
    (cs3_one (c3_set 5 sc_sbig.nd (e3_op o_add (e3_op o_mul (e3_v 5) e3_int) (e3_op o_mod (e3_op o_mod (e3_op o_mul (e3_v 7) (e3_ix (e3_v 2) (e3_op o_mod (e3_v 6) e3_int))) (e3_ix (e3_v 3) (e3_op o_mod (e3_v 6) e3_int))) e3_int)))))))
    (cs3_one (c3_ret (e3_v 5))))))))))
theorem d_sdigit {f : Addr} (cdv : Value) (A : Around) (outer : List Env) (s : Shared) (H : Hp) (E : XK) (hr : Room 0 (A.deeper (envOfC "_law_digit" (defScope s_sdigit) s.heap.objs.size f cdv))) :
    PCs3 (cxOf CX0 P w K mg base N_sdigit "_law_digit" (defScope s_sdigit) f cdv A outer s H E).nox (defBody s_sdigit) t_sdigit :=
  (cs3_cons (c3_set 2 sc_sdigit.nd (e3_op o_mod (e3_ix (e3_v 0) e3_int) (e3_v 1)))
    (cs3_cons (c3_asg (e3_op o_div (e3_ix (e3_v 0) e3_int) (e3_v 1)) (g3_sub (e3_v 0) e3_int))
    (cs3_one (c3_ret (e3_v 2)))))
theorem d_lsheet {f : Addr} (m_list : mg "list" = none) (m_range : mg "range" = none) (m_len : mg "len" = none) (m_tuple : mg "tuple" = none) (F_sdigit : Fn3 P w K mg base "_law_digit" 1 ["_law_rest", "_law_many"] sp_sdigit) (cdv : Value) (A : Around) (outer : List Env) (s : Shared) (H : Hp) (E : XK) (hr : Room 1 (A.deeper (envOfC "_law_sheet" (defScope s_lsheet) s.heap.objs.size f cdv))) :
    PCs3 (cxOf CX0 P w K mg base N_lsheet "_law_sheet" (defScope s_lsheet) f cdv A outer s H E).nox (defBody s_lsheet) t_lsheet :=
  (cs3_cons (c3_set 1 sc_lsheet.nd (e3_op o_add e3_int (e3_op o_mul e3_int (e3_call F_sdigit hr (a3_cons (e3_v 0) (a3_cons e3_int a3_nil))))))
    (cs3_cons (c3_if (b3_cmp (o_eq hr.units) (e3_call F_sdigit hr (a3_cons (e3_v 0) (a3_cons e3_int a3_nil))) e3_int) (cs3_one (c3_set 1 sc_lsheet.nd (e3_op o_add e3_int (e3_op o_mul e3_int (e3_call F_sdigit hr (a3_cons (e3_v 0) (a3_cons e3_int a3_nil))))))) cs3_nil)
    (show PCs3 _ _ r_lsheet_1 from (cs3_cons (c3_set 2 sc_lsheet.nd (e3_op o_mulL e3_int (e3_new (x3_rg2 rfl m_list m_range e3_int (e3_op o_add (e3_op o_div (e3_op o_mul (e3_v 1) e3_int) e3_int) e3_int)))))
    (cs3_cons (c3_set 3 sc_lsheet.nd (e3_new (x3_lst a3_nil)))
    (cs3_cons (c3_while PassesOwn.never (b3_cmpx (ox_ne hr.units) (e3_v 2) (x3_lst a3_nil)) (show PCs3 _ _ b_lsheet_1 from (cs3_one (c3_expr (e3_lm m_append PySem.F.slot_list_append PySem.F.type_list_append (e3_v 3) (a3_cons (e3_op o_mul (e3_lm m_popAt PySem.F.slot_list_pop PySem.F.type_list_pop (e3_v 2) (a3_cons (e3_call F_sdigit hr (a3_cons (e3_v 0) (a3_cons (e3_cb k_len m_len (a3_cons (e3_v 2) a3_nil)) a3_nil))) a3_nil)) (e3_op o_sub e3_int (e3_op o_mul e3_int (e3_call F_sdigit hr (a3_cons (e3_v 0) (a3_cons e3_int a3_nil)))))) a3_nil))))))
    (cs3_one (c3_ret (e3_new (x3_lc (own := [("_law_k", 4)]) rfl sc_lsheet.nd (i3_range1 rfl m_range (a3_cons (e3_v 1) a3_nil)) (blkOk_by (own := [("_law_k", 4)]) (N := N_lsheet) (sc := defScope s_lsheet) (by decide +kernel)) cg_n gm_n (fun _ _ _ _ _ => (pg_name (i := 4) sc_lsheet.nd rfl (by first | exact Or.inl rfl | exact Or.inr rfl))) (fun _ _ _ _ _ => pts3_nil) (fun _ _ _ _ _ => (show PE3 _ _ e_lsheet_1 from (e3_ct k_tuple m_tuple (a3_cons (e3_sl (e3_v 3) (o3_so (e3_op o_mul e3_int (e3_v 4))) (o3_so (e3_op o_add (e3_op o_mul e3_int (e3_v 4)) e3_int))) a3_nil))))))))))))))
theorem d_lissheet {f : Addr} (m_list : mg "list" = none) (m_isinstance : mg "isinstance" = none) (m_len : mg "len" = none) (m_tuple : mg "tuple" = none) (m_int : mg "int" = none) (m_bool : mg "bool" = none) (m_abs : mg "abs" = none) (m_range : mg "range" = none) (m_all : mg "all" = none) (cdv : Value) (A : Around) (outer : List Env) (s : Shared) (H : Hp) (E : XK) (hr : Room 0 (A.deeper (envOfC "_law_is_sheet" (defScope s_lissheet) s.heap.objs.size f cdv))) :
    PCs3 (cxOf CX0 P w K mg base N_lissheet "_law_is_sheet" (defScope s_lissheet) f cdv A outer s H E).nox (defBody s_lissheet) t_lissheet :=
  (cs3_cons (c3_if (PW3.to (w3_or (b3_not (b3_val (e3_cb k_isi m_isinstance (a3_cons (e3_v 0) (a3_cons (e3_ty rfl m_list (by decide +kernel)) a3_nil))))) (w3_or1 (b3_cmp o_nin (e3_cb k_len m_len (a3_cons (e3_v 0) a3_nil)) (e3_tup (a3_cons e3_int (a3_cons e3_int (a3_cons e3_int (a3_cons e3_int (a3_cons e3_int (a3_cons e3_int a3_nil))))))))))) (cs3_one (c3_ret e3_bl)) cs3_nil)
    (show PCs3 _ _ r_lissheet_1 from (cs3_cons (c3_set 1 sc_lissheet.nd (e3_new (x3_lst a3_nil)))
    (cs3_cons (c3_for PassesOwn.never rfl (i3_seq (e3_v 0)) (g3_n 2 sc_lissheet.nd) (show PCs3 _ _ b_lissheet_1 from (cs3_cons (c3_if (PW3.to (w3_or (b3_not (b3_val (e3_cb k_isi m_isinstance (a3_cons (e3_v 2) (a3_cons (e3_ty rfl m_tuple (by decide +kernel)) a3_nil))))) (w3_or1 (b3_cmp (o_ne hr.units) (e3_cb k_len m_len (a3_cons (e3_v 2) a3_nil)) e3_int)))) (cs3_one (c3_ret e3_bl)) cs3_nil)
    (show PCs3 _ _ r_lissheet_2 from (cs3_one (c3_for PassesOwn.never rfl (i3_seq (e3_v 2)) (g3_n 3 sc_lissheet.nd) (show PCs3 _ _ b_lissheet_2 from (cs3_cons (c3_if (PW3.to (w3_or (b3_not (b3_val (e3_cb k_isi m_isinstance (a3_cons (e3_v 3) (a3_cons (e3_ty rfl m_int (by decide +kernel)) a3_nil))))) (w3_or1 (b3_val (e3_cb k_isi m_isinstance (a3_cons (e3_v 3) (a3_cons (e3_ty rfl m_bool (by decide +kernel)) a3_nil))))))) (cs3_one (c3_ret e3_bl)) cs3_nil)
    (show PCs3 _ _ r_lissheet_3 from (cs3_one (c3_expr (e3_lm m_append PySem.F.slot_list_append PySem.F.type_list_append (e3_v 1) (a3_cons (e3_cb k_abs m_abs (a3_cons (e3_v 3) a3_nil)) a3_nil)))))))))))))
    (cs3_one (c3_ret (e3_cbx (kx_all rfl) m_all (x3_lc (own := [("_law_tie", 4)]) rfl sc_lissheet.nd (i3_range2 rfl m_range (a3_cons e3_int (a3_cons (e3_op o_add (e3_op o_div (e3_op o_mul (e3_cb k_len m_len (a3_cons (e3_v 0) a3_nil)) e3_int) e3_int) e3_int) a3_nil))) (blkOk_by (own := [("_law_tie", 4)]) (N := N_lissheet) (sc := defScope s_lissheet) (by decide +kernel)) cg_n gm_n (fun _ _ _ _ _ => (pg_name (i := 4) sc_lissheet.nd rfl (by first | exact Or.inl rfl | exact Or.inr rfl))) (fun _ _ _ _ _ => pts3_nil) (fun _ _ _ _ _ => (show PE3 _ _ e_lissheet_1 from (e3_cmp (o_eq hr.units) (e3_lm m_count PySem.F.slot_list_count PySem.F.type_list_count (e3_v 1) (a3_cons (e3_v 4) a3_nil)) e3_int)))))))))))
theorem d_sbent {f : Addr} (m_len : mg "len" = none) (m_list : mg "list" = none) (m_tuple : mg "tuple" = none) (F_sdigit : Fn3 P w K mg base "_law_digit" 1 ["_law_rest", "_law_many"] sp_sdigit) (cdv : Value) (A : Around) (outer : List Env) (s : Shared) (H : Hp) (E : XK) (hr : Room 1 (A.deeper (envOfC "_law_bent" (defScope s_sbent) s.heap.objs.size f cdv))) :
    PCs3 (cxOf CX0 P w K mg base N_sbent "_law_bent" (defScope s_sbent) f cdv A outer s H E).nox (defBody s_sbent) t_sbent :=
  (cs3_cons (c3_set 2 sc_sbent.nd (e3_call F_sdigit hr (a3_cons (e3_v 1) (a3_cons (e3_cb k_len m_len (a3_cons (e3_v 0) a3_nil)) a3_nil))))
    (cs3_cons (c3_asg (e3_ix (e3_v 0) (e3_v 2)) (g3_tup rfl (gs3_cons (g3_n 3 sc_sbent.nd) (gs3_cons (g3_n 4 sc_sbent.nd) (gs3_cons (g3_n 5 sc_sbent.nd) gs3_nil)))))
    (cs3_cons (c3_set 6 sc_sbent.nd (e3_call F_sdigit hr (a3_cons (e3_v 1) (a3_cons e3_int a3_nil))))
    (cs3_cons (c3_set 7 sc_sbent.nd (e3_op o_div (e3_op o_mul (e3_cb k_len m_len (a3_cons (e3_v 0) a3_nil)) e3_int) e3_int))
    (cs3_cons (c3_set 8 sc_sbent.nd (e3_ixx (x3_lst (a3_cons (e3_op o_add (e3_v 7) e3_int) (a3_cons e3_int (a3_cons (e3_op o_sub (e3_un o_neg (e3_v 7)) e3_int) (a3_cons (e3_v 4) (a3_cons (e3_un o_neg (e3_v 3)) (a3_cons e3_bl (a3_cons e3_non (a3_cons e3_str (a3_cons (e3_op o_pow e3_int e3_int) (a3_cons (e3_tup (a3_cons e3_int a3_nil)) a3_nil))))))))))) (e3_call F_sdigit hr (a3_cons (e3_v 1) (a3_cons e3_int a3_nil)))))
    (cs3_cons (c3_set 9 sc_sbent.nd (e3_new (x3_lst (a3_cons (e3_tup (a3_cons (e3_v 3) (a3_cons (e3_v 4) a3_nil))) (a3_cons (e3_tup (a3_cons (e3_v 3) (a3_cons (e3_v 4) (a3_cons (e3_v 5) (a3_cons (e3_v 3) a3_nil))))) (a3_cons (e3_new (x3_lst (a3_cons (e3_v 3) (a3_cons (e3_v 4) (a3_cons (e3_v 5) a3_nil))))) (a3_cons (e3_v 3) (a3_cons e3_non (a3_cons (e3_tup a3_nil) (a3_cons e3_str (a3_cons (e3_tup (a3_cons (e3_un o_neg (e3_v 5)) (a3_cons (e3_un o_neg (e3_v 4)) (a3_cons (e3_un o_neg (e3_v 3)) a3_nil)))) a3_nil)))))))))))
    (cs3_cons (c3_set 10 sc_sbent.nd (e3_new (x3_ct kl_list m_list (a3_cons (e3_v 0) a3_nil))))
    (cs3_cons (c3_if (b3_cmp o_lt (e3_v 6) e3_int) (cs3_one (c3_asg (e3_ixx (x3_lst (a3_cons (e3_tup (a3_cons (e3_v 8) (a3_cons (e3_v 4) (a3_cons (e3_v 5) a3_nil)))) (a3_cons (e3_tup (a3_cons (e3_v 3) (a3_cons (e3_v 8) (a3_cons (e3_v 5) a3_nil)))) (a3_cons (e3_tup (a3_cons (e3_v 3) (a3_cons (e3_v 4) (a3_cons (e3_v 8) a3_nil)))) (a3_cons (e3_tup (a3_cons (e3_un o_neg (e3_v 3)) (a3_cons (e3_v 4) (a3_cons (e3_v 5) a3_nil)))) a3_nil))))) (e3_v 6)) (g3_sub (e3_v 10) (e3_v 2)))) (cs3_one (c3_if (b3_cmp o_lt (e3_v 6) e3_int) (cs3_one (c3_asg (e3_ix (e3_v 9) (e3_call F_sdigit hr (a3_cons (e3_v 1) (a3_cons e3_int a3_nil)))) (g3_sub (e3_v 10) (e3_v 2)))) (cs3_one (c3_if (b3_cmp (o_eq hr.units) (e3_v 6) e3_int) (cs3_one (c3_set 10 sc_sbent.nd (e3_op o_add (e3_v 10) (e3_new (x3_lst (a3_cons (e3_ix (e3_v 0) (e3_v 2)) a3_nil)))))) (cs3_one (c3_if (b3_cmp (o_eq hr.units) (e3_v 6) e3_int) (cs3_one (c3_expr (e3_lm m_popAt PySem.F.slot_list_pop PySem.F.type_list_pop (e3_v 10) (a3_cons (e3_v 2) a3_nil)))) (cs3_one (c3_if (b3_cmp (o_eq hr.units) (e3_v 6) e3_int) (cs3_one (c3_set 10 sc_sbent.nd (e3_op o_add (e3_v 10) (e3_new (x3_lst (a3_cons (e3_tup (a3_cons (e3_op o_add (e3_v 7) e3_int) (a3_cons (e3_op o_add (e3_v 7) e3_int) (a3_cons (e3_op o_add (e3_v 7) e3_int) a3_nil)))) (a3_cons (e3_tup (a3_cons (e3_op o_sub (e3_un o_neg (e3_v 7)) e3_int) (a3_cons (e3_op o_add (e3_v 7) e3_int) (a3_cons (e3_op o_add (e3_v 7) e3_int) a3_nil)))) a3_nil))))))) (cs3_one (c3_if (b3_cmp (o_eq hr.units) (e3_v 6) e3_int) (cs3_one (c3_set 10 sc_sbent.nd (e3_ct k_tuple m_tuple (a3_cons (e3_v 10) a3_nil)))) (cs3_one (c3_if (b3_cmp (o_eq hr.units) (e3_v 6) e3_int) (cs3_one (c3_set 10 sc_sbent.nd (e3_ixx (x3_lst (a3_cons e3_non (a3_cons e3_int (a3_cons e3_bl (a3_cons e3_str (a3_cons (e3_new (x3_lst a3_nil)) (a3_cons (e3_new (x3_lst (a3_cons (e3_new (x3_lst a3_nil)) a3_nil))) (a3_cons (e3_tup a3_nil) (a3_cons (e3_new (x3_lst (a3_cons e3_non a3_nil))) a3_nil))))))))) (e3_call F_sdigit hr (a3_cons (e3_v 1) (a3_cons e3_int a3_nil)))))) (cs3_one (c3_if (b3_cmp (o_eq hr.units) (e3_v 6) e3_int) (cs3_one (c3_asg (e3_tup (a3_cons (e3_v 3) (a3_cons (e3_v 5) (a3_cons (e3_v 4) a3_nil)))) (g3_sub (e3_v 10) (e3_v 2)))) (cs3_one (c3_set 10 sc_sbent.nd (e3_new (x3_rev1 (e3_v 10))))))))))))))))))))
    (cs3_one (c3_ret (e3_v 10)))))))))))
theorem d_law {f : Addr} (m_list : mg "list" = none) (m_len : mg "len" = none) (m_min : mg "min" = none) (m_max : mg "max" = none) (m_range : mg "range" = none) (m_repr : mg "repr" = none) (m_bool : mg "bool" = none) (m_isinstance : mg "isinstance" = none) (F_sbig : Fn3 P w K mg base "_law_big" 2 ["_law_script", "_law_at"] sp_sbig) (F_lsheet : Fn3 P w K mg base "_law_sheet" 2 ["_law_rest"] sp_lsheet) (F_is_sheet : Fn3 P w K mg base "is_sheet" 2 ["thing"] sp_is_sheet) (F_sbent : Fn3 P w K mg base "_law_bent" 2 ["_law_sheet_here", "_law_rest"] sp_sbent) (F_lissheet : Fn3 P w K mg base "_law_is_sheet" 1 ["_law_thing"] sp_lissheet) (cdv : Value) (A : Around) (outer : List Env) (s : Shared) (H : Hp) (E : XK) (hr : Room 2 (A.deeper (envOfC "law" (defScope s_law) s.heap.objs.size f cdv))) (hg : A.guards = some []) :
    PCs3 (cxOf CX0 P w K mg base N_law "law" (defScope s_law) f cdv A outer s H E).nox (defBody s_law) t_law :=
  (cs3_cons (c3_set 1 sc_law.nd (e3_new (x3_lst (a3_cons (e3_call F_sbig hr (a3_cons (e3_v 0) (a3_cons e3_int a3_nil))) a3_nil))))
    (cs3_cons (c3_set 2 sc_law.nd (e3_call F_lsheet hr (a3_cons (e3_v 1) a3_nil)))
    (cs3_cons (c3_if (b3_cmp o_isn (e3_call F_is_sheet hr (a3_cons (e3_new (x3_ct kl_list m_list (a3_cons (e3_v 2) a3_nil))) a3_nil)) e3_bl) (cs3_one (c3_ret e3_bl)) cs3_nil)
    (show PCs3 _ _ r_law_1 from (cs3_cons (c3_for PassesOwn.never rfl (i3_range1 rfl m_range (a3_cons (e3_cb (k_max rfl) m_max (a3_cons e3_int (a3_cons (e3_cb (k_min rfl) m_min (a3_cons e3_int (a3_cons (e3_op o_sub (e3_cb k_len m_len (a3_cons (e3_v 0) a3_nil)) e3_int) a3_nil))) a3_nil))) a3_nil)) (g3_n 3 sc_law.nd) (show PCs3 _ _ b_law_1 from (cs3_cons (c3_set 1 sc_law.nd (e3_new (x3_lst (a3_cons (e3_call F_sbig hr (a3_cons (e3_v 0) (a3_cons (e3_op o_add e3_int (e3_v 3)) a3_nil))) a3_nil))))
    (cs3_cons (c3_set 4 sc_law.nd (e3_call F_sbent hr (a3_cons (e3_v 2) (a3_cons (e3_v 1) a3_nil))))
    (cs3_cons (c3_set 5 sc_law.nd (e3_cb (k_reprG hg hr.units) m_repr (a3_cons (e3_v 4) a3_nil)))
    (cs3_cons (c3_set 6 sc_law.nd (e3_call F_is_sheet hr (a3_cons (e3_v 4) a3_nil)))
    (cs3_one (c3_if (PW3.to (w3_or (b3_not (b3_val (e3_cb k_isi m_isinstance (a3_cons (e3_v 6) (a3_cons (e3_ty rfl m_bool (by decide +kernel)) a3_nil))))) (w3_or (b3_cmp (o_ne hr.units) (e3_v 6) (e3_call F_lissheet hr (a3_cons (e3_v 4) a3_nil))) (w3_or1 (b3_cmp o_neS (e3_cb (k_reprG hg hr.units) m_repr (a3_cons (e3_v 4) a3_nil)) (e3_v 5)))))) (cs3_one (c3_ret e3_bl)) cs3_nil))))))))
    (cs3_one (c3_ret e3_bl)))))))
end
theorem all_mk {l : PySem.W.OpenLaw} {w : World} {K : PySem.W.Frag} {h : Heap} {mg : Str → Option Value} {fa : Addr} (X : K.In h) (G : h.Ns mainGlobals mg) (hfa : mg "law" = some (.ref fa))
    {f0 : Addr} {od0 an0 : Option Addr} {sl0 : Array (Option Value)} {oc0 kV0 dc0 pm0 cd0 ct0 : Value}
    (a0 : PySem.W.nsIn K mainGlobals "is_whole" = some (some (.ref f0))) (l0 : K.lookup f0 = some ⟨oc0, od0, .func (PySem.W.fnOf "is_whole" "is_whole" (defArgs s_is_whole) (defBody s_is_whole) (defScope s_is_whole) .none kV0 dc0 pm0 an0 cd0 ct0), sl0⟩) (c0 : PySem.W.codeIn K cd0 "is_whole" = true) (k0 : PySem.W.keepIn K (.ref f0) = true)
    {f1 : Addr} {od1 an1 : Option Addr} {sl1 : Array (Option Value)} {oc1 kV1 dc1 pm1 cd1 ct1 : Value}
    (a1 : PySem.W.nsIn K mainGlobals "is_sheet" = some (some (.ref f1))) (l1 : K.lookup f1 = some ⟨oc1, od1, .func (PySem.W.fnOf "is_sheet" "is_sheet" (defArgs s_is_sheet) (defBody s_is_sheet) (defScope s_is_sheet) .none kV1 dc1 pm1 an1 cd1 ct1), sl1⟩) (c1 : PySem.W.codeIn K cd1 "is_sheet" = true) (k1 : PySem.W.keepIn K (.ref f1) = true)
    {f2 : Addr} {od2 an2 : Option Addr} {sl2 : Array (Option Value)} {oc2 kV2 dc2 pm2 cd2 ct2 : Value}
    (a2 : PySem.W.nsIn K mainGlobals "how_many_ties" = some (some (.ref f2))) (l2 : K.lookup f2 = some ⟨oc2, od2, .func (PySem.W.fnOf "how_many_ties" "how_many_ties" (defArgs s_how_many_ties) (defBody s_how_many_ties) (defScope s_how_many_ties) .none kV2 dc2 pm2 an2 cd2 ct2), sl2⟩) (c2 : PySem.W.codeIn K cd2 "how_many_ties" = true) (k2 : PySem.W.keepIn K (.ref f2) = true)
    {f3 : Addr} {od3 an3 : Option Addr} {sl3 : Array (Option Value)} {oc3 kV3 dc3 pm3 cd3 ct3 : Value}
    (a3 : PySem.W.nsIn K mainGlobals "_law_cell_at" = some (some (.ref f3))) (l3 : K.lookup f3 = some ⟨oc3, od3, .func (PySem.W.fnOf "_law_cell_at" "_law_cell_at" (defArgs s_scell) (defBody s_scell) (defScope s_scell) .none kV3 dc3 pm3 an3 cd3 ct3), sl3⟩) (c3 : PySem.W.codeIn K cd3 "_law_cell_at" = true) (k3 : PySem.W.keepIn K (.ref f3) = true)
    {f4 : Addr} {od4 an4 : Option Addr} {sl4 : Array (Option Value)} {oc4 kV4 dc4 pm4 cd4 ct4 : Value}
    (a4 : PySem.W.nsIn K mainGlobals "_law_big" = some (some (.ref f4))) (l4 : K.lookup f4 = some ⟨oc4, od4, .func (PySem.W.fnOf "_law_big" "_law_big" (defArgs s_sbig) (defBody s_sbig) (defScope s_sbig) .none kV4 dc4 pm4 an4 cd4 ct4), sl4⟩) (c4 : PySem.W.codeIn K cd4 "_law_big" = true) (k4 : PySem.W.keepIn K (.ref f4) = true)
    {f5 : Addr} {od5 an5 : Option Addr} {sl5 : Array (Option Value)} {oc5 kV5 dc5 pm5 cd5 ct5 : Value}
    (a5 : PySem.W.nsIn K mainGlobals "_law_digit" = some (some (.ref f5))) (l5 : K.lookup f5 = some ⟨oc5, od5, .func (PySem.W.fnOf "_law_digit" "_law_digit" (defArgs s_sdigit) (defBody s_sdigit) (defScope s_sdigit) .none kV5 dc5 pm5 an5 cd5 ct5), sl5⟩) (c5 : PySem.W.codeIn K cd5 "_law_digit" = true) (k5 : PySem.W.keepIn K (.ref f5) = true)
    {f6 : Addr} {od6 an6 : Option Addr} {sl6 : Array (Option Value)} {oc6 kV6 dc6 pm6 cd6 ct6 : Value}
    (a6 : PySem.W.nsIn K mainGlobals "_law_sheet" = some (some (.ref f6))) (l6 : K.lookup f6 = some ⟨oc6, od6, .func (PySem.W.fnOf "_law_sheet" "_law_sheet" (defArgs s_lsheet) (defBody s_lsheet) (defScope s_lsheet) .none kV6 dc6 pm6 an6 cd6 ct6), sl6⟩) (c6 : PySem.W.codeIn K cd6 "_law_sheet" = true) (k6 : PySem.W.keepIn K (.ref f6) = true)
    {f7 : Addr} {od7 an7 : Option Addr} {sl7 : Array (Option Value)} {oc7 kV7 dc7 pm7 cd7 ct7 : Value}
    (a7 : PySem.W.nsIn K mainGlobals "_law_is_sheet" = some (some (.ref f7))) (l7 : K.lookup f7 = some ⟨oc7, od7, .func (PySem.W.fnOf "_law_is_sheet" "_law_is_sheet" (defArgs s_lissheet) (defBody s_lissheet) (defScope s_lissheet) .none kV7 dc7 pm7 an7 cd7 ct7), sl7⟩) (c7 : PySem.W.codeIn K cd7 "_law_is_sheet" = true) (k7 : PySem.W.keepIn K (.ref f7) = true)
    {f8 : Addr} {od8 an8 : Option Addr} {sl8 : Array (Option Value)} {oc8 kV8 dc8 pm8 cd8 ct8 : Value}
    (a8 : PySem.W.nsIn K mainGlobals "_law_bent" = some (some (.ref f8))) (l8 : K.lookup f8 = some ⟨oc8, od8, .func (PySem.W.fnOf "_law_bent" "_law_bent" (defArgs s_sbent) (defBody s_sbent) (defScope s_sbent) .none kV8 dc8 pm8 an8 cd8 ct8), sl8⟩) (c8 : PySem.W.codeIn K cd8 "_law_bent" = true) (k8 : PySem.W.keepIn K (.ref f8) = true)
    {f9 : Addr} {od9 an9 : Option Addr} {sl9 : Array (Option Value)} {oc9 kV9 dc9 pm9 cd9 ct9 : Value}
    (a9 : PySem.W.nsIn K mainGlobals "law" = some (some (.ref f9))) (l9 : K.lookup f9 = some ⟨oc9, od9, .func (PySem.W.fnOf "law" "law" (defArgs s_law) (defBody s_law) (defScope s_law) .none kV9 dc9 pm9 an9 cd9 ct9), sl9⟩) (c9 : PySem.W.codeIn K cd9 "law" = true) (k9 : PySem.W.keepIn K (.ref f9) = true)
    (z_int : PySem.W.nsIn K mainGlobals "int" = some none)
    (z_isinstance : PySem.W.nsIn K mainGlobals "isinstance" = some none)
    (z_bool : PySem.W.nsIn K mainGlobals "bool" = some none)
    (z_list : PySem.W.nsIn K mainGlobals "list" = some none)
    (z_len : PySem.W.nsIn K mainGlobals "len" = some none)
    (z_tuple : PySem.W.nsIn K mainGlobals "tuple" = some none)
    (z_all : PySem.W.nsIn K mainGlobals "all" = some none)
    (z_abs : PySem.W.nsIn K mainGlobals "abs" = some none)
    (z_sorted : PySem.W.nsIn K mainGlobals "sorted" = some none)
    (z_range : PySem.W.nsIn K mainGlobals "range" = some none)
    (z_min : PySem.W.nsIn K mainGlobals "min" = some none)
    (z_max : PySem.W.nsIn K mainGlobals "max" = some none)
    (z_repr : PySem.W.nsIn K mainGlobals "repr" = some none)
    {tk_FEWEST : Tok} (y_FEWEST : PySem.W.nsIn K mainGlobals "FEWEST" = some (some (.int 2 tk_FEWEST)))
    {tk_MOST : Tok} (y_MOST : PySem.W.nsIn K mainGlobals "MOST" = some (some (.int 12 tk_MOST)))
    : ∃ fd : FuncData, (∀ (s : Shared) (v : Value), BindsTo s fd ⟨[v], []⟩ [("_law_script", v)]) ∧ ∀ base : Heap, K.In base → base.Ns mainGlobals mg → FnG l.prog w K mg base 3 fa fd ["_law_script"] (LSp K sp_law) := by
  have e := hfa.symm.trans (PySem.W.mg_of X G a9)
  cases e
  have m_int := PySem.W.mg_none_of X G z_int
  have m_isinstance := PySem.W.mg_none_of X G z_isinstance
  have m_bool := PySem.W.mg_none_of X G z_bool
  have m_list := PySem.W.mg_none_of X G z_list
  have m_len := PySem.W.mg_none_of X G z_len
  have m_tuple := PySem.W.mg_none_of X G z_tuple
  have m_all := PySem.W.mg_none_of X G z_all
  have m_abs := PySem.W.mg_none_of X G z_abs
  have m_sorted := PySem.W.mg_none_of X G z_sorted
  have m_range := PySem.W.mg_none_of X G z_range
  have m_min := PySem.W.mg_none_of X G z_min
  have m_max := PySem.W.mg_none_of X G z_max
  have m_repr := PySem.W.mg_none_of X G z_repr
  have g_FEWEST := PySem.W.mg_of X G y_FEWEST
  have g_MOST := PySem.W.mg_of X G y_MOST
  refine ⟨PySem.W.fnOf "law" "law" (defArgs s_law) (defBody s_law) (defScope s_law) .none kV9 dc9 pm9 an9 cd9 ct9, fun s v => .of_eq rfl, fun base _ _ => ?_⟩
  have U3 := fun_mk (st := s_scell) l3 c3 k3
  have F_scell : Fn3 l.prog w K mg base "_law_cell_at" 1 ["_law_script", "_law_k"] sp_scell := ⟨⟨f3, _, PySem.W.mg_of X G a3, U3.kp, U3.binds (fun _ _ _ _ _ _ us hl => match us, hl with | [_, _], _ => rfl), fn3 U3 sc_scell (len_scell) (fun cdv A outer s H E hr => d_scell m_len cdv A outer s H E hr) rd_scell⟩, mono_scell⟩
  have U4 := fun_mk (st := s_sbig) l4 c4 k4
  have F_sbig : Fn3 l.prog w K mg base "_law_big" 2 ["_law_script", "_law_at"] sp_sbig := ⟨⟨f4, _, PySem.W.mg_of X G a4, U4.kp, U4.binds (fun _ _ _ _ _ _ us hl => match us, hl with | [_, _], _ => rfl), fn3 U4 sc_sbig (len_sbig) (fun cdv A outer s H E hr => d_sbig m_range F_scell cdv A outer s H E hr) rd_sbig⟩, mono_sbig⟩
  have U5 := fun_mk (st := s_sdigit) l5 c5 k5
  have F_sdigit : Fn3 l.prog w K mg base "_law_digit" 1 ["_law_rest", "_law_many"] sp_sdigit := ⟨⟨f5, _, PySem.W.mg_of X G a5, U5.kp, U5.binds (fun _ _ _ _ _ _ us hl => match us, hl with | [_, _], _ => rfl), fn3 U5 sc_sdigit (len_sdigit) (fun cdv A outer s H E hr => d_sdigit  cdv A outer s H E hr) rd_sdigit⟩, mono_sdigit⟩
  have U6 := fun_mk (st := s_lsheet) l6 c6 k6
  have F_lsheet : Fn3 l.prog w K mg base "_law_sheet" 2 ["_law_rest"] sp_lsheet := ⟨⟨f6, _, PySem.W.mg_of X G a6, U6.kp, U6.binds (fun _ _ _ _ _ _ us hl => match us, hl with | [_], _ => rfl), fn3 U6 sc_lsheet (len_lsheet) (fun cdv A outer s H E hr => d_lsheet m_list m_range m_len m_tuple F_sdigit cdv A outer s H E hr) rd_lsheet⟩, mono_lsheet⟩
  have U0 := fun_mk (st := s_is_whole) l0 c0 k0
  have F_is_whole : Fn3 l.prog w K mg base "is_whole" 1 ["thing"] sp_is_whole := ⟨⟨f0, _, PySem.W.mg_of X G a0, U0.kp, U0.binds (fun _ _ _ _ _ _ us hl => match us, hl with | [_], _ => rfl), fn3 U0 sc_is_whole (len_is_whole) (fun cdv A outer s H E hr => d_is_whole m_int m_isinstance m_bool cdv A outer s H E hr) rd_is_whole⟩, mono_is_whole⟩
  have U2 := fun_mk (st := s_how_many_ties) l2 c2 k2
  have F_how_many_ties : Fn3 l.prog w K mg base "how_many_ties" 1 ["sheet"] sp_how_many_ties := ⟨⟨f2, _, PySem.W.mg_of X G a2, U2.kp, U2.binds (fun _ _ _ _ _ _ us hl => match us, hl with | [_], _ => rfl), fn3 U2 sc_how_many_ties (len_how_many_ties) (fun cdv A outer s H E hr => d_how_many_ties m_len cdv A outer s H E hr) rd_how_many_ties⟩, mono_how_many_ties⟩
  have U1 := fun_mk (st := s_is_sheet) l1 c1 k1
  have F_is_sheet : Fn3 l.prog w K mg base "is_sheet" 2 ["thing"] sp_is_sheet := ⟨⟨f1, _, PySem.W.mg_of X G a1, U1.kp, U1.binds (fun _ _ _ _ _ _ us hl => match us, hl with | [_], _ => rfl), fn3 U1 sc_is_sheet (len_is_sheet) (fun cdv A outer s H E hr => d_is_sheet m_list m_isinstance m_len m_tuple m_all m_abs m_sorted m_range F_is_whole F_how_many_ties g_FEWEST g_MOST cdv A outer s H E hr) rd_is_sheet⟩, mono_is_sheet⟩
  have U8 := fun_mk (st := s_sbent) l8 c8 k8
  have F_sbent : Fn3 l.prog w K mg base "_law_bent" 2 ["_law_sheet_here", "_law_rest"] sp_sbent := ⟨⟨f8, _, PySem.W.mg_of X G a8, U8.kp, U8.binds (fun _ _ _ _ _ _ us hl => match us, hl with | [_, _], _ => rfl), fn3 U8 sc_sbent (len_sbent) (fun cdv A outer s H E hr => d_sbent m_len m_list m_tuple F_sdigit cdv A outer s H E hr) rd_sbent⟩, mono_sbent⟩
  have U7 := fun_mk (st := s_lissheet) l7 c7 k7
  have F_lissheet : Fn3 l.prog w K mg base "_law_is_sheet" 1 ["_law_thing"] sp_lissheet := ⟨⟨f7, _, PySem.W.mg_of X G a7, U7.kp, U7.binds (fun _ _ _ _ _ _ us hl => match us, hl with | [_], _ => rfl), fn3 U7 sc_lissheet (len_lissheet) (fun cdv A outer s H E hr => d_lissheet m_list m_isinstance m_len m_tuple m_int m_bool m_abs m_range m_all cdv A outer s H E hr) rd_lissheet⟩, mono_lissheet⟩
  have U9 := fun_mk (st := s_law) l9 c9 k9
  exact fn3G U9 sc_law (len_law) (fun cdv A outer s H E hr hg => d_law m_list m_len m_min m_max m_range m_repr m_bool m_isinstance F_sbig F_lsheet F_is_sheet F_sbent F_lissheet cdv A outer s H E hr hg) rd_law

end F3
open PySem PySem.W PyProof.Rows
set_option maxHeartbeats 0 in
theorem PySem.Challenge.cw_farcords_k43_what_is_a_sheet_holds : PySem.Challenge.rw_farcords_k43_what_is_a_sheet.Holds := by
  w_on; o_law; k_head; (case hw => w_witness2)
  k_fill
  refine F3.walkG (l := PySem.Challenge.rw_farcords_k43_what_is_a_sheet) (n := 63) (k := 3) (x := "_law_script") (sp := fun w => F3.LSp _ F3.sp_law) rfl (by decide) rfl ⟨rfl, by decide, by decide⟩ (fun w h Y => PySem.W.kIn_of Y) ?F (fun _ _ a ns hl o hS => F3.law_start hl o hS F3.start_law)
  case F =>
    intro w mg fa h KX G hmg
    refine' F3.all_mk KX G hmg ?a0 ?l0 ?c0 ?k0 ?a1 ?l1 ?c1 ?k1 ?a2 ?l2 ?c2 ?k2 ?a3 ?l3 ?c3 ?k3 ?a4 ?l4 ?c4 ?k4 ?a5 ?l5 ?c5 ?k5 ?a6 ?l6 ?c6 ?k6 ?a7 ?l7 ?c7 ?k7 ?a8 ?l8 ?c8 ?k8 ?a9 ?l9 ?c9 ?k9 ?z_int ?z_isinstance ?z_bool ?z_list ?z_len ?z_tuple ?z_all ?z_abs ?z_sorted ?z_range ?z_min ?z_max ?z_repr ?y_FEWEST ?y_MOST
    (case a0 => k_is)
    (case l0 => k_is)
    (case c0 => k_is)
    (case k0 => k_is)
    (case a1 => k_is)
    (case l1 => k_is)
    (case c1 => k_is)
    (case k1 => k_is)
    (case a2 => k_is)
    (case l2 => k_is)
    (case c2 => k_is)
    (case k2 => k_is)
    (case a3 => k_is)
    (case l3 => k_is)
    (case c3 => k_is)
    (case k3 => k_is)
    (case a4 => k_is)
    (case l4 => k_is)
    (case c4 => k_is)
    (case k4 => k_is)
    (case a5 => k_is)
    (case l5 => k_is)
    (case c5 => k_is)
    (case k5 => k_is)
    (case a6 => k_is)
    (case l6 => k_is)
    (case c6 => k_is)
    (case k6 => k_is)
    (case a7 => k_is)
    (case l7 => k_is)
    (case c7 => k_is)
    (case k7 => k_is)
    (case a8 => k_is)
    (case l8 => k_is)
    (case c8 => k_is)
    (case k8 => k_is)
    (case a9 => k_is)
    (case l9 => k_is)
    (case c9 => k_is)
    (case k9 => k_is)
    (case z_int => k_is)
    (case z_isinstance => k_is)
    (case z_bool => k_is)
    (case z_list => k_is)
    (case z_len => k_is)
    (case z_tuple => k_is)
    (case z_all => k_is)
    (case z_abs => k_is)
    (case z_sorted => k_is)
    (case z_range => k_is)
    (case z_min => k_is)
    (case z_max => k_is)
    (case z_repr => k_is)
    (case y_FEWEST => k_is)
    (case y_MOST => k_is)
