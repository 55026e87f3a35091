import PyProof.Rows.All
import Wide.All
import OpenK.AllK
import Wide.FinOn
import HandS.ForMost
import HandS.Wide
import HandS.IsInst
import HandS.Flow
import HandS.TupAny
import HandS.Zip
import HandS.Style
import HandS.WideBits
import HandS.SortInts
import HandS.Conv
import HandS.SetFor
import HandS.Strs
import HandS.TupSets
import KE.SortData
import HandS.Rev
import HandS.NoneIn
import HandS.TupMul
import HandS.Text
import PyProof.StrOps2
import HandS.Dict
import HandS.Iter
import HandS.SetKeys
import HandS.Exc
import HandS.ExcOwn
import HandS.ExcIs
import HandS.WordsExc
import HandS.Deep
import KE.DataFind
import PyProof.Rows.ListMulArg
import KE.GoesEnum
import KE.KIndexOf
import KE.KDictList
import KE.KDictSum
import KE.BitLaws
import PySem.Challenge.RW_farcords_k62_ties_turned
set_option Elab.async false
set_option linter.all false
set_option maxRecDepth 100000
set_option maxHeartbeats 4000000
/-! FA: plain values and a plain store over the hand layer: tuples are values, lists are cells of a store that grows at its end. -/
namespace F3
open PySem PySem.Spec PyProof.Rows L2

/-- a value: tuples are told by their items, a list that may change by its number in the store, a list that never changes by its items -/
inductive D where
  | non
  | bl (b : Bool)
  | int (i : Int)
  | str (x : Str)
  | tup (xs : List D)
  | fl (xs : List D)
  | ref (n : Nat)
  | ty (n : String)
  | adr (a : Addr)

inductive Cell where
  | lst (xs : List D)
  | dK (kvs : List (Key × D))
  | dT (kvs : List (List Key × D))
  | zK (o : Obj) (ws : List (Key × V)) (kvs : List (Key × D))
  | zT (o : Obj) (ws : List (List Key × V)) (kvs : List (List Key × D))
  | ins (C : Addr) (fs : List (Str × D))

abbrev Sto := List Cell
abbrev S3 := List (Option D)
abbrev DK := D → Sto → Prop

/-- a list that never changes -/
def SqF (K : PySem.W.Frag) (H : Hp) (a : Addr) (xs : List V) : Prop :=
  (∃ o, H a = some (.frz o (.lst xs))) ∨
    ∃ (o : Obj) (its : Array Value) (n : Nat), K.lookup a = some o ∧ o.cls = .type "list" ∧ o.dict = none ∧ o.data = .seq its n ∧ its.size ≤ sizeLine ∧ Vals xs its.toList
theorem SqF.sq {K : PySem.W.Frag} {H : Hp} {a : Addr} {xs : List V} (h : SqF K H a xs) : SqL K H a xs := h.elim (fun q => .inl (.inr q)) .inr
/-- three ints -/
def Mk3 : List V → Bool
  | [.int _, .int _, .int _] => true
  | _ => false
theorem mk3_len {vs : List V} (h : vs.length ≠ 3) : Mk3 vs = false := by
  unfold Mk3
  split
  · exact absurd rfl h
  · rfl
/-- how a new tuple stands: three ints by their whole object, which has no dict -/
def NewT (vs : List V) (o : HO) : Prop := (Mk3 vs = true ∧ ∃ b : Obj, b.dict = none ∧ b.cls = .type "tuple" ∧ o = .frz b (.tup vs)) ∨ (Mk3 vs = false ∧ o = .tup vs)
def TupA (H : Hp) (a : Addr) (vs : List V) : Prop := ∃ o, NewT vs o ∧ H a = some o
theorem TupA.new {H : Hp} {p : Addr} {vs : List V} {o : HO} (h : NewT vs o) : TupA (upd H p o) p vs := ⟨o, h, upd_same⟩
theorem TupA.of {H : Hp} {a : Addr} {vs : List V} (h : Mk3 vs = false) (e : H a = some (.tup vs)) : TupA H a vs := ⟨_, .inr ⟨h, rfl⟩, e⟩
theorem TupA.tup {H : Hp} {a : Addr} {vs : List V} (h : Mk3 vs = false) (x : TupA H a vs) : H a = some (.tup vs) := by
  obtain ⟨o, n | n, e⟩ := x
  · rw [h] at n; cases n.1
  · rw [e, n.2]
theorem NewT.nlst {vs ys : List V} {o : HO} (n : NewT vs o) : o ≠ .lst ys := by
  rcases n with ⟨_, b, _, _, rfl⟩ | ⟨_, rfl⟩ <;> exact nofun
theorem NewT.tup {vs : List V} (h : Mk3 vs = false) : NewT vs (.tup vs) := .inr ⟨h, rfl⟩
theorem NewT.ok {P : Program} {w : World} {H : Hp} {h : Heap} {a : Addr} {xs : List V} {its : List Value} (hz : xs.length ≤ sizeLine) (r : Vals xs its) (e : h.get? a = some { cls := .type "tuple", data := .seq its.toArray }) :
    ∃ o, NewT xs o ∧ ∀ H : Hp, ObjOk P w H h a o := by
  have ok : ∀ H : Hp, ObjOk P w H h a (.tup xs) := fun H => ⟨hz, its, r, _, e, rfl, _, rfl⟩
  cases hm : Mk3 xs with
  | true => exact ⟨_, .inl ⟨hm, _, rfl, rfl, rfl⟩, fun H => ⟨e, ok H⟩⟩
  | false => exact ⟨_, .inr ⟨hm, rfl⟩, ok⟩
mutual
inductive RelD (K : PySem.W.Frag) (m : List Addr) (H : Hp) : D → V → Prop
  | non : RelD K m H .non .non
  | bl (b : Bool) : RelD K m H (.bl b) (.bl b)
  | int (i : Int) : RelD K m H (.int i) (.int i)
  | str (x : Str) : RelD K m H (.str x) (.str x)
  | ty (n : String) : RelD K m H (.ty n) (.ty n)
  | adr (a : Addr) : RelD K m H (.adr a) (.ref a)
  | ref {n : Nat} {a : Addr} : m[n]? = some a → RelD K m H (.ref n) (.ref a)
  | tup {xs : List D} {a : Addr} {vs : List V} : TupA H a vs → RelDs K m H xs vs → RelD K m H (.tup xs) (.ref a)
  | fl {xs : List D} {a : Addr} {vs : List V} : SqF K H a vs → RelDs K m H xs vs → RelD K m H (.fl xs) (.ref a)
inductive RelDs (K : PySem.W.Frag) (m : List Addr) (H : Hp) : List D → List V → Prop
  | nil : RelDs K m H [] []
  | cons {d : D} {v : V} {ds : List D} {vs : List V} : RelD K m H d v → RelDs K m H ds vs → RelDs K m H (d :: ds) (v :: vs)
end

section
variable {K : PySem.W.Frag} {m m' : List Addr} {H H' : Hp}
mutual
theorem RelD.mono (hm : ∀ (n : Nat) (a : Addr), m[n]? = some a → m'[n]? = some a) (ht : ∀ (a : Addr) (xs : List V), TupA H a xs → TupA H' a xs) (hf : ∀ (a : Addr) (xs : List V), SqF K H a xs → SqF K H' a xs) : ∀ {d : D} {v : V}, RelD K m H d v → RelD K m' H' d v
  | _, _, .non => .non
  | _, _, .bl b => .bl b
  | _, _, .int b => .int b
  | _, _, .str b => .str b
  | _, _, .ty b => .ty b
  | _, _, .adr b => .adr b
  | _, _, .ref e => .ref (hm _ _ e)
  | _, _, .tup s r => .tup (ht _ _ s) (RelDs.mono hm ht hf r)
  | _, _, .fl s r => .fl (hf _ _ s) (RelDs.mono hm ht hf r)
theorem RelDs.mono (hm : ∀ (n : Nat) (a : Addr), m[n]? = some a → m'[n]? = some a) (ht : ∀ (a : Addr) (xs : List V), TupA H a xs → TupA H' a xs) (hf : ∀ (a : Addr) (xs : List V), SqF K H a xs → SqF K H' a xs) : ∀ {d : List D} {v : List V}, RelDs K m H d v → RelDs K m' H' d v
  | _, _, .nil => .nil
  | _, _, .cons r t => .cons (RelD.mono hm ht hf r) (RelDs.mono hm ht hf t)
end
theorem RelDs.length : ∀ {ds : List D} {vs : List V}, RelDs K m H ds vs → ds.length = vs.length
  | _, _, .nil => rfl
  | _, _, .cons _ t => by rw [List.length_cons, List.length_cons, RelDs.length t]
theorem RelDs.get : ∀ {ds : List D} {vs : List V} {i : Nat} {d : D}, RelDs K m H ds vs → ds[i]? = some d → ∃ v, vs[i]? = some v ∧ RelD K m H d v
  | _, _, _, _, .nil, e => by simp at e
  | _, _, 0, _, .cons r _, e => by simp at e; subst e; exact ⟨_, rfl, r⟩
  | _, _, i + 1, d, .cons _ t, e => by
    obtain ⟨u, h1, h2⟩ := RelDs.get (i := i) (d := d) t (by simpa using e)
    exact ⟨u, by simpa using h1, h2⟩
theorem RelDs.getV : ∀ {ds : List D} {vs : List V} {i : Nat} {v : V}, RelDs K m H ds vs → vs[i]? = some v → ∃ d, ds[i]? = some d ∧ RelD K m H d v
  | _, _, _, _, .nil, e => by simp at e
  | _, _, 0, _, .cons r _, e => by simp at e; subst e; exact ⟨_, rfl, r⟩
  | _, _, i + 1, d, .cons _ t, e => by
    obtain ⟨u, h1, h2⟩ := RelDs.getV (i := i) (v := d) t (by simpa using e)
    exact ⟨u, by simpa using h1, h2⟩
theorem RelDs.append : ∀ {xs ys : List D} {us ws : List V}, RelDs K m H xs us → RelDs K m H ys ws → RelDs K m H (xs ++ ys) (us ++ ws)
  | _, _, _, _, .nil, s => s
  | _, _, _, _, .cons r t, s => .cons r (RelDs.append t s)
theorem RelDs.set {x : D} {u : V} (r : RelD K m H x u) : ∀ {xs : List D} {us : List V} (i : Nat), RelDs K m H xs us → RelDs K m H (xs.set i x) (us.set i u)
  | _, _, _, .nil => .nil
  | _, _, 0, .cons _ t => .cons r t
  | _, _, i + 1, .cons q t => .cons q (RelDs.set r i t)
theorem RelDs.take : ∀ {xs : List D} {us : List V} (n : Nat), RelDs K m H xs us → RelDs K m H (xs.take n) (us.take n)
  | _, _, 0, _ => .nil
  | _, _, _ + 1, .nil => .nil
  | _, _, n + 1, .cons r t => .cons r (RelDs.take n t)
theorem RelDs.drop : ∀ {xs : List D} {us : List V} (n : Nat), RelDs K m H xs us → RelDs K m H (xs.drop n) (us.drop n)
  | _, _, 0, r => r
  | _, _, _ + 1, .nil => .nil
  | _, _, n + 1, .cons _ t => RelDs.drop n t
theorem RelDs.reverse {xs : List D} {us : List V} (h : RelDs K m H xs us) : RelDs K m H xs.reverse us.reverse := by
  induction xs generalizing us with
  | nil => cases h; exact .nil
  | cons x r ih =>
    cases h with
    | cons h1 h2 =>
      rw [List.reverse_cons, List.reverse_cons]
      exact (ih h2).append (.cons h1 .nil)
theorem RelDs.erase : ∀ {xs : List D} {us : List V} (n : Nat), RelDs K m H xs us → RelDs K m H (xs.eraseIdx n) (us.eraseIdx n)
  | _, _, _, .nil => .nil
  | _, _, 0, .cons _ t => t
  | _, _, n + 1, .cons q t => .cons q (RelDs.erase n t)
theorem RelDs.dropLast {xs : List D} {us : List V} (h : RelDs K m H xs us) : RelDs K m H xs.dropLast us.dropLast := by
  rw [List.dropLast_eq_take, List.dropLast_eq_take, h.length]
  exact h.take _
theorem RelDs.ints : ∀ {ns : List Int} {us : List V}, RelDs K m H (ns.map D.int) us → us = ns.map V.int
  | [], _, h => by cases h; rfl
  | n :: ns, _, h => by
    cases h with
    | cons a b => cases a; rw [RelDs.ints b]; rfl
theorem RelDs.bls : ∀ {ns : List Bool} {us : List V}, RelDs K m H (ns.map D.bl) us → us = ns.map V.bl
  | [], _, h => by cases h; rfl
  | n :: ns, _, h => by
    cases h with
    | cons a b => cases a; rw [RelDs.bls b]; rfl
theorem RelDs.strs : ∀ {ns : List Str} {us : List V}, RelDs K m H (ns.map D.str) us → us = ns.map V.str
  | [], _, h => by cases h; rfl
  | n :: ns, _, h => by
    cases h with
    | cons a b => cases a; rw [RelDs.strs b]; rfl
end

/-- what stands at a cell -/
def CellOk (K : PySem.W.Frag) (m : List Addr) (H : Hp) (a : Addr) : Cell → Prop
  | .lst xs => ∃ vs, H a = some (.lst vs) ∧ RelDs K m H xs vs
  | .dK kvs => ∃ vs : List (Key × V), H a = some (.dK vs) ∧ vs.map (·.1) = kvs.map (·.1) ∧ RelDs K m H (kvs.map (·.2)) (vs.map (·.2))
  | .dT kvs => ∃ vs : List (List Key × V), H a = some (.dT vs) ∧ vs.map (·.1) = kvs.map (·.1) ∧ RelDs K m H (kvs.map (·.2)) (vs.map (·.2))
  | .zK o vs kvs => H a = some (.frz o (.dK vs)) ∧ vs.map (·.1) = kvs.map (·.1) ∧ RelDs K m H (kvs.map (·.2)) (vs.map (·.2))
  | .zT o vs kvs => H a = some (.frz o (.dT vs)) ∧ vs.map (·.1) = kvs.map (·.1) ∧ RelDs K m H (kvs.map (·.2)) (vs.map (·.2))
  | .ins C fs => ∃ dx, ∃ vs : List (Str × V), H a = some (.ins C dx vs) ∧ vs.map (·.1) = fs.map (·.1) ∧ RelDs K m H (fs.map (·.2)) (vs.map (·.2))

structure Rep (K : PySem.W.Frag) (m : List Addr) (h : Sto) (H : Hp) : Prop where
  len : m.length = h.length
  nd : m.Nodup
  at_ : ∀ (n : Nat) (a : Addr) (c : Cell), m[n]? = some a → h[n]? = some c → CellOk K m H a c
structure Step (m : List Addr) (H : Hp) (m' : List Addr) (H' : Hp) : Prop where
  pre : ∃ r, m' = m ++ r
  keep : ∀ a o, a ∉ m → H a = some o → H' a = some o
  new : ∀ a, a ∈ m' → a ∉ m → H a = none
def RelS (K : PySem.W.Frag) (m : List Addr) (H : Hp) (ρ : S3) (σ : L2.St) : Prop := ρ.length = σ.length ∧ ∀ (i : Nat) (d : D), ρ[i]? = some (some d) → ∃ v, σ[i]? = some (some v) ∧ RelD K m H d v

section
variable {K : PySem.W.Frag} {m m' m2 : List Addr} {H H' H2 : Hp} {h h' : Sto}
theorem nodup_ix' {N : List Addr} (hN : N.Nodup) {i j : Nat} {x : Addr} (a : N[i]? = some x) (b : N[j]? = some x) : i = j := by
  obtain ⟨h1, e1⟩ := List.getElem?_eq_some_iff.mp a
  obtain ⟨h2, e2⟩ := List.getElem?_eq_some_iff.mp b
  exact (List.getElem_inj hN).mp (e1.trans e2.symm)
theorem Step.refl : Step m H m H := ⟨⟨[], by simp⟩, fun _ _ _ e => e, fun a h1 h2 => absurd h1 h2⟩
theorem Step.trans (a : Step m H m' H') (b : Step m' H' m2 H2) : Step m H m2 H2 := by
  obtain ⟨r, hr⟩ := a.pre
  obtain ⟨q, hq⟩ := b.pre
  refine ⟨⟨r ++ q, by rw [hq, hr, List.append_assoc]⟩, fun c o hc e => ?_, fun c hc hn => ?_⟩
  · refine b.keep c o (fun z => ?_) (a.keep c o hc e)
    have := a.new c z hc
    rw [this] at e; cases e
  · by_cases z : c ∈ m'
    · exact a.new c z hn
    · have e := b.new c hc z
      cases q : H c with
      | none => rfl
      | some o => rw [a.keep c o hn q] at e; cases e
theorem Step.get (s : Step m H m' H') {n : Nat} {a : Addr} (e : m[n]? = some a) : m'[n]? = some a := by
  obtain ⟨r, hr⟩ := s.pre
  have hl : n < m.length := (List.getElem?_eq_some_iff.mp e).1
  rw [hr, List.getElem?_append_left hl]
  exact e
theorem Rep.cell (R : Rep K m h H) {a : Addr} (ha : a ∈ m) : ∃ (n : Nat) (c : Cell), m[n]? = some a ∧ h[n]? = some c ∧ CellOk K m H a c := by
  obtain ⟨n, hn⟩ := List.mem_iff_getElem?.mp ha
  have hl : n < m.length := (List.getElem?_eq_some_iff.mp hn).1
  have hc : h[n]? = some (h[n]'(by rw [← R.len]; exact hl)) := List.getElem?_eq_getElem _
  exact ⟨n, _, hn, hc, R.at_ n a _ hn hc⟩
theorem Rep.got (R : Rep K m h H) {a : Addr} (ha : a ∈ m) : ∃ o, H a = some o ∧ (∀ xs, o ≠ .tup xs) ∧ (∀ b xs, o ≠ .frz b (.lst xs)) ∧ ∀ b xs, o ≠ .frz b (.tup xs) := by
  obtain ⟨n, c, _, _, ok⟩ := R.cell ha
  cases c with
  | lst xs => obtain ⟨vs, e, _⟩ := ok; exact ⟨_, e, by simp, by simp, by simp⟩
  | dK xs => obtain ⟨vs, e, _⟩ := ok; exact ⟨_, e, by simp, by simp, by simp⟩
  | dT xs => obtain ⟨vs, e, _⟩ := ok; exact ⟨_, e, by simp, by simp, by simp⟩
  | zK o vs xs => obtain ⟨e, _⟩ := ok; exact ⟨_, e, by simp, by simp, by simp⟩
  | zT o vs xs => obtain ⟨e, _⟩ := ok; exact ⟨_, e, by simp, by simp, by simp⟩
  | ins C xs => obtain ⟨dx, vs, e, _⟩ := ok; exact ⟨_, e, by simp, by simp, by simp⟩
theorem Rep.notup (R : Rep K m h H) {a : Addr} {xs : List V} (e : H a = some (.tup xs)) : a ∉ m := fun z => by
  obtain ⟨o, e', n, _⟩ := R.got z
  rw [e] at e'; cases e'; exact n xs rfl
theorem Rep.nofrz (R : Rep K m h H) {a : Addr} {b : Obj} {xs : List V} (e : H a = some (.frz b (.lst xs))) : a ∉ m := fun z => by
  obtain ⟨o, e', _, n, _⟩ := R.got z
  rw [e] at e'; cases e'; exact n b xs rfl
theorem Rep.nofrzT (R : Rep K m h H) {a : Addr} {b : Obj} {xs : List V} (e : H a = some (.frz b (.tup xs))) : a ∉ m := fun z => by
  obtain ⟨o, e', _, _, n⟩ := R.got z
  rw [e] at e'; cases e'; exact n b xs rfl
theorem Rep.nonone (R : Rep K m h H) {a : Addr} (e : H a = none) : a ∉ m := fun z => by
  obtain ⟨o, e', _⟩ := R.got z
  rw [e] at e'; cases e'
theorem TH {a : Addr} {xs : List V} (q : TupA H a xs) : SqT K H a xs := by
  obtain ⟨o, n | n, e⟩ := q
  · obtain ⟨_, b, _, _, rfl⟩ := n
    exact .inl (.inr ⟨b, e⟩)
  · rw [n.2] at e
    exact .inl (.inl e)
theorem TH0 {a : Addr} {xs : List V} (q : H a = some (.tup xs)) : SqT K H a xs := .inl (.inl q)
theorem TupA.step (R : Rep K m h H) (s : Step m H m' H') {a : Addr} {xs : List V} (q : TupA H a xs) : TupA H' a xs := by
  obtain ⟨o, n, e⟩ := q
  refine ⟨o, n, s.keep _ _ ?_ e⟩
  rcases n with ⟨_, b, _, _, rfl⟩ | ⟨_, rfl⟩
  · exact R.nofrzT e
  · exact R.notup e
theorem SqT.step (R : Rep K m h H) (s : Step m H m' H') {a : Addr} {xs : List V} (q : SqT K H a xs) : SqT K H' a xs := by
  rcases q with (q | ⟨o, q⟩) | q
  · exact .inl (.inl (s.keep _ _ (R.notup q) q))
  · exact .inl (.inr ⟨o, s.keep _ _ (R.nofrzT q) q⟩)
  · exact .inr q
theorem SqF.step (R : Rep K m h H) (s : Step m H m' H') {a : Addr} {xs : List V} (q : SqF K H a xs) : SqF K H' a xs := by
  rcases q with ⟨o, q⟩ | q
  · exact .inl ⟨o, s.keep _ _ (R.nofrz q) q⟩
  · exact .inr q
theorem RelD.step (R : Rep K m h H) (s : Step m H m' H') {d : D} {v : V} (r : RelD K m H d v) : RelD K m' H' d v :=
  r.mono (fun _ _ e => s.get e) (fun _ _ q => TupA.step R s q) fun _ _ q => SqF.step R s q
theorem RelDs.step (R : Rep K m h H) (s : Step m H m' H') {d : List D} {v : List V} (r : RelDs K m H d v) : RelDs K m' H' d v :=
  r.mono (fun _ _ e => s.get e) (fun _ _ q => TupA.step R s q) fun _ _ q => SqF.step R s q
theorem RelS.step (R : Rep K m h H) (s : Step m H m' H') {ρ : S3} {σ : L2.St} (r : RelS K m H ρ σ) : RelS K m' H' ρ σ :=
  ⟨r.1, fun i d e => let ⟨v, h1, h2⟩ := r.2 i d e; ⟨v, h1, h2.step R s⟩⟩
theorem RelS.set {ρ : S3} {σ : L2.St} (r : RelS K m H ρ σ) {d : D} {v : V} (q : RelD K m H d v) (i : Nat) : RelS K m H (ρ.set i (some d)) (σ.set i (some v)) := by
  refine ⟨by simpa using r.1, fun j e hj => ?_⟩
  by_cases hij : i = j
  · subst hij
    have hl : i < ρ.length := by
      have := (List.getElem?_eq_some_iff.mp hj).1
      simpa using this
    rw [List.getElem?_set_self hl] at hj
    cases hj
    exact ⟨v, List.getElem?_set_self (by rw [← r.1]; exact hl), q⟩
  · rw [List.getElem?_set_ne hij] at hj ⊢
    exact r.2 j e hj
theorem RelS.wipe {ρ : S3} {σ : L2.St} (r : RelS K m H ρ σ) (i : Nat) (x : Option V) : RelS K m H (ρ.set i none) (σ.set i x) := by
  refine ⟨by simpa using r.1, fun j e hj => ?_⟩
  by_cases hij : i = j
  · subst hij
    by_cases hl : i < ρ.length
    · rw [List.getElem?_set_self hl] at hj; cases hj
    · rw [List.getElem?_eq_none (by simpa using hl)] at hj; cases hj
  · rw [List.getElem?_set_ne hij] at hj ⊢
    exact r.2 j e hj
/-- cells that stand stay through a change elsewhere -/
theorem CellOk.step (R : Rep K m h H) (s : Step m H m' H') {a : Addr} {c : Cell} (e : H' a = H a) (ok : CellOk K m H a c) : CellOk K m' H' a c := by
  cases c with
  | lst xs => obtain ⟨vs, q, r⟩ := ok; exact ⟨vs, e.trans q, r.step R s⟩
  | dK xs => obtain ⟨vs, q, k, r⟩ := ok; exact ⟨vs, e.trans q, k, r.step R s⟩
  | dT xs => obtain ⟨vs, q, k, r⟩ := ok; exact ⟨vs, e.trans q, k, r.step R s⟩
  | zK o vs xs => obtain ⟨q, k, r⟩ := ok; exact ⟨e.trans q, k, r.step R s⟩
  | zT o vs xs => obtain ⟨q, k, r⟩ := ok; exact ⟨e.trans q, k, r.step R s⟩
  | ins C xs => obtain ⟨dx, vs, q, k, r⟩ := ok; exact ⟨dx, vs, e.trans q, k, r.step R s⟩
/-- a new object that is no cell -/
theorem Step.lay {p : Addr} {o : HO} (hp : H p = none) : Step m H m (upd H p o) :=
  ⟨⟨[], by simp⟩, fun a q _ e => by rw [upd_ne (ne_of_none e hp)]; exact e, fun a h1 h2 => absurd h1 h2⟩
theorem Rep.lay (R : Rep K m h H) {p : Addr} {o : HO} (hp : H p = none) : Rep K m h (upd H p o) :=
  ⟨R.len, R.nd, fun n a c h1 h2 => (R.at_ n a c h1 h2).step R (Step.lay hp) (upd_ne fun z => R.nonone hp (by rw [← z]; exact List.mem_of_getElem? h1))⟩
/-- a new cell -/
theorem Step.cell {p : Addr} {o : HO} (hp : H p = none) : Step m H (m ++ [p]) (upd H p o) :=
  ⟨⟨[p], rfl⟩, fun a q _ e => by rw [upd_ne (ne_of_none e hp)]; exact e, fun a h1 h2 => by
    rcases List.mem_append.mp h1 with z | z
    · exact absurd z h2
    · rw [List.mem_singleton.mp z]; exact hp⟩
theorem Rep.snoc (R : Rep K m h H) {p : Addr} {o : HO} {c : Cell} (hp : H p = none) (ok : CellOk K (m ++ [p]) (upd H p o) p c) : Rep K (m ++ [p]) (h ++ [c]) (upd H p o) := by
  refine ⟨by simp [R.len], ?_, fun n a d h1 h2 => ?_⟩
  · rw [List.nodup_append]
    refine ⟨R.nd, by simp, fun x hx y hy => ?_⟩
    have e : y = p := by simpa using hy
    rw [e]
    exact fun z => R.nonone hp (z ▸ hx)
  · by_cases hn : n < m.length
    · rw [List.getElem?_append_left hn] at h1
      rw [List.getElem?_append_left (by rw [← R.len]; exact hn)] at h2
      exact (R.at_ n a d h1 h2).step R (Step.cell hp) (upd_ne fun z => R.nonone hp (by rw [← z]; exact List.mem_of_getElem? h1))
    · rw [List.getElem?_append_right (by omega)] at h1
      rw [List.getElem?_append_right (by rw [← R.len]; omega)] at h2
      have z : n - m.length = 0 := by
        have := (List.getElem?_eq_some_iff.mp h1).1
        simp at this; omega
      rw [z] at h1
      rw [← R.len, z] at h2
      simp at h1 h2
      subst h1; subst h2
      exact ok
/-- a cell is changed -/
theorem Step.put {a : Addr} {o : HO} (ha : a ∈ m) : Step m H m (upd H a o) :=
  ⟨⟨[], by simp⟩, fun b q hb e => by rw [upd_ne (show b ≠ a from fun z => hb (by rw [z]; exact ha))]; exact e, fun a h1 h2 => absurd h1 h2⟩
theorem Rep.put (R : Rep K m h H) {n : Nat} {a : Addr} {o : HO} {c : Cell} (hn : m[n]? = some a) (ok : CellOk K m (upd H a o) a c) : Rep K m (h.set n c) (upd H a o) := by
  have ha : a ∈ m := List.mem_of_getElem? hn
  refine ⟨by simp [R.len], R.nd, fun k b d h1 h2 => ?_⟩
  by_cases hk : n = k
  · subst hk
    rw [hn] at h1; cases h1
    have hl : n < h.length := by rw [← R.len]; exact (List.getElem?_eq_some_iff.mp hn).1
    rw [List.getElem?_set_self hl] at h2
    cases h2
    exact ok
  · rw [List.getElem?_set_ne hk] at h2
    refine (R.at_ k b d h1 h2).step R (Step.put ha) (upd_ne fun z => hk ?_)
    subst z
    exact nodup_ix' R.nd hn h1
end
/-! ### new tuples (rules of the hand layer, told by NewT) -/
section
variable {X : Cx} {es : List Expr} {t : TA} {pos : Pos}
/-- a tuple is laid at the heap's end -/
theorem lay_tup {pins : List (Addr × Obj)} {σ : L2.St} {H : Hp} {Q : VK} {z : Shared} {xs : List V} {its : List Value} (J : Inv X pins σ H z) (hz : xs.length ≤ sizeLine) (r : Vals xs its)
    (q : ∀ p o, H p = none → NewT xs o → Q (.ref p) (upd H p o)) :
    EP X pins σ Q (.ref z.heap.objs.size) { z with heap := z.heap.push { cls := .type "tuple", data := .seq its.toArray } } := by
  obtain ⟨o, no, ok⟩ := NewT.ok (P := X.prog) (w := X.w) (H := H) (h := z.heap.push { cls := .type "tuple", data := .seq its.toArray }) (a := z.heap.objs.size) hz r (Heap.get?_push_size _ rfl)
  exact ⟨.ref z.heap.objs.size, _, J.laid (t' := z.toks) (o := o) (fun _ _ e => Heap.get?_push_of_some _ e) (Nat.le_refl _) (ok _), rfl, q _ o (J.hok.fresh (Nat.le_refl _)) no⟩
/-- a tuple's method may be asked where the tuple is known whole -/
theorem tupK_is {pins : List (Addr × Obj)} {σ : L2.St} {H : Hp} {z : Shared} {a : Addr} {vs : List V} (J : Inv X pins σ H z) (h3 : Mk3 vs = true) (x : TupA H a vs) :
    z.TypeIs (.ref a) "tuple" ∧ ∀ b, Value.ref a = .ref b → ∃ ob, z.heap.get? b = some ob ∧ ob.dict = none := by
  obtain ⟨o, n | n, e⟩ := x
  · obtain ⟨_, b, hd, hc, rfl⟩ := n
    obtain ⟨g, _⟩ := J.hok a _ e
    exact ⟨⟨b, g, hc⟩, fun c ec => by cases ec; exact ⟨b, g, hd⟩⟩
  · rw [h3] at n; cases n.1
def tTupN (t : TA) : TE := fun σ H Q => t σ H fun xs H1 => xs.length ≤ sizeLine ∧ ∀ p o, H1 p = none → NewT xs o → Q (.ref p) (upd H1 p o)
theorem pe_tupN {x1} (h : PA X es t) : PE X (.Tuple es x1 pos) (tTupN t) :=
  ⟨fun pins s σ H Q I hq => wpAny_Tuple_spliced (thn (h.run pos pins s σ H _ I hq) fun _ _ ⟨_, _, J, r, hz, q⟩ => ⟨r.length ▸ hz, lay_tup J hz r q⟩)⟩
def rSlN (K : PySem.W.Frag) : V → Option Int → Option Int → Hp → VK → Prop := fun x lo hi H Q => ∃ a xs, x = .ref a ∧ SqT K H a xs ∧
  (HT.sIx xs.length 0 lo = 0 ∧ HT.sIx xs.length xs.length hi = xs.length → Q (.ref a) H) ∧
  (¬ (HT.sIx xs.length 0 lo = 0 ∧ HT.sIx xs.length xs.length hi = xs.length) → ∀ p o, H p = none → NewT (cutV xs lo hi) o → Q (.ref p) (upd H p o))
theorem sl_tupN : SlR X (rSlN X.K) := by
  rintro pins s σ H _ _ vl vu lo hi sl Q I rx hs pl pu ⟨a, xs, rfl, hx, q1, q2⟩
  cases rx
  obtain ⟨its, r, ht, hz⟩ := I.tuple hx
  have n : its.toArray.size = xs.length := (List.size_toArray ..).trans r.length.symm
  refine ⟨"tuple", _, PyProof.Rows.slot_tuple_getitem.lookup, ht.typeIs, ?_⟩
  by_cases hw : HT.sIx xs.length 0 lo = 0 ∧ HT.sIx xs.length xs.length hi = xs.length
  · exact getItem_tuple_whole ht hs pl pu (n ▸ hw) ⟨.ref a, H, I, rfl, q1 hw⟩
  · refine HT.getItem_tuple_cut ht hs pl pu (n ▸ hw) ?_ (n ▸ hz)
    rw [n]
    exact lay_tup I (Nat.le_trans (cutV_length xs lo hi) hz) ((r.drop _).take _) (q2 hw)
def rCatAN (K : PySem.W.Frag) : R2 := fun x y H Q => ∃ a b xs ys, x = .ref a ∧ y = .ref b ∧ SqT K H a xs ∧ SqT K H b ys ∧ xs.length + ys.length ≤ sizeLine ∧
  (xs = [] → Q (.ref b) H) ∧ (xs ≠ [] → ys = [] → Q (.ref a) H) ∧ (xs ≠ [] → ys ≠ [] → ∀ p o, H p = none → NewT (xs ++ ys) o → Q (.ref p) (upd H p o))
def rCatN (K : PySem.W.Frag) : R2 := fun x y H Q => ∃ a b xs ys, x = .ref a ∧ y = .ref b ∧ SqT K H a xs ∧ SqT K H b ys ∧ xs ≠ [] ∧ xs.length + ys.length ≤ sizeLine ∧
  (ys = [] → Q (.ref a) H) ∧ (ys ≠ [] → ∀ p o, H p = none → NewT (xs ++ ys) o → Q (.ref p) (upd H p o))
theorem op_catN : OpR X (binaryOp .Add) (rCatN X.K) := by
  rintro pins s σ H _ _ v u Q I rx ry ⟨a, b, xs, ys, rfl, rfl, ha, hb, hx, hz, q1, q2⟩
  cases rx
  cases ry
  obtain ⟨i1, r1, p1, _⟩ := I.tuple ha
  obtain ⟨i2, r2, p2, _⟩ := I.tuple hb
  have hz' : (xs ++ ys).length ≤ sizeLine := List.length_append ▸ hz
  exact HT.cat_tup p1 p2 (fun z => hx (r1.nil_iff.mp z)) (fun z => ⟨.ref a, H, I, rfl, q1 (r2.nil_iff.mp z)⟩) (fun z => lay_tup I hz' (r1.append r2) (q2 fun w => z (r2.nil_iff.mpr w))) (r1.length ▸ r2.length ▸ hz)
theorem op_catAN : OpR X (binaryOp .Add) (rCatAN X.K) := by
  rintro pins s σ H _ _ v u Q I rx ry ⟨a, b, xs, ys, rfl, rfl, ha, hb, hz, q0, q1, q2⟩
  by_cases hx : xs = []
  · subst hx
    cases rx
    cases ry
    obtain ⟨_, r1, p1, _⟩ := I.tuple ha
    obtain ⟨_, _, p2, _⟩ := I.tuple hb
    cases r1
    exact cat_tup0 p1 p2 ⟨.ref b, H, I, rfl, q0 rfl⟩
  · exact op_catN pins s σ H _ _ v u Q I rx ry ⟨a, b, xs, ys, rfl, rfl, ha, hb, hx, hz, q1 hx, q2 hx⟩
theorem call_tupleN : CallR X (.type "tuple") (fun xs H Q => ∃ p ys, xs = [.ref p] ∧ ((SqL X.K H p ys ∧ ∀ l o, H l = none → NewT ys o → Q (.ref l) (upd H l o)) ∨ (SqT X.K H p ys ∧ Q (.ref p) H))) := by
  rintro pins s σ H xs us Q I r ⟨p, ys, rfl, h⟩
  obtain ⟨u, rfl, rx⟩ := vals1 r
  cases rx
  rcases h with ⟨hq, q⟩ | ⟨hq, q⟩
  · obtain ⟨its, rv, pl, hz⟩ := I.list hq
    have n : its.length = ys.length := rv.length.symm
    exact call_tuple_list pl.isList (fun h' kp => lay_tup (I.kept (t' := s.toks) kp) hz rv q) (by rw [List.size_toArray]; omega)
  · obtain ⟨_, _, pl, _⟩ := I.tuple hq
    exact call_tuple_same pl ⟨.ref p, H, I, rfl, q⟩
end
end F3
/-! FB: the judgements over plain values, and the rules for expressions and plain statements. -/
namespace F3
open PySem PySem.Spec PyProof.Rows L2

abbrev E3 := S3 → Sto → DK → Prop
abbrev B3 := S3 → Sto → (Bool → Sto → Prop) → Prop
abbrev A3 := S3 → Sto → (List D → Sto → Prop) → Prop
structure Ends3 where
  nx : S3 → Sto → Prop
  rt : DK
  bk : S3 → Sto → Prop
  ct : S3 → Sto → Prop
abbrev C3 := Ends3 → S3 → Sto → Prop

def Up (K : PySem.W.Frag) (m : List Addr) (H : Hp) (Q : VK) : DK := fun d h' => ∀ m' H' v, Step m H m' H' → Rep K m' h' H' → RelD K m' H' d v → Q v H'
def UpB (K : PySem.W.Frag) (m : List Addr) (H : Hp) (Q : Bool → Hp → Prop) : Bool → Sto → Prop := fun b h' => ∀ m' H', Step m H m' H' → Rep K m' h' H' → Q b H'
def UpA (K : PySem.W.Frag) (m : List Addr) (H : Hp) (Q : List V → Hp → Prop) : List D → Sto → Prop := fun ds h' => ∀ m' H' vs, Step m H m' H' → Rep K m' h' H' → RelDs K m' H' ds vs → Q vs H'
/-- a list that is nobody else's -/
def UpX (K : PySem.W.Frag) (m : List Addr) (H : Hp) (Q : VK) : List D → Sto → Prop := fun ds h' => ∀ m' H' a vs, Step m H m' H' → Rep K m' h' H' → H' a = some (.lst vs) → H a = none → a ∉ m' → RelDs K m' H' ds vs → Q (.ref a) H'
def UpS (K : PySem.W.Frag) (m : List Addr) (H : Hp) (Q : L2.St → Hp → Prop) : S3 → Sto → Prop := fun ρ' h' => ∀ m' H' σ', Step m H m' H' → Rep K m' h' H' → RelS K m' H' ρ' σ' → Q σ' H'
def UpC (K : PySem.W.Frag) (m : List Addr) (H : Hp) (D : Ends) : Ends3 := ⟨UpS K m H D.nx, Up K m H D.rt, UpS K m H D.bk, UpS K m H D.ct⟩
def LE (K : PySem.W.Frag) (t : E3) : TE := fun σ H Q => ∃ m h ρ, Rep K m h H ∧ RelS K m H ρ σ ∧ t ρ h (Up K m H Q)
def LB (K : PySem.W.Frag) (t : B3) : TT := fun σ H Q => ∃ m h ρ, Rep K m h H ∧ RelS K m H ρ σ ∧ t ρ h (UpB K m H Q)
def LA (K : PySem.W.Frag) (t : A3) : TA := fun σ H Q => ∃ m h ρ, Rep K m h H ∧ RelS K m H ρ σ ∧ t ρ h (UpA K m H Q)
def LX (K : PySem.W.Frag) (t : A3) : TE := fun σ H Q => ∃ m h ρ, Rep K m h H ∧ RelS K m H ρ σ ∧ t ρ h (UpX K m H Q)
def LC (K : PySem.W.Frag) (t : C3) : TS := fun D σ H => ∃ m h ρ, Rep K m h H ∧ RelS K m H ρ σ ∧ t (UpC K m H D) ρ h

def MonoE (t : E3) : Prop := ∀ ρ h (Q Q' : DK), (∀ d h', Q d h' → Q' d h') → t ρ h Q → t ρ h Q'
def MonoB (t : B3) : Prop := ∀ ρ h (Q Q' : Bool → Sto → Prop), (∀ d h', Q d h' → Q' d h') → t ρ h Q → t ρ h Q'
def MonoA (t : A3) : Prop := ∀ ρ h (Q Q' : List D → Sto → Prop), (∀ d h', Q d h' → Q' d h') → t ρ h Q → t ρ h Q'
structure EndsLe (D D' : Ends3) : Prop where
  nx : ∀ ρ h, D.nx ρ h → D'.nx ρ h
  rt : ∀ d h, D.rt d h → D'.rt d h
  bk : ∀ ρ h, D.bk ρ h → D'.bk ρ h
  ct : ∀ ρ h, D.ct ρ h → D'.ct ρ h
def MonoC (t : C3) : Prop := ∀ D D' ρ h, EndsLe D D' → t D ρ h → t D' ρ h

structure PE3 (X : Cx) (e : Expr) (t : E3) : Prop where
  pe : PE X e (LE X.K t)
  mono : MonoE t
structure PB3 (X : Cx) (e : Expr) (t : B3) : Prop where
  pe : PT X e (LB X.K t)
  mono : MonoB t
structure PW3 (X : Cx) (e : Expr) (t : B3) : Prop where
  pe : PW X e (LB X.K t)
  mono : MonoB t
structure PA3 (X : Cx) (es : List Expr) (t : A3) : Prop where
  pe : PA X es (LA X.K t)
  mono : MonoA t
  len : ∀ ρ h (Q : List D → Sto → Prop), t ρ h Q → t ρ h fun xs h' => xs.length = es.length ∧ Q xs h'
/-- an expression whose value is a new list -/
structure PX3 (X : Cx) (e : Expr) (t : A3) : Prop where
  pe : PE X e (LX X.K t)
  mono : MonoA t
structure PC3 (X : Cx) (st : Stmt) (t : C3) : Prop where
  pe : PS X st (LC X.K t)
  mono : MonoC t
structure PCs3 (X : Cx) (st : List Stmt) (t : C3) : Prop where
  pe : PSs X st (LC X.K t)
  mono : MonoC t

theorem PE.weak {X : Cx} {e : Expr} {t t' : TE} (p : PE X e t) (w : ∀ σ H Q, t' σ H Q → t σ H Q) : PE X e t' := ⟨fun pins s σ H Q I h => p.run pins s σ H Q I (w σ H Q h)⟩
theorem PT.weak {X : Cx} {e : Expr} {t t' : TT} (p : PT X e t) (w : ∀ σ H Q, t' σ H Q → t σ H Q) : PT X e t' := ⟨fun pins s σ H Q I h => p.run pins s σ H Q I (w σ H Q h)⟩
theorem PW.weak {X : Cx} {e : Expr} {t t' : TT} (p : PW X e t) (w : ∀ σ H Q, t' σ H Q → t σ H Q) : PW X e t' := ⟨fun wh pins s σ H Q I h => p.run wh pins s σ H Q I (w σ H Q h)⟩
theorem PA.weak {X : Cx} {e : List Expr} {t t' : TA} (p : PA X e t) (w : ∀ σ H Q, t' σ H Q → t σ H Q) : PA X e t' := ⟨fun pos pins s σ H Q I h => p.run pos pins s σ H Q I (w σ H Q h)⟩
theorem PS.weak {X : Cx} {e : Stmt} {t t' : TS} (p : PS X e t) (w : ∀ D σ H, t' D σ H → t D σ H) : PS X e t' := ⟨fun pins s σ H D I h => p.run pins s σ H D I (w D σ H h)⟩
theorem PSs.weak {X : Cx} {e : List Stmt} {t t' : TS} (p : PSs X e t) (w : ∀ D σ H, t' D σ H → t D σ H) : PSs X e t' := ⟨fun pins s σ H D I h => p.run pins s σ H D I (w D σ H h)⟩

section
variable {K : PySem.W.Frag} {m m' : List Addr} {H H' : Hp} {h h' : Sto} {ρ : S3} {σ : L2.St}
theorem LE.bind {t : E3} (mo : MonoE t) (R : Rep K m h H) (S : RelS K m H ρ σ) {Q3 : DK} (q : t ρ h Q3) {Q : VK}
    (k : ∀ m' H' v d h', Step m H m' H' → Rep K m' h' H' → RelD K m' H' d v → RelS K m' H' ρ σ → Q3 d h' → Q v H') : LE K t σ H Q :=
  ⟨m, h, ρ, R, S, mo ρ h _ _ (fun d h' q m' H' v st rp rd => k m' H' v d h' st rp rd (S.step R st) q) q⟩
theorem LB.bind {t : B3} (mo : MonoB t) (R : Rep K m h H) (S : RelS K m H ρ σ) {Q3 : Bool → Sto → Prop} (q : t ρ h Q3) {Q : Bool → Hp → Prop}
    (k : ∀ m' H' b h', Step m H m' H' → Rep K m' h' H' → RelS K m' H' ρ σ → Q3 b h' → Q b H') : LB K t σ H Q :=
  ⟨m, h, ρ, R, S, mo ρ h _ _ (fun d h' q m' H' st rp => k m' H' d h' st rp (S.step R st) q) q⟩
theorem LA.bind {t : A3} (mo : MonoA t) (R : Rep K m h H) (S : RelS K m H ρ σ) {Q3 : List D → Sto → Prop} (q : t ρ h Q3) {Q : List V → Hp → Prop}
    (k : ∀ m' H' v d h', Step m H m' H' → Rep K m' h' H' → RelDs K m' H' d v → RelS K m' H' ρ σ → Q3 d h' → Q v H') : LA K t σ H Q :=
  ⟨m, h, ρ, R, S, mo ρ h _ _ (fun d h' q m' H' v st rp rd => k m' H' v d h' st rp rd (S.step R st) q) q⟩
theorem LX.bind {t : A3} (mo : MonoA t) (R : Rep K m h H) (S : RelS K m H ρ σ) {Q3 : List D → Sto → Prop} (q : t ρ h Q3) {Q : VK}
    (k : ∀ m' H' a vs d h', Step m H m' H' → Rep K m' h' H' → H' a = some (.lst vs) → H a = none → a ∉ m' → RelDs K m' H' d vs → RelS K m' H' ρ σ → Q3 d h' → Q (.ref a) H') : LX K t σ H Q :=
  ⟨m, h, ρ, R, S, mo ρ h _ _ (fun d h' q m' H' a vs st rp e n na rd => k m' H' a vs d h' st rp e n na rd (S.step R st) q) q⟩
theorem Up.step (s : Step m H m' H') {Q : VK} {d : D} (u : Up K m H Q d h) : Up K m' H' Q d h := fun m2 H2 v st => u m2 H2 v (s.trans st)
theorem UpS.step (s : Step m H m' H') {Q : L2.St → Hp → Prop} {d : S3} (u : UpS K m H Q d h) : UpS K m' H' Q d h := fun m2 H2 v st => u m2 H2 v (s.trans st)
theorem UpC.step (s : Step m H m' H') {D : Ends} : EndsLe (UpC K m H D) (UpC K m' H' D) := ⟨fun _ _ u => UpS.step s u, fun _ _ u => Up.step s u, fun _ _ u => UpS.step s u, fun _ _ u => UpS.step s u⟩
end

/-! ### names, constants -/
section
variable {X : Cx}
def tV (i : Nat) : E3 := fun ρ h Q => match ρ[i]? with
  | some (some d) => Q d h
  | _ => False
def tK (d : D) : E3 := fun _ h Q => Q d h
theorem MonoE.var (i : Nat) : MonoE (tV i) := fun ρ h Q Q' w q => by
  unfold tV at q ⊢
  split at q
  · exact w _ _ q
  · exact q.elim
theorem MonoE.const (d : D) : MonoE (tK d) := fun ρ h Q Q' w q => w _ _ q
theorem e3_v (i : Nat) {x : Str} {pos : Pos} (hN : X.N[i]? = some x := by rfl) (hv : Vis X.env.scope x := by first | exact Or.inl rfl | exact Or.inr (Or.inl rfl) | exact Or.inr (Or.inr rfl)) (hd : (x == ("__debug__" : Str)) = false := by decide)
    (hcd : (x == ("__classdict__" : Str)) = false := by decide) : PE3 X (.Name x pos) (tV i) := by
  refine ⟨PE.weak (pe_var hN hv hd hcd) fun σ H Q ⟨m, h, ρ, R, S, q⟩ => ?_, MonoE.var i⟩
  unfold tV at q
  split at q
  next d e =>
    obtain ⟨v, e1, r⟩ := S.2 i d e
    exact ⟨v, e1, q m H v .refl R r⟩
  next => exact q.elim
theorem e3_k {e : Expr} {d : D} {v : V} (p : PE X e (tC v)) (r : ∀ K m H, RelD K m H d v) : PE3 X e (tK d) :=
  ⟨PE.weak p fun σ H Q ⟨m, h, ρ, R, S, q⟩ => q m H v .refl R (r _ _ _), MonoE.const d⟩
theorem e3_int {i j pos} : PE3 X (.Constant (.int i) j pos) (tK (.int i)) := e3_k pe_int fun _ _ _ => .int i
theorem e3_bl {i j pos} : PE3 X (.Constant (.bool i) j pos) (tK (.bl i)) := e3_k pe_bl fun _ _ _ => .bl i
theorem e3_non {j pos} : PE3 X (.Constant .none j pos) (tK .non) := e3_k pe_non fun _ _ _ => .non
theorem e3_str {i j pos} : PE3 X (.Constant (.str i) j pos) (tK (.str i)) := e3_k pe_str fun _ _ _ => .str i
theorem e3_gint {x : Str} {i : Int} {t : Tok} {pos : Pos} (hg : Gl X x) (hm : X.mg x = some (.int i t)) (hd : (x == ("__debug__" : Str)) = false := by decide) : PE3 X (.Name x pos) (tK (.int i)) := e3_k (pe_glob (v := .int i) hg hm ⟨t, rfl⟩ hd) fun _ _ _ => .int i
theorem e3_gstr {x : Str} {i : Str} {t : Tok} {pos : Pos} (hg : Gl X x) (hm : X.mg x = some (.str i t)) (hd : (x == ("__debug__" : Str)) = false := by decide) : PE3 X (.Name x pos) (tK (.str i)) := e3_k (pe_glob (v := .str i) hg hm ⟨t, rfl⟩ hd) fun _ _ _ => .str i
theorem e3_ty {x : Str} {T : String} {pos : Pos} (hg : Gl X x) (hm : X.mg x = none) (hv : bootBuiltins x = some (.type T)) (hn : x ≠ "__name__" := by decide) (hd : (x == ("__debug__" : Str)) = false := by decide) : PE3 X (.Name x pos) (tK (.ty T)) :=
  e3_k (v := .ty T) (pe_bltn hg hm hv rfl hn hd) fun _ _ _ => .ty T
/-- a class of the module -/
theorem e3_cls {x : Str} {C : Addr} {pos : Pos} (hg : Gl X x) (hm : X.mg x = some (.ref C)) (hd : (x == ("__debug__" : Str)) = false := by decide) : PE3 X (.Name x pos) (tK (.adr C)) := e3_k (v := .ref C) (pe_glob hg hm rfl hd) fun _ _ _ => .adr C
end

/-! ### operators -/
abbrev R3 := D → D → Sto → DK → Prop
abbrev U3 := D → Sto → DK → Prop
structure Op3 (X : Cx) (f : Value → Value → Sem Value) (r3 : R3) : Prop where
  mono : ∀ x y h (Q Q' : DK), (∀ d h', Q d h' → Q' d h') → r3 x y h Q → r3 x y h Q'
  ok : ∃ r : R2, OpR X f r ∧ ∀ m h H x y v u Q, Rep X.K m h H → RelD X.K m H x v → RelD X.K m H y u → r3 x y h (Up X.K m H Q) → r v u H Q
theorem OpR.or {X : Cx} {f : Value → Value → Sem Value} {r1 r2 : R2} (h1 : OpR X f r1) (h2 : OpR X f r2) : OpR X f (fun x y H Q => r1 x y H Q ∨ r2 x y H Q) := by
  intro pins s σ H x y v u Q I rx ry h
  rcases h with h | h
  · exact h1 pins s σ H x y v u Q I rx ry h
  · exact h2 pins s σ H x y v u Q I rx ry h
section
variable {X : Cx} {a b c : Expr} {ta tb tc : E3} {pos : Pos}
def tO (r : R3) (ta tb : E3) : E3 := fun ρ h Q => ta ρ h fun x h1 => tb ρ h1 fun y h2 => r x y h2 Q
def tU (r : U3) (ta : E3) : E3 := fun ρ h Q => ta ρ h fun x h1 => r x h1 Q
theorem MonoE.op {r : R3} (mr : ∀ x y h (Q Q' : DK), (∀ d h', Q d h' → Q' d h') → r x y h Q → r x y h Q') (ma : MonoE ta) (mb : MonoE tb) : MonoE (tO r ta tb) := fun ρ h Q Q' w q =>
  ma _ _ _ _ (fun x h1 q1 => mb _ _ _ _ (fun y h2 q2 => mr _ _ _ _ _ w q2) q1) q
theorem op_lift {r3 : R3} {r : R2} (w : ∀ m h H x y v u Q, Rep X.K m h H → RelD X.K m H x v → RelD X.K m H y u → r3 x y h (Up X.K m H Q) → r v u H Q)
    (mr : ∀ x y h (Q Q' : DK), (∀ d h', Q d h' → Q' d h') → r3 x y h Q → r3 x y h Q') (ma : MonoE ta) (mb : MonoE tb) {σ : L2.St} {H : Hp} {Q : VK} (q : LE X.K (tO r3 ta tb) σ H Q) : tOp r (LE X.K ta) (LE X.K tb) σ H Q := by
  obtain ⟨m, h, ρ, R, S, q⟩ := q
  refine LE.bind ma R S q fun m1 H1 v x h1 s1 R1 rx S1 q1 => ?_
  refine LE.bind mb R1 S1 q1 fun m2 H2 u y h2 s2 R2 ry S2 q2 => ?_
  exact w m2 h2 H2 x y v u Q R2 (rx.step R1 s2) ry (mr _ _ _ _ _ (fun d h' u => Up.step (s1.trans s2) u) q2)
theorem e3_op {op : Operator} {r3 : R3} (o : Op3 X (binaryOp op) r3) (ha : PE3 X a ta) (hb : PE3 X b tb) : PE3 X (.BinOp a op b pos) (tO r3 ta tb) := by
  obtain ⟨r, hr, w⟩ := o.ok
  exact ⟨PE.weak (pe_op hr ha.pe hb.pe) fun σ H Q q => op_lift w o.mono ha.mono hb.mono q, MonoE.op o.mono ha.mono hb.mono⟩
theorem e3_cmp {op : CmpOp} {r3 : R3} (o : Op3 X (compareOp op) r3) (ha : PE3 X a ta) (hb : PE3 X b tb) (hm : behindInMarks op b = false := by first | exact nomark _ | with_unfolding_all rfl) : PE3 X (.Compare a [op] [b] pos) (tO r3 ta tb) := by
  obtain ⟨r, hr, w⟩ := o.ok
  exact ⟨PE.weak (pe_cmpR hr ha.pe hb.pe hm) fun σ H Q q => op_lift w o.mono ha.mono hb.mono q, MonoE.op o.mono ha.mono hb.mono⟩
/-- a value that is a truth, as a test -/
def tT (t : E3) : B3 := fun ρ h Q => t ρ h fun d h' => match d with
  | .bl b => Q b h'
  | _ => False
theorem MonoB.tT {t : E3} (mo : MonoE t) : MonoB (tT t) := fun ρ h Q Q' w q => mo _ _ _ _ (fun d h' q => by
  cases d <;> first | exact w _ _ q | exact q) q
theorem tT_lift {t : E3} (mo : MonoE t) {K : PySem.W.Frag} {σ : L2.St} {H : Hp} {Q : Bool → Hp → Prop} (q : LB K (tT t) σ H Q) : LE K t σ H fun x H' => ∃ k, x = .bl k ∧ Q k H' := by
  obtain ⟨m, h, ρ, R, S, q⟩ := q
  refine LE.bind mo R S q fun m1 H1 v x h1 s1 R1 rx S1 q1 => ?_
  cases x with
  | bl b => cases rx; exact ⟨b, rfl, q1 m1 H1 s1 R1⟩
  | _ => exact q1.elim
theorem b3_cmp {op : CmpOp} {r3 : R3} (o : Op3 X (compareOp op) r3) (ha : PE3 X a ta) (hb : PE3 X b tb) (hm : behindInMarks op b = false := by first | exact nomark _ | with_unfolding_all rfl) : PB3 X (.Compare a [op] [b] pos) (tT (tO r3 ta tb)) := by
  obtain ⟨r, hr, w⟩ := o.ok
  have mo := MonoE.op o.mono ha.mono hb.mono
  exact ⟨PT.weak (pt_cmpR hr ha.pe hb.pe hm) fun σ H Q q => op_lift w o.mono ha.mono hb.mono (tT_lift mo q), MonoB.tT mo⟩
def tCh (r r' : R3) (ta tb tc : E3) : E3 := fun ρ h Q => ta ρ h fun x h1 => tb ρ h1 fun y h2 => r x y h2 fun z h3 => match z with
  | .bl true => tc ρ h3 fun w h4 => r' y w h4 Q
  | .bl false => Q (.bl false) h3
  | _ => False
theorem MonoE.ch {r r' : R3} (mr : ∀ x y h (Q Q' : DK), (∀ d h', Q d h' → Q' d h') → r x y h Q → r x y h Q') (mr' : ∀ x y h (Q Q' : DK), (∀ d h', Q d h' → Q' d h') → r' x y h Q → r' x y h Q')
    (ma : MonoE ta) (mb : MonoE tb) (mc : MonoE tc) : MonoE (tCh r r' ta tb tc) := fun ρ h Q Q' w q =>
  ma _ _ _ _ (fun x h1 q1 => mb _ _ _ _ (fun y h2 q2 => mr _ _ _ _ _ (fun d h3 q3 => by
    cases d with
    | bl b =>
      cases b with
      | true => exact mc _ _ _ _ (fun w' h4 q4 => mr' _ _ _ _ _ w q4) q3
      | false => exact w _ _ q3
    | _ => exact q3) q2) q1) q
theorem ch_lift {r3 r3' : R3} {r r' : R2} (w : ∀ m h H x y v u Q, Rep X.K m h H → RelD X.K m H x v → RelD X.K m H y u → r3 x y h (Up X.K m H Q) → r v u H Q) (w' : ∀ m h H x y v u Q, Rep X.K m h H → RelD X.K m H x v → RelD X.K m H y u → r3' x y h (Up X.K m H Q) → r' v u H Q)
    (mr : ∀ x y h (Q Q' : DK), (∀ d h', Q d h' → Q' d h') → r3 x y h Q → r3 x y h Q') (mr' : ∀ x y h (Q Q' : DK), (∀ d h', Q d h' → Q' d h') → r3' x y h Q → r3' x y h Q')
    (ma : MonoE ta) (mb : MonoE tb) (mc : MonoE tc) {σ : L2.St} {H : Hp} {Q : VK} (q : LE X.K (tCh r3 r3' ta tb tc) σ H Q) : tChain r r' (LE X.K ta) (LE X.K tb) (LE X.K tc) σ H Q := by
  obtain ⟨m, h, ρ, R, S, q⟩ := q
  refine LE.bind ma R S q fun m1 H1 v x h1 s1 R1 rx S1 q1 => ?_
  refine LE.bind mb R1 S1 q1 fun m2 H2 u y h2 s2 R2 ry S2 q2 => ?_
  refine w m2 h2 H2 x y v u _ R2 (rx.step R1 s2) ry (mr _ _ _ _ _ (fun d h3 q3 m3 H3 z s3 R3 rz => ?_) q2)
  cases d with
  | bl b =>
    cases rz
    refine ⟨b, rfl, ?_⟩
    cases b with
    | false =>
      rw [if_neg Bool.false_ne_true]
      exact q3 m3 H3 _ (s1.trans (s2.trans s3)) R3 (.bl false)
    | true =>
      rw [if_pos rfl]
      refine LE.bind mc R3 (S2.step R2 s3) q3 fun m4 H4 z w4 h4 s4 R4 rz S4 q4 => ?_
      exact w' m4 h4 H4 y w4 u z Q R4 ((ry.step R2 s3).step R3 s4) rz (mr' _ _ _ _ _ (fun d h' u => Up.step (s1.trans (s2.trans (s3.trans s4))) u) q4)
  | _ => exact q3.elim
theorem e3_chain {op op' : CmpOp} {r3 r3' : R3} (o : Op3 X (compareOp op) r3) (o' : Op3 X (compareOp op') r3') (ha : PE3 X a ta) (hb : PE3 X b tb) (hc : PE3 X c tc)
    (hm : lastMarks [op, op'] [b, c] = false := by with_unfolding_all rfl) : PE3 X (.Compare a [op, op'] [b, c] pos) (tCh r3 r3' ta tb tc) := by
  obtain ⟨r, hr, w⟩ := o.ok
  obtain ⟨r', hr', w'⟩ := o'.ok
  exact ⟨PE.weak (pe_chain hr hr' ha.pe hb.pe hc.pe hm) fun σ H Q q => ch_lift w w' o.mono o'.mono ha.mono hb.mono hc.mono q, MonoE.ch o.mono o'.mono ha.mono hb.mono hc.mono⟩
theorem b3_chain {op op' : CmpOp} {r3 r3' : R3} (o : Op3 X (compareOp op) r3) (o' : Op3 X (compareOp op') r3') (ha : PE3 X a ta) (hb : PE3 X b tb) (hc : PE3 X c tc)
    (hm : lastMarks [op, op'] [b, c] = false := by with_unfolding_all rfl) : PB3 X (.Compare a [op, op'] [b, c] pos) (tT (tCh r3 r3' ta tb tc)) := by
  obtain ⟨r, hr, w⟩ := o.ok
  obtain ⟨r', hr', w'⟩ := o'.ok
  have mo := MonoE.ch o.mono o'.mono ha.mono hb.mono hc.mono
  exact ⟨PT.weak (pt_chain hr hr' ha.pe hb.pe hc.pe hm) fun σ H Q q => ch_lift w w' o.mono o'.mono ha.mono hb.mono hc.mono (tT_lift mo q), MonoB.tT mo⟩
/-- an expression whose value is a bool, as a test -/
theorem b3_val {t : E3} (ha : PE3 X a t) (he : ∀ whole, isTrue a X.env whole = (do let v ← whole; standAt a.pos; holding [v] (truthy v)) := by intro _; rfl) : PB3 X a (tT t) :=
  ⟨PT.weak (pt_val ha.pe he) fun σ H Q q => tT_lift ha.mono q, MonoB.tT ha.mono⟩
/-! ### and, or, not -/
variable {t u : B3} {rest : List Expr}
def tAnd3 (t u : B3) : B3 := fun ρ h Q => t ρ h fun c h1 => if c = true then u ρ h1 Q else Q false h1
def tOr3 (t u : B3) : B3 := fun ρ h Q => t ρ h fun c h1 => if c = true then Q true h1 else u ρ h1 Q
def tNot3 (t : B3) : B3 := fun ρ h Q => t ρ h fun c h1 => Q (!c) h1
theorem MonoB.and (mt : MonoB t) (mu : MonoB u) : MonoB (tAnd3 t u) := fun ρ h Q Q' w q => mt _ _ _ _ (fun c h1 q1 => by
  cases c with
  | true => rw [if_pos rfl] at q1 ⊢; exact mu _ _ _ _ w q1
  | false => rw [if_neg Bool.false_ne_true] at q1 ⊢; exact w _ _ q1) q
theorem MonoB.or (mt : MonoB t) (mu : MonoB u) : MonoB (tOr3 t u) := fun ρ h Q Q' w q => mt _ _ _ _ (fun c h1 q1 => by
  cases c with
  | true => rw [if_pos rfl] at q1 ⊢; exact w _ _ q1
  | false => rw [if_neg Bool.false_ne_true] at q1 ⊢; exact mu _ _ _ _ w q1) q
theorem MonoB.not (mt : MonoB t) : MonoB (tNot3 t) := fun ρ h Q Q' w q => mt _ _ _ _ (fun c h1 q1 => w _ _ q1) q
theorem w3_and1 (ha : PB3 X a t) : PW3 X (.BoolOp .And [a] pos) t := ⟨pw_and1 ha.pe, ha.mono⟩
theorem w3_or1 (ha : PB3 X a t) : PW3 X (.BoolOp .Or [a] pos) t := ⟨pw_or1 ha.pe, ha.mono⟩
theorem w3_and (ha : PB3 X a t) (hb : PW3 X (.BoolOp .And (b :: rest) pos) u) : PW3 X (.BoolOp .And (a :: b :: rest) pos) (tAnd3 t u) := by
  refine ⟨PW.weak (pw_and ha.pe hb.pe) fun σ H Q ⟨m, h, ρ, R, S, q⟩ => ?_, ha.mono.and hb.mono⟩
  refine LB.bind ha.mono R S q fun m1 H1 c h1 s1 R1 S1 q1 => ?_
  cases c with
  | true =>
    rw [if_pos rfl] at q1 ⊢
    exact LB.bind hb.mono R1 S1 q1 fun m2 H2 c h2 s2 R2 S2 q2 => q2 m2 H2 (s1.trans s2) R2
  | false =>
    rw [if_neg Bool.false_ne_true] at q1 ⊢
    exact q1 m1 H1 s1 R1
theorem w3_or (ha : PB3 X a t) (hb : PW3 X (.BoolOp .Or (b :: rest) pos) u) : PW3 X (.BoolOp .Or (a :: b :: rest) pos) (tOr3 t u) := by
  refine ⟨PW.weak (pw_or ha.pe hb.pe) fun σ H Q ⟨m, h, ρ, R, S, q⟩ => ?_, ha.mono.or hb.mono⟩
  refine LB.bind ha.mono R S q fun m1 H1 c h1 s1 R1 S1 q1 => ?_
  cases c with
  | false =>
    rw [if_neg Bool.false_ne_true] at q1 ⊢
    exact LB.bind hb.mono R1 S1 q1 fun m2 H2 c h2 s2 R2 S2 q2 => q2 m2 H2 (s1.trans s2) R2
  | true =>
    rw [if_pos rfl] at q1 ⊢
    exact q1 m1 H1 s1 R1
theorem PW3.to {e : Expr} (h : PW3 X e t) : PB3 X e t := ⟨h.pe.pt, h.mono⟩
theorem b3_not (ha : PB3 X a t) : PB3 X (.UnaryOp .Not a pos) (tNot3 t) := by
  refine ⟨PT.weak (pt_not ha.pe) fun σ H Q ⟨m, h, ρ, R, S, q⟩ => ?_, ha.mono.not⟩
  exact LB.bind ha.mono R S q fun m1 H1 c h1 s1 R1 S1 q1 => q1 m1 H1 s1 R1
/-- as values (bools) -/
def tAndE (ta tb : E3) : E3 := fun ρ h Q => ta ρ h fun x h1 => match x with
  | .bl true => tb ρ h1 Q
  | .bl false => Q (.bl false) h1
  | _ => False
def tOrE (ta tb : E3) : E3 := fun ρ h Q => ta ρ h fun x h1 => match x with
  | .bl true => Q (.bl true) h1
  | .bl false => tb ρ h1 Q
  | _ => False
def tNotE (ta : E3) : E3 := fun ρ h Q => ta ρ h fun x h1 => match x with
  | .bl b => Q (.bl (!b)) h1
  | _ => False
theorem e3_one {op} (ha : PE3 X a ta) : PE3 X (.BoolOp op [a] pos) ta := ⟨pe_one ha.pe, ha.mono⟩
theorem e3_and (ha : PE3 X a ta) (hb : PE3 X (.BoolOp .And (b :: rest) pos) tb) : PE3 X (.BoolOp .And (a :: b :: rest) pos) (tAndE ta tb) := by
  refine ⟨PE.weak (pe_and ha.pe hb.pe) fun σ H Q ⟨m, h, ρ, R, S, q⟩ => ?_, fun ρ h Q Q' w q => ha.mono _ _ _ _ (fun d h1 q1 => ?_) q⟩
  · refine LE.bind ha.mono R S q fun m1 H1 v x h1 s1 R1 rx S1 q1 => ?_
    cases x with
    | bl c =>
      cases rx
      refine ⟨c, rfl, ?_⟩
      cases c with
      | true =>
        rw [if_pos rfl]
        exact LE.bind hb.mono R1 S1 q1 fun m2 H2 v d h2 s2 R2 rd S2 q2 => q2 m2 H2 v (s1.trans s2) R2 rd
      | false =>
        rw [if_neg Bool.false_ne_true]
        exact q1 m1 H1 _ s1 R1 (.bl false)
    | _ => exact q1.elim
  · cases d with
    | bl c =>
      cases c with
      | true => exact hb.mono _ _ _ _ w q1
      | false => exact w _ _ q1
    | _ => exact q1
theorem e3_or (ha : PE3 X a ta) (hb : PE3 X (.BoolOp .Or (b :: rest) pos) tb) : PE3 X (.BoolOp .Or (a :: b :: rest) pos) (tOrE ta tb) := by
  refine ⟨PE.weak (pe_or ha.pe hb.pe) fun σ H Q ⟨m, h, ρ, R, S, q⟩ => ?_, fun ρ h Q Q' w q => ha.mono _ _ _ _ (fun d h1 q1 => ?_) q⟩
  · refine LE.bind ha.mono R S q fun m1 H1 v x h1 s1 R1 rx S1 q1 => ?_
    cases x with
    | bl c =>
      cases rx
      refine ⟨c, rfl, ?_⟩
      cases c with
      | false =>
        rw [if_neg Bool.false_ne_true]
        exact LE.bind hb.mono R1 S1 q1 fun m2 H2 v d h2 s2 R2 rd S2 q2 => q2 m2 H2 v (s1.trans s2) R2 rd
      | true =>
        rw [if_pos rfl]
        exact q1 m1 H1 _ s1 R1 (.bl true)
    | _ => exact q1.elim
  · cases d with
    | bl c =>
      cases c with
      | false => exact hb.mono _ _ _ _ w q1
      | true => exact w _ _ q1
    | _ => exact q1
theorem e3_not (ha : PE3 X a ta) : PE3 X (.UnaryOp .Not a pos) (tNotE ta) := by
  refine ⟨PE.weak (pe_not ha.pe) fun σ H Q ⟨m, h, ρ, R, S, q⟩ => ?_, fun ρ h Q Q' w q => ha.mono _ _ _ _ (fun d h1 q1 => ?_) q⟩
  · refine LE.bind ha.mono R S q fun m1 H1 v x h1 s1 R1 rx S1 q1 => ?_
    cases x with
    | bl c => cases rx; exact ⟨c, rfl, q1 m1 H1 _ s1 R1 (.bl _)⟩
    | _ => exact q1.elim
  · cases d with
    | bl c => exact w _ _ q1
    | _ => exact q1
def tIfE (t : B3) (ta tb : E3) : E3 := fun ρ h Q => t ρ h fun c h1 => if c = true then ta ρ h1 Q else tb ρ h1 Q
theorem e3_if (hc : PB3 X c t) (ha : PE3 X a ta) (hb : PE3 X b tb) : PE3 X (.IfExp c a b pos) (tIfE t ta tb) := by
  refine ⟨PE.weak (pe_ifExp hc.pe ha.pe hb.pe) fun σ H Q ⟨m, h, ρ, R, S, q⟩ => ?_, fun ρ h Q Q' w q => hc.mono _ _ _ _ (fun d h1 q1 => ?_) q⟩
  · refine LB.bind hc.mono R S q fun m1 H1 k h1 s1 R1 S1 q1 => ?_
    cases k with
    | true =>
      rw [if_pos rfl] at q1 ⊢
      exact LE.bind ha.mono R1 S1 q1 fun m2 H2 v d h2 s2 R2 rd S2 q2 => q2 m2 H2 v (s1.trans s2) R2 rd
    | false =>
      rw [if_neg Bool.false_ne_true] at q1 ⊢
      exact LE.bind hb.mono R1 S1 q1 fun m2 H2 v d h2 s2 R2 rd S2 q2 => q2 m2 H2 v (s1.trans s2) R2 rd
  · cases d with
    | true => rw [if_pos rfl] at q1 ⊢; exact ha.mono _ _ _ _ w q1
    | false => rw [if_neg Bool.false_ne_true] at q1 ⊢; exact hb.mono _ _ _ _ w q1
/-! ### one value -/
structure Un3 (X : Cx) (f : Value → Sem Value) (r3 : U3) : Prop where
  mono : ∀ x h (Q Q' : DK), (∀ d h', Q d h' → Q' d h') → r3 x h Q → r3 x h Q'
  ok : ∃ r : V → Hp → VK → Prop, UnR X f r ∧ ∀ m h H x v Q, Rep X.K m h H → RelD X.K m H x v → r3 x h (Up X.K m H Q) → r v H Q
theorem e3_un {op : UnaryOp} {r3 : U3} (o : Un3 X (unaryOp op) r3) (ha : PE3 X a ta) : PE3 X (.UnaryOp op a pos) (tU r3 ta) := by
  obtain ⟨r, hr, w⟩ := o.ok
  refine ⟨PE.weak (pe_un hr ha.pe) fun σ H Q ⟨m, h, ρ, R, S, q⟩ => ?_, fun ρ h Q Q' w q => ha.mono _ _ _ _ (fun d h1 q1 => o.mono _ _ _ _ w q1) q⟩
  refine LE.bind ha.mono R S q fun m1 H1 v x h1 s1 R1 rx S1 q1 => ?_
  exact w m1 h1 H1 x v Q R1 rx (o.mono _ _ _ _ (fun d h' u => Up.step s1 u) q1)
end

/-! ### argument lists, displays -/
def tN3 : A3 := fun _ h Q => Q [] h
def tC3 (ta : E3) (tr : A3) : A3 := fun ρ h Q => ta ρ h fun x h1 => tr ρ h1 fun xs h2 => Q (x :: xs) h2
def tTup3 (t : A3) : E3 := fun ρ h Q => t ρ h fun xs h1 => Q (.tup xs) h1
/-- a new list as a cell -/
def tNew (t : A3) : E3 := fun ρ h Q => t ρ h fun xs h1 => Q (.ref h1.length) (h1 ++ [.lst xs])
section
variable {X : Cx} {e : Expr} {es : List Expr} {te : E3} {t : A3} {pos : Pos}
theorem a3_nil : PA3 X [] tN3 := ⟨PA.weak pa_nil fun σ H Q ⟨m, h, ρ, R, S, q⟩ => q m H [] .refl R .nil, fun ρ h Q Q' w q => w _ _ q, fun ρ h Q q => ⟨rfl, q⟩⟩
theorem a3_cons (ha : PE3 X e te) (hr : PA3 X es t) (hs : starEach (e :: es) X.env = (false, eval e X.env) :: starEach es X.env := by rfl) : PA3 X (e :: es) (tC3 te t) := by
  refine ⟨PA.weak (pa_cons ha.pe hr.pe hs) fun σ H Q ⟨m, h, ρ, R, S, q⟩ => ?_, fun ρ h Q Q' w q => ha.mono _ _ _ _ (fun d h1 q1 => hr.mono _ _ _ _ (fun ds h2 q2 => w _ _ q2) q1) q,
    fun ρ h Q q => ha.mono _ _ _ _ (fun d h1 q1 => hr.mono _ _ _ _ (fun ds h2 q2 => ⟨by rw [List.length_cons, q2.1, List.length_cons], q2.2⟩) (hr.len _ _ _ q1)) q⟩
  refine LE.bind ha.mono R S q fun m1 H1 v x h1 s1 R1 rx S1 q1 => ?_
  refine LA.bind hr.mono R1 S1 q1 fun m2 H2 vs xs h2 s2 R2 rxs S2 q2 => ?_
  exact q2 m2 H2 (v :: vs) (s1.trans s2) R2 (.cons (rx.step R1 s2) rxs)
theorem e3_tup {x1} (h : PA3 X es t) (hl : es.length ≤ sizeLine := by decide) : PE3 X (.Tuple es x1 pos) (tTup3 t) := by
  refine ⟨PE.weak (pe_tupN h.pe) fun σ H Q ⟨m, st, ρ, R, S, q⟩ => ?_, fun ρ st Q Q' w q => h.mono _ _ _ _ (fun d h1 q1 => w _ _ q1) q⟩
  refine LA.bind h.mono R S (h.len _ _ _ q) fun m1 H1 vs xs h1 s1 R1 rx S1 q1 => ⟨by rw [← rx.length, q1.1]; exact hl, fun p o hp no => ?_⟩
  exact q1.2 m1 _ (.ref p) (s1.trans (Step.lay hp)) (R1.lay hp) (.tup (TupA.new no) (rx.step R1 (Step.lay hp)))
theorem x3_lst (h : PA3 X es t) (hl : es.length ≤ sizeLine := by decide) : PX3 X (.List es pos) t := by
  refine ⟨PE.weak (pe_lst h.pe) fun σ H Q ⟨m, st, ρ, R, S, q⟩ => ?_, h.mono⟩
  refine LA.bind h.mono R S (h.len _ _ _ q) fun m1 H1 vs xs h1 s1 R1 rx S1 q1 => ⟨by rw [← rx.length, q1.1]; exact hl, fun p hp => ?_⟩
  refine q1.2 m1 _ p vs (s1.trans (Step.lay hp)) (R1.lay hp) upd_same ?_ (R1.nonone hp) (rx.step R1 (Step.lay hp))
  cases z : H p with
  | none => rfl
  | some o =>
    by_cases hm : p ∈ m
    · obtain ⟨r, hr⟩ := s1.pre
      exact absurd (show p ∈ m1 by rw [hr]; exact List.mem_append_left _ hm) (R1.nonone hp)
    · rw [s1.keep p o hm z] at hp; cases hp
/-- a new list becomes a cell -/
theorem new_lift {K : PySem.W.Frag} (mo : MonoA t) {σ : L2.St} {H : Hp} {Q : VK} (q : LE K (tNew t) σ H Q) : LX K t σ H Q := by
  obtain ⟨m, st, ρ, R, S, q⟩ := q
  refine LX.bind mo R S q fun m1 H1 a vs xs h1 s1 R1 ea na ha rx S1 q1 => ?_
  -- the cell's own step, from the state ahead of the list
  refine q1 (m1 ++ [a]) H1 (.ref a) ?_ ?_ (.ref (by rw [← R1.len]; simp))
  · obtain ⟨r, hr⟩ := s1.pre
    refine ⟨⟨r ++ [a], by rw [hr, List.append_assoc]⟩, s1.keep, fun c hc hn => ?_⟩
    rcases List.mem_append.mp hc with z | z
    · exact s1.new c z hn
    · rw [List.mem_singleton.mp z]; exact na
  · have mono : ∀ {ds : List D} {vs : List V}, RelDs K m1 H1 ds vs → RelDs K (m1 ++ [a]) H1 ds vs := fun r => r.mono (fun n b e => by
      rw [List.getElem?_append_left (List.getElem?_eq_some_iff.mp e).1]; exact e) (fun _ _ q => q) fun _ _ q => q
    refine ⟨by simp [R1.len], ?_, fun n b c h1 h2 => ?_⟩
    · rw [List.nodup_append]
      refine ⟨R1.nd, by simp, fun x hx y hy => ?_⟩
      have e : y = a := by simpa using hy
      rw [e]
      exact fun z => ha (z ▸ hx)
    · by_cases hn : n < m1.length
      · rw [List.getElem?_append_left hn] at h1
        rw [List.getElem?_append_left (by rw [← R1.len]; exact hn)] at h2
        have ok := R1.at_ n b c h1 h2
        cases c with
        | lst xs => obtain ⟨vs, q, r⟩ := ok; exact ⟨vs, q, mono r⟩
        | dK xs => obtain ⟨vs, q, k, r⟩ := ok; exact ⟨vs, q, k, mono r⟩
        | dT xs => obtain ⟨vs, q, k, r⟩ := ok; exact ⟨vs, q, k, mono r⟩
        | zK o vs xs => obtain ⟨q, k, r⟩ := ok; exact ⟨q, k, mono r⟩
        | zT o vs xs => obtain ⟨q, k, r⟩ := ok; exact ⟨q, k, mono r⟩
        | ins C xs => obtain ⟨dx, vs, q, k, r⟩ := ok; exact ⟨dx, vs, q, k, mono r⟩
      · rw [List.getElem?_append_right (by omega)] at h1
        rw [List.getElem?_append_right (by rw [← R1.len]; omega)] at h2
        have z : n - m1.length = 0 := by
          have := (List.getElem?_eq_some_iff.mp h1).1
          simp at this; omega
        rw [z] at h1
        rw [← R1.len, z] at h2
        simp at h1 h2
        subst h1; subst h2
        exact ⟨vs, ea, mono rx⟩
theorem MonoE.newl (mo : MonoA t) : MonoE (tNew t) := fun ρ st Q Q' w q => mo _ _ _ _ (fun d h1 q1 => w _ _ q1) q
theorem e3_new (h : PX3 X e t) : PE3 X e (tNew t) := ⟨PE.weak h.pe fun σ H Q q => new_lift h.mono q, .newl h.mono⟩
end

/-! ### statements -/
section
variable {X : Cx} {st : Stmt} {rest : List Stmt} {t u : C3} {e : Expr} {te : E3} {pos : Pos}
theorem EndsLe.refl {D : Ends3} : EndsLe D D := ⟨fun _ _ q => q, fun _ _ q => q, fun _ _ q => q, fun _ _ q => q⟩
def cNext : C3 := fun D ρ h => D.nx ρ h
def cSeq (t u : C3) : C3 := fun D ρ h => t { D with nx := u D } ρ h
theorem MonoC.seq (mt : MonoC t) (mu : MonoC u) : MonoC (cSeq t u) := fun D D' ρ h w q => mt { D with nx := u D } { D' with nx := u D' } ρ h ⟨fun ρ h q => mu _ _ _ _ w q, w.rt, w.bk, w.ct⟩ q
/-- the lifted ends of a later state -/
theorem LC.of {K : PySem.W.Frag} {m : List Addr} {H : Hp} {h : Sto} {ρ : S3} {σ : L2.St} {D : Ends} (mt : MonoC t) {D3 : Ends3} (R : Rep K m h H) (S : RelS K m H ρ σ) (w : EndsLe D3 (UpC K m H D)) (q : t D3 ρ h) : LC K t D σ H := ⟨m, h, ρ, R, S, mt _ _ _ _ w q⟩
theorem cs3_nil : PCs3 X [] cNext := ⟨PSs.weak pss_nil fun D σ H ⟨m, h, ρ, R, S, q⟩ => q m H σ .refl R S, fun D D' ρ h w q => w.nx _ _ q⟩
theorem cs3_cons (h1 : PC3 X st t) (h2 : PCs3 X rest u) : PCs3 X (st :: rest) (cSeq t u) := by
  refine ⟨PSs.weak (pss_cons h1.pe h2.pe) fun D σ H ⟨m, h, ρ, R, S, q⟩ => ?_, h1.mono.seq h2.mono⟩
  refine LC.of (D3 := { UpC X.K m H D with nx := u (UpC X.K m H D) }) h1.mono R S ⟨fun ρ' h' q m' H' σ' s R' S' => ?_, fun _ _ q => q, fun _ _ q => q, fun _ _ q => q⟩ q
  exact LC.of h2.mono R' S' (UpC.step s) q
theorem cs3_one (h1 : PC3 X st t) : PCs3 X [st] t := ⟨pss_one h1.pe, h1.mono⟩
def cBreak : C3 := fun D ρ h => D.bk ρ h
def cCont : C3 := fun D ρ h => D.ct ρ h
theorem c3_pass : PC3 X (.Pass pos) cNext := ⟨PS.weak ps_pass fun D σ H ⟨m, h, ρ, R, S, q⟩ => q m H σ .refl R S, fun D D' ρ h w q => w.nx _ _ q⟩
theorem c3_break : PC3 X (.Break pos) cBreak := ⟨PS.weak ps_break fun D σ H ⟨m, h, ρ, R, S, q⟩ => q m H σ .refl R S, fun D D' ρ h w q => w.bk _ _ q⟩
theorem c3_continue : PC3 X (.Continue pos) cCont := ⟨PS.weak ps_continue fun D σ H ⟨m, h, ρ, R, S, q⟩ => q m H σ .refl R S, fun D D' ρ h w q => w.ct _ _ q⟩
def cDrop (te : E3) : C3 := fun D ρ h => te ρ h fun _ h1 => D.nx ρ h1
theorem c3_expr (he : PE3 X e te) (hs : swapsWith e none pos.line X.env = pure false := by rfl) : PC3 X (.Expr e pos) (cDrop te) := by
  refine ⟨PS.weak (ps_expr he.pe hs) fun D σ H ⟨m, h, ρ, R, S, q⟩ => ?_, fun D D' ρ h w q => he.mono _ _ _ _ (fun _ _ q => w.nx _ _ q) q⟩
  exact LE.bind he.mono R S q fun m1 H1 v x h1 s1 R1 rx S1 q1 => q1 m1 H1 σ s1 R1 S1
def cRet (te : E3) : C3 := fun D ρ h => te ρ h D.rt
theorem c3_ret (he : PE3 X e te) : PC3 X (.Return (some e) pos) (cRet te) := by
  refine ⟨PS.weak (ps_ret he.pe) fun D σ H ⟨m, h, ρ, R, S, q⟩ => ?_, fun D D' ρ h w q => he.mono _ _ _ _ (fun _ _ q => w.rt _ _ q) q⟩
  exact LE.bind he.mono R S q fun m1 H1 v x h1 s1 R1 rx S1 q1 => q1 m1 H1 v s1 R1 rx
def cRetN : C3 := fun D _ h => D.rt .non h
theorem c3_retN : PC3 X (.Return none pos) cRetN := ⟨PS.weak ps_retN fun D σ H ⟨m, h, ρ, R, S, q⟩ => q m H .non .refl R .non, fun D D' ρ h w q => w.rt _ _ q⟩
def cIf (c : B3) (t u : C3) : C3 := fun D ρ h => c ρ h fun b h1 => if b = true then t D ρ h1 else u D ρ h1
theorem c3_if {c : Expr} {a b : List Stmt} {tc : B3} (hc : PB3 X c tc) (ha : PCs3 X a t) (hb : PCs3 X b u) : PC3 X (.If c a b pos) (cIf tc t u) := by
  refine ⟨PS.weak (ps_if hc.pe ha.pe hb.pe) fun D σ H ⟨m, h, ρ, R, S, q⟩ => ?_, fun D D' ρ h w q => hc.mono _ _ _ _ (fun b h1 q => ?_) q⟩
  · refine LB.bind hc.mono R S q fun m1 H1 k h1 s1 R1 S1 q1 => ?_
    cases k with
    | true => rw [if_pos rfl] at q1 ⊢; exact LC.of ha.mono R1 S1 (UpC.step s1) q1
    | false => rw [if_neg Bool.false_ne_true] at q1 ⊢; exact LC.of hb.mono R1 S1 (UpC.step s1) q1
  · cases b with
    | true => rw [if_pos rfl] at q ⊢; exact ha.mono _ _ _ _ w q
    | false => rw [if_neg Bool.false_ne_true] at q ⊢; exact hb.mono _ _ _ _ w q
/-! ### targets -/
abbrev G3 := D → S3 → Sto → (S3 → Sto → Prop) → Prop
abbrev Gs3 := List D → S3 → Sto → (S3 → Sto → Prop) → Prop
def LG (K : PySem.W.Frag) (g : G3) : TG := fun v σ H Q => ∃ m h ρ d, Rep K m h H ∧ RelS K m H ρ σ ∧ RelD K m H d v ∧ g d ρ h (UpS K m H Q)
def LGs (K : PySem.W.Frag) (g : Gs3) : TGs := fun v σ H Q => ∃ m h ρ d, Rep K m h H ∧ RelS K m H ρ σ ∧ RelDs K m H d v ∧ g d ρ h (UpS K m H Q)
structure PG3 (X : Cx) (tg : Expr) (g : G3) : Prop where
  pe : PG X tg (LG X.K g)
  mono : ∀ d ρ h (Q Q' : S3 → Sto → Prop), (∀ ρ h, Q ρ h → Q' ρ h) → g d ρ h Q → g d ρ h Q'
structure PGs3 (X : Cx) (tg : List Expr) (g : Gs3) : Prop where
  pe : PGs X tg (LGs X.K g)
  mono : ∀ d ρ h (Q Q' : S3 → Sto → Prop), (∀ ρ h, Q ρ h → Q' ρ h) → g d ρ h Q → g d ρ h Q'
theorem PG.weak {X : Cx} {e : Expr} {t t' : TG} (p : PG X e t) (w : ∀ v σ H Q, t' v σ H Q → t v σ H Q) : PG X e t' := ⟨fun pins s σ H v u Q I r h => p.run pins s σ H v u Q I r (w v σ H Q h)⟩
theorem PGs.weak {X : Cx} {e : List Expr} {t t' : TGs} (p : PGs X e t) (w : ∀ v σ H Q, t' v σ H Q → t v σ H Q) : PGs X e t' := ⟨fun pins s σ H v u Q I r h => p.run pins s σ H v u Q I r (w v σ H Q h)⟩
def gN (i : Nat) : G3 := fun d ρ h Q => Q (ρ.set i (some d)) h
theorem g3_n (i : Nat) {x : Str} {pos : Pos} (hN : X.N.Nodup) (hi : X.N[i]? = some x := by rfl) (hx : Loc X.env.scope x := by first | exact Or.inl rfl | exact Or.inr rfl) (hf : X.fn x = true ∨ X.env.scope.names.lookup x = some .local := by first | exact .inl rfl | exact .inr rfl | assumption) : PG3 X (.Name x pos) (gN i) :=
  ⟨PG.weak (pg_name hN hi hx hf) fun v σ H Q ⟨m, h, ρ, d, R, S, r, q⟩ => q m H _ .refl R (S.set r i), fun d ρ h Q Q' w q => w _ _ q⟩
def gNil3 : Gs3 := fun ds ρ h Q => match ds with
  | [] => Q ρ h
  | _ :: _ => False
def gCons3 (g : G3) (r : Gs3) : Gs3 := fun ds ρ h Q => match ds with
  | [] => False
  | d :: ds => g d ρ h fun ρ' h' => r ds ρ' h' Q
theorem gs3_nil : PGs3 X [] gNil3 := by
  refine ⟨PGs.weak pgs_nil fun v σ H Q ⟨m, h, ρ, d, R, S, r, q⟩ => ?_, fun d ρ h Q Q' w q => ?_⟩
  · cases r with
    | nil => exact ⟨rfl, q m H σ .refl R S⟩
    | cons a b => exact q.elim
  · cases d with
    | nil => exact w _ _ q
    | cons a b => exact q
theorem gs3_cons {e : Expr} {es : List Expr} {g : G3} {r : Gs3} (h1 : PG3 X e g) (h2 : PGs3 X es r)
    (hs : (assignEach (e :: es) X.env).map (·.2) = assign e X.env :: (assignEach es X.env).map (·.2) := by rfl) : PGs3 X (e :: es) (gCons3 g r) := by
  refine ⟨PGs.weak (pgs_cons h1.pe h2.pe hs) fun v σ H Q ⟨m, h, ρ, d, R, S, rd, q⟩ => ?_, fun d ρ h Q Q' w q => ?_⟩
  · cases rd with
    | nil => exact q.elim
    | cons a b =>
      refine ⟨_, _, rfl, m, h, ρ, _, R, S, a, h1.mono _ _ _ _ _ (fun ρ' h' q' m' H' σ' s R' S' => ?_) q⟩
      exact ⟨m', h', ρ', _, R', S', b.step R s, h2.mono _ _ _ _ _ (fun ρ2 h2 q2 => UpS.step s q2) q'⟩
  · cases d with
    | nil => exact q
    | cons a b => exact h1.mono _ _ _ _ _ (fun _ _ q => h2.mono _ _ _ _ _ w q) q
def gTup3 (n : Nat) (g : Gs3) : G3 := fun d ρ h Q => match d with
  | .tup xs => xs.length = n ∧ g xs ρ h Q
  | _ => False
theorem g3_tup {es : List Expr} {k : Nat} {g : Gs3} {n : Nat} {pos : Pos} (hc : X.calm = true) (h : PGs3 X es g)
    (hn : (assignEach es X.env).length = n := by rfl) (hst : (assignEach es X.env).findIdx? (·.1) = none := by rfl) : PG3 X (.Tuple es k pos) (gTup3 n g) := by
  refine ⟨PG.weak (pg_tup hc h.pe hn hst) fun v σ H Q ⟨m, st, ρ, d, R, S, rd, q⟩ => ?_, fun d ρ st Q Q' w q => ?_⟩
  · cases rd with
    | tup sq r => exact ⟨_, _, rfl, TH sq, by rw [← r.length]; exact q.1, m, st, ρ, _, R, S, r, q.2⟩
    | _ => exact q.elim
  · cases d with
    | tup xs => exact ⟨q.1, h.mono _ _ _ _ _ w q.2⟩
    | _ => exact q
/-- target = value -/
def cAsg (te : E3) (g : G3) : C3 := fun D ρ h => te ρ h fun x h1 => g x ρ h1 D.nx
theorem c3_asg {tg e : Expr} {te : E3} {g : G3} {pos : Pos} (he : PE3 X e te) (hg : PG3 X tg g) (hs : swapsWithSole [tg] e pos.line X.env = pure false := by rfl) (hw : swappedStores [tg] e X.env = pure none := by rfl)
    (h1 : (assignEach [tg] X.env).map (·.2) = [assign tg X.env] := by rfl) : PC3 X (.Assign [tg] e pos) (cAsg te g) := by
  refine ⟨PS.weak (ps_asg he.pe hg.pe hs hw h1) fun D σ H ⟨m, h, ρ, R, S, q⟩ => ?_, fun D D' ρ h w q => he.mono _ _ _ _ (fun _ _ q => hg.mono _ _ _ _ _ w.nx q) q⟩
  refine LE.bind he.mono R S q fun m1 H1 v x h1 s1 R1 rx S1 q1 => ?_
  exact ⟨m1, h1, ρ, x, R1, S1, rx, hg.mono _ _ _ _ _ (fun _ _ q => UpS.step s1 q) q1⟩
/-- name = value -/
theorem c3_set (i : Nat) {x : Str} {e : Expr} {te : E3} {pos pos' : Pos} (hN : X.N.Nodup) (he : PE3 X e te) (hi : X.N[i]? = some x := by rfl) (hx : Loc X.env.scope x := by first | exact Or.inl rfl | exact Or.inr rfl) (hs : swapsWith e (some (.Name x pos')) pos.line X.env = pure false := by rfl)
    (hf : X.fn x = true ∨ X.env.scope.names.lookup x = some .local := by first | exact .inl rfl | exact .inr rfl | assumption) : PC3 X (.Assign [.Name x pos'] e pos) (cAsg te (gN i)) := by
  refine ⟨PS.weak (ps_set hN hi hx he.pe hs hf) fun D σ H ⟨m, h, ρ, R, S, q⟩ => ?_, fun D D' ρ h w q => he.mono _ _ _ _ (fun _ _ q => w.nx _ _ q) q⟩
  refine LE.bind he.mono R S q fun m1 H1 v x h1 s1 R1 rx S1 q1 => ?_
  exact q1 m1 H1 _ s1 R1 (S1.set rx i)
/-- a, b = x, y -/
def cPar (i j : Nat) (ta : A3) : C3 := fun D ρ h => ta ρ h fun vs h1 => match vs with
  | [v, w] => D.nx ((ρ.set i (some v)).set j (some w)) h1
  | _ => False
theorem c3_par (i j : Nat) {x y : Str} {a b : Expr} {ta : A3} {px py pt : Pos} {kt k2 pt2} {pos : Pos} (hc : X.calm = true) (hN : X.N.Nodup) (ha : PA3 X [a, b] ta) (hi : X.N[i]? = some x := by rfl) (hj : X.N[j]? = some y := by rfl) (hij : i ≠ j := by decide)
    (hx : X.env.scope.names.lookup x = some .local := by rfl) (hy : X.env.scope.names.lookup y = some .local := by rfl)
    (hw : swappedStores [.Tuple [.Name x px, .Name y py] kt pt] (.Tuple [a, b] k2 pt2) X.env = pure (some [x, y]) := by rfl)
    (hs : swapsWithSole [.Tuple [.Name x px, .Name y py] kt pt] (.Tuple [a, b] k2 pt2) pos.line X.env = pure false := by rfl) :
    PC3 X (.Assign [.Tuple [.Name x px, .Name y py] kt pt] (.Tuple [a, b] k2 pt2) pos) (cPar i j ta) := by
  refine ⟨PS.weak (ps_par hc hN hi hj hij hx hy ha.pe hw hs) fun D σ H ⟨m, h, ρ, R, S, q⟩ => ?_, fun D D' ρ h w q => ha.mono _ _ _ _ (fun vs h1 q => ?_) q⟩
  · refine LA.bind ha.mono R S q fun m1 H1 vs xs h1 s1 R1 rx S1 q1 => ?_
    match xs, rx, q1 with
    | [a, b], .cons r1 (.cons r2 .nil), q1 => exact ⟨_, _, rfl, q1 m1 H1 _ s1 R1 ((S1.set r1 i).set r2 j)⟩
  · match vs, q with
    | [a, b], q => exact w.nx _ _ q
end
end F3
/-! FC: loops, comprehensions, calls, defs. -/
namespace F3
open PySem PySem.Spec PyProof.Rows L2

/-! ### while -/
def whN (c : B3) (b : C3) (E : Ends3) : Nat → S3 → Sto → Prop
  | 0, _, _ => False
  | n + 1, ρ, h => c ρ h fun k h1 => if k = true then b { E with nx := whN c b E n, ct := whN c b E n, bk := E.nx } ρ h1 else E.nx ρ h1
def cWhile (c : B3) (b : C3) : C3 := fun E ρ h => ∃ n, whN c b E n ρ h
theorem whN_mono {c : B3} {b : C3} (mc : MonoB c) (mb : MonoC b) {E E' : Ends3} (w : EndsLe E E') : ∀ n ρ h, whN c b E n ρ h → whN c b E' n ρ h
  | 0, _, _, q => q
  | n + 1, ρ, h, q => mc _ _ _ _ (fun k h1 q1 => by
      cases k with
      | true => rw [if_pos rfl] at q1 ⊢; exact mb { E with nx := whN c b E n, ct := whN c b E n, bk := E.nx } _ _ _ ⟨whN_mono mc mb w n, w.rt, w.nx, whN_mono mc mb w n⟩ q1
      | false => rw [if_neg Bool.false_ne_true] at q1 ⊢; exact w.nx _ _ q1) q
section
variable {X : Cx} {pos : Pos}
theorem c3_while {c : Expr} {body : List Stmt} {tc : B3} {tb : C3} (hp : PassesOwn (model X.prog X.w) X.A X.env X.xe) (hc : PB3 X c tc) (hb : PCs3 X body tb) : PC3 X (.While c body [] pos) (cWhile tc tb) := by
  refine ⟨PS.weak (ps_while hp hc.pe hb.pe) fun D σ H ⟨m, h, ρ, R, S, n, q⟩ => ?_, fun E E' ρ h w ⟨n, q⟩ => ⟨n, whN_mono hc.mono hb.mono w n ρ h q⟩⟩
  refine ⟨fun k σ' H' => ∃ m' h' ρ', Step m H m' H' ∧ Rep X.K m' h' H' ∧ RelS X.K m' H' ρ' σ' ∧ whN tc tb (UpC X.K m H D) k ρ' h', ⟨n, m, h, ρ, .refl, R, S, q⟩, ?_⟩
  rintro k σ1 H1 ⟨m1, h1, ρ1, s1, R1, S1, q1⟩
  cases k with
  | zero => exact q1.elim
  | succ k =>
    refine LB.bind hc.mono R1 S1 q1 fun m2 H2 b h2 s2 R2 S2 q2 => ?_
    cases b with
    | false =>
      rw [if_neg Bool.false_ne_true] at q2 ⊢
      exact q2 m2 H2 σ1 (s1.trans s2) R2 S2
    | true =>
      rw [if_pos rfl] at q2 ⊢
      refine ⟨fun σ' H' => ∃ m' h' ρ', Step m H m' H' ∧ Rep X.K m' h' H' ∧ RelS X.K m' H' ρ' σ' ∧ whN tc tb (UpC X.K m H D) k ρ' h', fun σ' H' z => ⟨k, Nat.lt_succ_self k, z⟩, ?_⟩
      refine LC.of hb.mono R2 S2 ⟨fun ρ3 h3 q3 m3 H3 σ3 s3 R3 S3 => ?_, fun d h u => Up.step (s1.trans s2) u, fun d h u => UpS.step (s1.trans s2) u, fun ρ3 h3 q3 m3 H3 σ3 s3 R3 S3 => ?_⟩ q2
      · exact ⟨m3, h3, ρ3, s1.trans (s2.trans s3), R3, S3, q3⟩
      · exact ⟨m3, h3, ρ3, s1.trans (s2.trans s3), R3, S3, q3⟩
end

/-! ### what is walked -/
abbrev I3 := S3 → Sto → (List D → (Sto → Prop) → Sto → Prop) → Prop
structure Serves (K : PySem.W.Frag) (J : It) (items : List D) (still : Sto → Prop) (m0 : List Addr) (H0 : Hp) : Prop where
  go : ∀ m H h, Step m0 H0 m H → Rep K m h H → still h → ∀ (i : Nat) (x : D), items[i]? = some x → J.go i H ∧ ∀ v H', J.yld i H v H' → Step m H m H' ∧ Rep K m h H' ∧ RelD K m H' x v
  stop : ∀ m H h, Step m0 H0 m H → Rep K m h H → still h → ∀ i : Nat, items.length ≤ i → J.stop i H
def UpI (K : PySem.W.Frag) (m : List Addr) (H : Hp) (R : It → Hp → Prop) : List D → (Sto → Prop) → Sto → Prop := fun items still h' => ∀ m' H' J, Step m H m' H' → Rep K m' h' H' → Serves K J items still m' H' → R J H'
def LI (K : PySem.W.Frag) (t : I3) : TI := fun σ H R => ∃ m h ρ, Rep K m h H ∧ RelS K m H ρ σ ∧ t ρ h (UpI K m H R)
def MonoI (t : I3) : Prop := ∀ ρ h (Q Q' : List D → (Sto → Prop) → Sto → Prop), (∀ xs st h', Q xs st h' → Q' xs st h') → t ρ h Q → t ρ h Q'
structure PI3 (X : Cx) (tg iter : Expr) (t : I3) : Prop where
  pe : PI X tg iter (LI X.K t)
  mono : MonoI t
theorem PI.weak {X : Cx} {tg e : Expr} {t t' : TI} (p : PI X tg e t) (w : ∀ σ H Q, t' σ H Q → t σ H Q) : PI X tg e t' := ⟨fun pins s σ H Q I h => p.run pins s σ H Q I (w σ H Q h)⟩
theorem LI.bind {K : PySem.W.Frag} {m : List Addr} {H : Hp} {h : Sto} {ρ : S3} {σ : L2.St} {t : I3} (mo : MonoI t) (R : Rep K m h H) (S : RelS K m H ρ σ) {Q3 : List D → (Sto → Prop) → Sto → Prop} (q : t ρ h Q3) {Q : It → Hp → Prop}
    (k : ∀ m' H' J xs st h', Step m H m' H' → Rep K m' h' H' → Serves K J xs st m' H' → RelS K m' H' ρ σ → Q3 xs st h' → Q J H') : LI K t σ H Q :=
  ⟨m, h, ρ, R, S, mo ρ h _ _ (fun xs st h' q m' H' J s rp sv => k m' H' J xs st h' s rp sv (S.step R s) q) q⟩

/-! ### for -/
def forI (g : G3) (b : C3) (st : Sto → Prop) (E : Ends3) : List D → S3 → Sto → Prop
  | [], ρ, h => st h ∧ E.nx ρ h
  | x :: r, ρ, h => st h ∧ g x ρ h fun ρ' h' => b { E with nx := forI g b st E r, ct := forI g b st E r, bk := E.nx } ρ' h'
def cFor (it : I3) (g : G3) (b : C3) : C3 := fun E ρ h => it ρ h fun items st h1 => forI g b st E items ρ h1
theorem forI_mono {g : G3} {b : C3} (mg : ∀ d ρ h (Q Q' : S3 → Sto → Prop), (∀ ρ h, Q ρ h → Q' ρ h) → g d ρ h Q → g d ρ h Q') (mb : MonoC b) {st : Sto → Prop} {E E' : Ends3} (w : EndsLe E E') : ∀ xs ρ h, forI g b st E xs ρ h → forI g b st E' xs ρ h
  | [], _, _, q => ⟨q.1, w.nx _ _ q.2⟩
  | x :: r, ρ, h, q => ⟨q.1, mg _ _ _ _ _ (fun ρ' h' q' => mb { E with nx := forI g b st E r, ct := forI g b st E r, bk := E.nx } _ _ _ ⟨forI_mono mg mb w r, w.rt, w.nx, forI_mono mg mb w r⟩ q') q.2⟩
section
variable {X : Cx} {tg : Expr} {pos : Pos}
theorem c3_for {iter : Expr} {body : List Stmt} {it : I3} {g : G3} {tb : C3} (hp : PassesOwn (model X.prog X.w) X.A X.env X.xe) (hc : X.calm = true) (hi : PI3 X tg iter it) (hg : PG3 X tg g) (hb : PCs3 X body tb)
    (hs : ∀ x, foldedSetIterable iter X.env x = pure x := by intro _; rfl) : PC3 X (.For tg iter body [] pos) (cFor it g tb) := by
  refine ⟨PS.weak (ps_for hp hc hi.pe hg.pe hb.pe hs) fun D σ H ⟨m0, h0, ρ0, R0, S0, q⟩ => ?_, fun E E' ρ h w q => hi.mono _ _ _ _ (fun xs st h1 q1 => forI_mono hg.mono hb.mono w xs ρ h1 q1) q⟩
  refine LI.bind hi.mono R0 S0 q fun m H J items st h s0 R sv S q => ?_
  refine ⟨fun i n σ' H' => ∃ m' h' ρ', Step m H m' H' ∧ Rep X.K m' h' H' ∧ RelS X.K m' H' ρ' σ' ∧ i ≤ items.length ∧ n = items.length - i ∧ forI g tb st (UpC X.K m H D) (items.drop i) ρ' h', ⟨items.length, m, h, ρ0, .refl, R, S, Nat.zero_le _, rfl, forI_mono hg.mono hb.mono (UpC.step s0) _ _ _ q⟩, ?_⟩
  rintro i n σ1 H1 ⟨m1, h1, ρ1, s1, R1, S1, hi', hn, q1⟩
  by_cases hlt : i < items.length
  · have ed : items.drop i = items[i] :: items.drop (i + 1) := List.drop_eq_getElem_cons hlt
    rw [ed] at q1
    obtain ⟨hst, q1⟩ := q1
    obtain ⟨jg, jy⟩ := sv.go m1 H1 h1 s1 R1 hst i items[i] (List.getElem?_eq_getElem hlt)
    refine .inr ⟨jg, fun σ' H' => ∃ m' h' ρ', Step m H m' H' ∧ Rep X.K m' h' H' ∧ RelS X.K m' H' ρ' σ' ∧ forI g tb st (UpC X.K m H D) (items.drop (i + 1)) ρ' h', fun σ' H' ⟨m', h', ρ', z1, z2, z3, z4⟩ => ⟨items.length - (i + 1), by omega, m', h', ρ', z1, z2, z3, hlt, rfl, z4⟩, fun v H2 hy => ?_⟩
    obtain ⟨s2, R2, rx⟩ := jy v H2 hy
    refine ⟨m1, h1, ρ1, items[i], R2, S1.step R1 s2, rx, hg.mono _ _ _ _ _ (fun ρ3 h3 q3 m3 H3 σ3 s3 R3 S3 => ?_) q1⟩
    have s13 := s1.trans (s2.trans s3)
    exact LC.of hb.mono R3 S3 ⟨fun ρ4 h4 q4 m4 H4 σ4 s4 R4 S4 => ⟨m4, h4, ρ4, s13.trans s4, R4, S4, q4⟩, fun d h u => Up.step s13 u, fun d h u => UpS.step s13 u, fun ρ4 h4 q4 m4 H4 σ4 s4 R4 S4 => ⟨m4, h4, ρ4, s13.trans s4, R4, S4, q4⟩⟩ q3
  · have e : i = items.length := by omega
    rw [List.drop_eq_nil_of_le (by omega)] at q1
    exact .inl ⟨sv.stop m1 H1 h1 s1 R1 q1.1 i (by omega), q1.2 m1 H1 σ1 s1 R1 S1⟩
end

/-! ### the things walked -/
/-- a tuple, a list that never changes: its items; a cell: its items, while it stands still -/
def iSeq (t : E3) : I3 := fun ρ h Q => t ρ h fun d h1 => match d with
  | .tup xs => Q xs (fun _ => True) h1
  | .fl xs => Q xs (fun _ => True) h1
  | .ref n => match h1[n]? with
    | some (.lst xs) => Q xs (fun h' => h'[n]? = some (.lst xs)) h1
    | _ => False
  | _ => False
/-- a new list -/
def iNew (t : A3) : I3 := fun ρ h Q => t ρ h fun xs h1 => Q xs (fun _ => True) h1
def iRng (ta : A3) : I3 := fun ρ h Q => ta ρ h fun vs h1 => match vs with
  | [.int j] => (-(2 ^ 62) ≤ j ∧ j < 2 ^ 62) ∧ Q ((List.range j.toNat).map fun (k : Nat) => D.int k) (fun _ => True) h1
  | [.int i, .int j] => (-(2 ^ 62) ≤ i ∧ i < 2 ^ 62 ∧ -(2 ^ 62) ≤ j ∧ j < 2 ^ 62) ∧ Q ((List.range (j - i).toNat).map fun (k : Nat) => D.int (i + k)) (fun _ => True) h1
  | _ => False
section
variable {K : PySem.W.Frag} {m : List Addr} {H : Hp} {h : Sto} {a b : Addr} {vs : List V} {xs ys : List D}
/-- the list at a is to be read with these items, wherever one stands behind (m, H) and still holds -/
def StL (K : PySem.W.Frag) (a : Addr) (xs : List D) (still : Sto → Prop) (m : List Addr) (H : Hp) : Prop := ∀ m' H' h', Step m H m' H' → Rep K m' h' H' → still h' → ∃ ws, SqL K H' a ws ∧ RelDs K m' H' xs ws
def StT (K : PySem.W.Frag) (a : Addr) (xs : List D) (m : List Addr) (H : Hp) : Prop := ∀ m' H' h', Step m H m' H' → Rep K m' h' H' → ∃ ws, SqT K H' a ws ∧ RelDs K m' H' xs ws
theorem StT.of (R : Rep K m h H) (q : SqT K H a vs) (r : RelDs K m H xs vs) : StT K a xs m H := fun m' H' h' s _ => ⟨vs, SqT.step R s q, r.step R s⟩
theorem StL.fl (R : Rep K m h H) (q : SqF K H a vs) (r : RelDs K m H xs vs) {still : Sto → Prop} : StL K a xs still m H := fun m' H' h' s _ _ => ⟨vs, (SqF.step R s q).sq, r.step R s⟩
theorem StL.new (R : Rep K m h H) (q : H a = some (.lst vs)) (na : a ∉ m) (r : RelDs K m H xs vs) {still : Sto → Prop} : StL K a xs still m H := fun m' H' h' s _ _ => ⟨vs, .inl (.inl (s.keep _ _ na q)), r.step R s⟩
theorem StL.ref {n : Nat} (e : m[n]? = some a) : StL K a xs (fun h' => h'[n]? = some (.lst xs)) m H := fun m' H' h' s R st => by
  obtain ⟨ws, q, r⟩ := R.at_ n a _ (s.get e) st
  exact ⟨ws, .inl (.inl q), r⟩
theorem serves_list {still : Sto → Prop} (sq : StL K a xs still m H) : Serves K (Itl K a) xs still m H := by
  refine ⟨fun m1 H1 h1 s1 R1 st i x hx => ?_, fun m1 H1 h1 s1 R1 st i hi => ?_⟩
  · obtain ⟨ws, q, r⟩ := sq m1 H1 h1 s1 R1 st
    obtain ⟨v, ev, rv⟩ := r.get hx
    refine ⟨⟨ws, v, q, ev⟩, fun v' H' ⟨e, f⟩ => ?_⟩
    subst e
    have e2 := f ws q
    rw [ev] at e2; cases e2
    exact ⟨.refl, R1, rv⟩
  · obtain ⟨ws, q, r⟩ := sq m1 H1 h1 s1 R1 st
    exact ⟨ws, q, by rw [← r.length]; exact hi⟩
theorem serves_tup (sq : StT K a xs m H) : Serves K (Itt K a) xs (fun _ => True) m H := by
  refine ⟨fun m1 H1 h1 s1 R1 st i x hx => ?_, fun m1 H1 h1 s1 R1 st i hi => ?_⟩
  · obtain ⟨ws, q, r⟩ := sq m1 H1 h1 s1 R1
    obtain ⟨v, ev, rv⟩ := r.get hx
    refine ⟨⟨ws, v, q, ev⟩, fun v' H' ⟨e, f⟩ => ?_⟩
    subst e
    have e2 := f ws q
    rw [ev] at e2; cases e2
    exact ⟨.refl, R1, rv⟩
  · obtain ⟨ws, q, r⟩ := sq m1 H1 h1 s1 R1
    exact ⟨ws, q, by rw [← r.length]; exact hi⟩
theorem serves_range (lo : Int) (n : Nat) : Serves K (Itr lo n) ((List.range n).map fun (k : Nat) => D.int (lo + k)) (fun _ => True) m H := by
  refine ⟨fun m1 H1 h1 s1 R1 st i x hx => ?_, fun m1 H1 h1 s1 R1 st i hi => ?_⟩
  · have hl : i < n := by
      have := (List.getElem?_eq_some_iff.mp hx).1
      simpa using this
    refine ⟨hl, fun v' H' ⟨e, f⟩ => ?_⟩
    subst e; subst f
    rw [List.getElem?_map, List.getElem?_range hl] at hx
    cases hx
    exact ⟨.refl, R1, .int _⟩
  · show n ≤ i
    simpa using hi
theorem serves_enum {still : Sto → Prop} (sq : StL K a xs still m H) : Serves K (Ite K a) (xs.mapIdx fun i x => D.tup [.int i, x]) still m H := by
  refine ⟨fun m1 H1 h1 s1 R1 st i x hx => ?_, fun m1 H1 h1 s1 R1 st i hi => ?_⟩
  · obtain ⟨ws, q, r⟩ := sq m1 H1 h1 s1 R1 st
    rw [List.getElem?_mapIdx] at hx
    obtain ⟨y, ey, rfl⟩ := Option.map_eq_some_iff.mp hx
    obtain ⟨v, ev, rv⟩ := r.get ey
    refine ⟨⟨ws, v, q, ev⟩, fun v' H' ⟨T, x', e1, nT, e2, f⟩ => ?_⟩
    subst e1; subst e2
    have e3 := f ws q
    rw [ev] at e3; cases e3
    exact ⟨Step.lay nT, R1.lay nT, .tup (TupA.of (mk3_len (by simp)) upd_same) (.cons (.int _) (.cons (rv.step R1 (Step.lay nT)) .nil))⟩
  · obtain ⟨ws, q, r⟩ := sq m1 H1 h1 s1 R1 st
    exact ⟨ws, q, by rw [← r.length]; simpa using hi⟩
theorem serves_rev {still : Sto → Prop} {n : Nat} (hn : n = xs.length) (sq : StL K a xs still m H) : Serves K (Itv K a n) xs.reverse still m H := by
  subst hn
  refine ⟨fun m1 H1 h1 s1 R1 st i x hx => ?_, fun m1 H1 h1 s1 R1 st i hi => ?_⟩
  · obtain ⟨ws, q, r⟩ := sq m1 H1 h1 s1 R1 st
    have hl : i < xs.length := by
      have := (List.getElem?_eq_some_iff.mp hx).1
      simpa using this
    rw [List.getElem?_reverse hl] at hx
    obtain ⟨v, ev, rv⟩ := r.get hx
    refine ⟨⟨hl, ws, v, q, ev⟩, fun v' H' ⟨e, f⟩ => ?_⟩
    subst e
    have e2 := f ws q
    rw [ev] at e2; cases e2
    exact ⟨.refl, R1, rv⟩
  · show xs.length ≤ i
    simpa using hi
theorem zip_get {i : Nat} {x : D} (hx : (List.zipWith (fun x y => D.tup [x, y]) xs ys)[i]? = some x) : ∃ y z, xs[i]? = some y ∧ ys[i]? = some z ∧ x = .tup [y, z] := by
  rw [List.getElem?_zipWith] at hx
  cases e1 : xs[i]? with
  | none => rw [e1] at hx; simp at hx
  | some y =>
    cases e2 : ys[i]? with
    | none => rw [e1, e2] at hx; simp at hx
    | some z => rw [e1, e2] at hx; simp at hx; exact ⟨y, z, rfl, rfl, hx.symm⟩
theorem serves_zip {st1 st2 : Sto → Prop} (sq : StL K a xs st1 m H) (sq2 : StL K b ys st2 m H) : Serves K (Itz K a b) (List.zipWith (fun x y => D.tup [x, y]) xs ys) (fun h => st1 h ∧ st2 h) m H := by
  refine ⟨fun m1 H1 h1 s1 R1 st i x hx => ?_, fun m1 H1 h1 s1 R1 st i hi => ?_⟩
  · obtain ⟨ws, q, r⟩ := sq m1 H1 h1 s1 R1 st.1
    obtain ⟨ws2, q2, r2⟩ := sq2 m1 H1 h1 s1 R1 st.2
    obtain ⟨y, z, e1, e2, rfl⟩ := zip_get hx
    obtain ⟨v, ev, rv⟩ := r.get e1
    obtain ⟨u, eu, ru⟩ := r2.get e2
    refine ⟨⟨ws, ws2, v, u, q, q2, ev, eu⟩, fun v' H' ⟨T, x', y', e1, nT, e2, f, f2⟩ => ?_⟩
    subst e1; subst e2
    have e3 := f ws q
    rw [ev] at e3; cases e3
    have e4 := f2 ws2 q2
    rw [eu] at e4; cases e4
    exact ⟨Step.lay nT, R1.lay nT, .tup (TupA.of (mk3_len (by simp)) upd_same) (.cons (rv.step R1 (Step.lay nT)) (.cons (ru.step R1 (Step.lay nT)) .nil))⟩
  · obtain ⟨ws, q, r⟩ := sq m1 H1 h1 s1 R1 st.1
    obtain ⟨ws2, q2, r2⟩ := sq2 m1 H1 h1 s1 R1 st.2
    refine ⟨ws, ws2, q, q2, ?_⟩
    rw [← r.length, ← r2.length]
    rw [List.length_zipWith] at hi
    omega
theorem serves_zipT (sq : StT K a xs m H) (sq2 : StT K b ys m H) : Serves K (RZ.ItzT K a b) (List.zipWith (fun x y => D.tup [x, y]) xs ys) (fun _ => True) m H := by
  refine ⟨fun m1 H1 h1 s1 R1 st i x hx => ?_, fun m1 H1 h1 s1 R1 st i hi => ?_⟩
  · obtain ⟨ws, q, r⟩ := sq m1 H1 h1 s1 R1
    obtain ⟨ws2, q2, r2⟩ := sq2 m1 H1 h1 s1 R1
    obtain ⟨y, z, e1, e2, rfl⟩ := zip_get hx
    obtain ⟨v, ev, rv⟩ := r.get e1
    obtain ⟨u, eu, ru⟩ := r2.get e2
    refine ⟨⟨ws, ws2, v, u, q, q2, ev, eu⟩, fun v' H' ⟨T, x', y', e1, nT, e2, f, f2⟩ => ?_⟩
    subst e1; subst e2
    have e3 := f ws q
    rw [ev] at e3; cases e3
    have e4 := f2 ws2 q2
    rw [eu] at e4; cases e4
    exact ⟨Step.lay nT, R1.lay nT, .tup (TupA.of (mk3_len (by simp)) upd_same) (.cons (rv.step R1 (Step.lay nT)) (.cons (ru.step R1 (Step.lay nT)) .nil))⟩
  · obtain ⟨ws, q, r⟩ := sq m1 H1 h1 s1 R1
    obtain ⟨ws2, q2, r2⟩ := sq2 m1 H1 h1 s1 R1
    refine ⟨ws, ws2, q, q2, ?_⟩
    rw [← r.length, ← r2.length]
    rw [List.length_zipWith] at hi
    omega
end
theorem PI.or {X : Cx} {tg e : Expr} {t t' : TI} (p : PI X tg e t) (p' : PI X tg e t') : PI X tg e (fun σ H Q => t σ H Q ∨ t' σ H Q) := ⟨fun pins s σ H Q I h => h.elim (p.run pins s σ H Q I) (p'.run pins s σ H Q I)⟩
/-- a list or a tuple, once its value has come -/
theorem pi_any {X : Cx} {tg l : Expr} {tl : TE} (hl : PE X l tl) : PI X tg l (fun σ H R => tl σ H fun x H1 => ∃ a, x = .ref a ∧ (((∃ xs, SqL X.K H1 a xs) ∧ R (Itl X.K a) H1) ∨ ((∃ xs, SqT X.K H1 a xs) ∧ R (Itt X.K a) H1))) := by
  refine ⟨fun pins s σ H R I h => ?_⟩
  refine thn (hl.run pins s σ H _ I h) fun v s1 ⟨x, H1, I1, r1, q1⟩ => ?_
  obtain ⟨a, e, q⟩ := q1
  subst e
  cases r1
  rcases q with ⟨⟨xs, hq⟩, q⟩ | ⟨⟨xs, hq⟩, q⟩
  · obtain ⟨its, rv, p, hz⟩ := I1.list hq
    refine wpAny_pyIter_list p.isList ?_
    refine ⟨s1.heap.objs.size, [s1.heap.objs.size], _, _, H1, rfl, I1.kept (t' := s1.toks) fun b o e => Heap.get?_push_of_some _ e, turn_list a _, ⟨_, Heap.get?_push_size _ rfl, rfl, rfl⟩, fun b hb => ?_, q⟩
    have e : b = s1.heap.objs.size := by simpa using hb
    subst e
    exact I1.fpOk (Nat.le_refl _) (I1.hok.fresh (Nat.le_refl _))
  · obtain ⟨its, rv, p, hz⟩ := I1.tuple hq
    refine wpAny_pyIter_tuple (show s1.heap.IsTuple a its.toArray from p) ?_
    refine ⟨s1.heap.objs.size, [s1.heap.objs.size], _, _, H1, rfl, I1.kept (t' := s1.toks) fun b o e => Heap.get?_push_of_some _ e, turn_tuple a _, ⟨_, Heap.get?_push_size _ rfl, rfl, rfl⟩, fun b hb => ?_, q⟩
    have e : b = s1.heap.objs.size := by simpa using hb
    subst e
    exact I1.fpOk (Nat.le_refl _) (I1.hok.fresh (Nat.le_refl _))
section
variable {X : Cx} {tg : Expr}
theorem i3_seq {l : Expr} {t : E3} (hl : PE3 X l t) : PI3 X tg l (iSeq t) := by
  refine ⟨PI.weak (pi_any hl.pe) fun σ H R ⟨m, h, ρ, Rp, S, q⟩ => ?_, fun ρ h Q Q' w q => hl.mono _ _ _ _ (fun d h1 q1 => ?_) q⟩
  · refine LE.bind hl.mono Rp S q fun m1 H1 v x h1 s1 R1 rx S1 q1 => ?_
    cases rx with
    | tup sq r => exact ⟨_, rfl, .inr ⟨⟨_, TH sq⟩, q1 m1 H1 _ s1 R1 (serves_tup (.of R1 (TH sq) r))⟩⟩
    | fl sq r => exact ⟨_, rfl, .inl ⟨⟨_, sq.sq⟩, q1 m1 H1 _ s1 R1 (serves_list (.fl R1 sq r))⟩⟩
    | @ref n a e =>
      simp only at q1
      split at q1
      next xs e2 =>
        obtain ⟨ws, q, r⟩ := R1.at_ n a _ e e2
        exact ⟨_, rfl, .inl ⟨⟨ws, .inl (.inl q)⟩, q1 m1 H1 _ s1 R1 (serves_list (.ref e))⟩⟩
      next => exact q1.elim
    | _ => exact q1.elim
  · cases d with
    | tup xs => exact w _ _ _ q1
    | fl xs => exact w _ _ _ q1
    | ref n =>
      simp only at q1 ⊢
      split at q1
      · exact w _ _ _ q1
      · exact q1.elim
    | _ => exact q1
theorem i3_new {l : Expr} {t : A3} (hl : PX3 X l t) : PI3 X tg l (iNew t) := by
  refine ⟨PI.weak (pi_list hl.pe) fun σ H R ⟨m, h, ρ, Rp, S, q⟩ => ?_, fun ρ h Q Q' w q => hl.mono _ _ _ _ (fun d h1 q1 => w _ _ _ q1) q⟩
  refine LX.bind hl.mono Rp S q fun m1 H1 a vs xs h1 s1 R1 ea na hm rx S1 q1 => ?_
  exact ⟨a, rfl, ⟨vs, .inl (.inl ea)⟩, q1 m1 H1 _ s1 R1 (serves_list (.new R1 ea hm rx))⟩
theorem i3_range1 {a : Expr} {ta : A3} {p pos : Pos} (hg : Gl X "range") (hm : X.mg "range" = none) (ha : PA3 X [a] ta) (hs : starEach [a] X.env = [(false, eval a X.env)] := by rfl) : PI3 X tg (.Call (.Name "range" p) [a] [] pos) (iRng ta) := by
  refine ⟨PI.weak (pi_range1 hg hm ha.pe hs) fun σ H R ⟨m, h, ρ, Rp, S, q⟩ => ?_, fun ρ h Q Q' w q => ha.mono _ _ _ _ (fun d h1 q1 => ?_) q⟩
  · refine LA.bind ha.mono Rp S (ha.len _ _ _ q) fun m1 H1 v x h1 s1 R1 rx S1 q1 => ?_
    obtain ⟨hl, q1⟩ := q1
    match x, rx, q1, hl with
    | [.int j], .cons (.int _) .nil, q1, _ =>
      refine ⟨j, rfl, q1.1.1, q1.1.2, q1.2 m1 H1 _ s1 R1 ?_⟩
      have := serves_range (K := X.K) (m := m1) (H := H1) 0 j.toNat
      simpa using this
  · match d, q1 with
    | [.int j], q1 => exact ⟨q1.1, w _ _ _ q1.2⟩
    | [.int i, .int j], q1 => exact ⟨q1.1, w _ _ _ q1.2⟩
theorem i3_range2 {a b : Expr} {ta : A3} {p pos : Pos} (hg : Gl X "range") (hm : X.mg "range" = none) (ha : PA3 X [a, b] ta) (hs : starEach [a, b] X.env = [(false, eval a X.env), (false, eval b X.env)] := by rfl) (hs2 : starEach [b] X.env = [(false, eval b X.env)] := by rfl) : PI3 X tg (.Call (.Name "range" p) [a, b] [] pos) (iRng ta) := by
  refine ⟨PI.weak (pi_range2 hg hm ha.pe hs hs2) fun σ H R ⟨m, h, ρ, Rp, S, q⟩ => ?_, fun ρ h Q Q' w q => ha.mono _ _ _ _ (fun d h1 q1 => ?_) q⟩
  · refine LA.bind ha.mono Rp S (ha.len _ _ _ q) fun m1 H1 v x h1 s1 R1 rx S1 q1 => ?_
    obtain ⟨hl, q1⟩ := q1
    match x, rx, q1, hl with
    | [.int i, .int j], .cons (.int _) (.cons (.int _) .nil), q1, _ => exact ⟨i, j, rfl, q1.1, q1.2 m1 H1 _ s1 R1 (serves_range i _)⟩
  · match d, q1 with
    | [.int j], q1 => exact ⟨q1.1, w _ _ _ q1.2⟩
    | [.int i, .int j], q1 => exact ⟨q1.1, w _ _ _ q1.2⟩
end
/-- a thing's items, and what keeps them -/
def seqOf (d : D) (h : Sto) (Q : List D → (Sto → Prop) → Prop) : Prop := match d with
  | .fl xs => Q xs fun _ => True
  | .ref n => match h[n]? with
    | some (.lst xs) => Q xs fun h' => h'[n]? = some (.lst xs)
    | _ => False
  | _ => False
theorem seqOf_mono {d : D} {h : Sto} {Q Q' : List D → (Sto → Prop) → Prop} (w : ∀ xs st, Q xs st → Q' xs st) (q : seqOf d h Q) : seqOf d h Q' := by
  unfold seqOf at q ⊢
  cases d with
  | fl xs => exact w _ _ q
  | ref n =>
    simp only at q ⊢
    split at q
    · exact w _ _ q
    · exact q.elim
  | _ => exact q
theorem seqOf_lift {K : PySem.W.Frag} {m : List Addr} {H : Hp} {h : Sto} {d : D} {v : V} {Q : List D → (Sto → Prop) → Prop} (R : Rep K m h H) (r : RelD K m H d v) (q : seqOf d h Q) : ∃ a vs xs st, v = .ref a ∧ SqL K H a vs ∧ RelDs K m H xs vs ∧ StL K a xs st m H ∧ Q xs st := by
  cases r with
  | fl sq r => exact ⟨_, _, _, _, rfl, sq.sq, r, .fl R sq r, q⟩
  | @ref n a e =>
    unfold seqOf at q
    simp only at q
    split at q
    next xs e2 =>
      obtain ⟨ws, q', r⟩ := R.at_ n a _ e e2
      exact ⟨_, ws, xs, _, rfl, .inl (.inl q'), r, .ref e, q⟩
    next => exact q.elim
  | _ => exact q.elim
def iZip3 (ta : A3) : I3 := fun ρ h Q => ta ρ h fun vs h1 => match vs with
  | [.tup xs, .tup ys] => Q (List.zipWith (fun x y => D.tup [x, y]) xs ys) (fun _ => True) h1
  | [x, y] => seqOf x h1 fun xs s1 => seqOf y h1 fun ys s2 => Q (List.zipWith (fun x y => D.tup [x, y]) xs ys) (fun h => s1 h ∧ s2 h) h1
  | _ => False
def iEnum3 (ta : A3) : I3 := fun ρ h Q => ta ρ h fun vs h1 => match vs with
  | [x] => seqOf x h1 fun xs st => Q (xs.mapIdx fun i x => D.tup [.int i, x]) st h1
  | _ => False
def iRev3 (ta : A3) : I3 := fun ρ h Q => ta ρ h fun vs h1 => match vs with
  | [x] => seqOf x h1 fun xs st => Q xs.reverse st h1
  | _ => False
section
variable {X : Cx} {tg : Expr}
theorem i3_rev {e : Expr} {ta : A3} {p pos : Pos} (hg : Gl X "reversed") (hm : X.mg "reversed" = none) (ha : PA3 X [e] ta) (hs : starEach [e] X.env = [(false, eval e X.env)] := by rfl) : PI3 X tg (.Call (.Name "reversed" p) [e] [] pos) (iRev3 ta) := by
  refine ⟨PI.weak (pi_reversed hg hm ha.pe hs) fun σ H R ⟨m, h, ρ, Rp, S, q⟩ => ?_, fun ρ h Q Q' w q => ha.mono _ _ _ _ (fun d h1 q1 => ?_) q⟩
  · refine LA.bind ha.mono Rp S q fun m1 H1 v x h1 s1 R1 rx S1 q1 => ?_
    match x, rx, q1 with
    | [x], .cons r .nil, q1 =>
      obtain ⟨a, vs, xs, st, rfl, sq, rs, sl, q2⟩ := seqOf_lift R1 r q1
      exact ⟨a, vs, rfl, sq, q2 m1 H1 _ s1 R1 (serves_rev rs.length.symm sl)⟩
  · match d, q1 with
    | [x], q1 => exact seqOf_mono (fun xs st q => w _ _ _ q) q1
theorem i3_enum {e : Expr} {ta : A3} {p pos tpos : Pos} {elts : List Expr} {kk : Nat} (hg : Gl X "enumerate") (hm : X.mg "enumerate" = none) (ha : PA3 X [e] ta) (hs : starEach [e] X.env = [(false, eval e X.env)] := by rfl) : PI3 X (.Tuple elts kk tpos) (.Call (.Name "enumerate" p) [e] [] pos) (iEnum3 ta) := by
  refine ⟨PI.weak (pi_enum hg hm ha.pe hs) fun σ H R ⟨m, h, ρ, Rp, S, q⟩ => ?_, fun ρ h Q Q' w q => ha.mono _ _ _ _ (fun d h1 q1 => ?_) q⟩
  · refine LA.bind ha.mono Rp S q fun m1 H1 v x h1 s1 R1 rx S1 q1 => ?_
    match x, rx, q1 with
    | [x], .cons r .nil, q1 =>
      obtain ⟨a, vs, xs, st, rfl, sq, rs, sl, q2⟩ := seqOf_lift R1 r q1
      exact ⟨a, vs, rfl, sq, q2 m1 H1 _ s1 R1 (serves_enum sl)⟩
  · match d, q1 with
    | [x], q1 => exact seqOf_mono (fun xs st q => w _ _ _ q) q1
theorem i3_zip {e e2 : Expr} {ta : A3} {p pos tpos : Pos} {elts : List Expr} {kk : Nat} (hg : Gl X "zip") (hm : X.mg "zip" = none) (ha : PA3 X [e, e2] ta)
    (hs : starEach [e, e2] X.env = (false, eval e X.env) :: starEach [e2] X.env := by rfl) (hpl : (backTo pos (starEach [e2] X.env)).any (·.1) = false := by rfl) : PI3 X (.Tuple elts kk tpos) (.Call (.Name "zip" p) [e, e2] [] pos) (iZip3 ta) := by
  refine ⟨PI.weak (RZ.pi_zipA hg hm ha.pe hs hpl) fun σ H R ⟨m, h, ρ, Rp, S, q⟩ => ?_, fun ρ h Q Q' w q => ha.mono _ _ _ _ (fun d h1 q1 => ?_) q⟩
  · refine LA.bind ha.mono Rp S (ha.len _ _ _ q) fun m1 H1 v x h1 s1 R1 rx S1 q1 => ?_
    obtain ⟨hl, q1⟩ := q1
    match x, rx, hl with
    | [x, y], .cons r (.cons r2 .nil), _ =>
      by_cases hz : ∃ xs ys, x = .tup xs ∧ y = .tup ys
      · obtain ⟨xs, ys, rfl, rfl⟩ := hz
        cases r with
        | tup sq r =>
          cases r2 with
          | tup sq2 r2 => exact ⟨_, _, _, _, rfl, .inr ⟨TH sq, TH sq2, q1 m1 H1 _ s1 R1 (serves_zipT (.of R1 (TH sq) r) (.of R1 (TH sq2) r2))⟩⟩
      · have q2 : seqOf x h1 fun xs s1 => seqOf y h1 fun ys s2 => UpI X.K m H R (List.zipWith (fun x y => D.tup [x, y]) xs ys) (fun h => s1 h ∧ s2 h) h1 := by
          split at q1
          next e => simp only [List.cons.injEq] at e; exact absurd ⟨_, _, e.1, e.2.1⟩ hz
          next e => simp only [List.cons.injEq, and_true] at e; rw [e.1, e.2]; exact q1
          next e => exact absurd rfl (e x y)
        obtain ⟨a, vs, xs, st, rfl, sq, rs, sl, q3⟩ := seqOf_lift R1 r q2
        obtain ⟨b, ws, ys, st2, rfl, sq2, rs2, sl2, q4⟩ := seqOf_lift R1 r2 q3
        exact ⟨a, b, vs, ws, rfl, .inl ⟨sq, sq2, q4 m1 H1 _ s1 R1 (serves_zip sl sl2)⟩⟩
  · split at q1
    · exact w _ _ _ q1
    next x y hz => exact seqOf_mono (fun xs st q => seqOf_mono (fun ys st2 q => w _ _ _ q) q) q1
    · exact q1.elim
end
end F3
/-! FD: comprehensions, calls, defs. -/
namespace F3
open PySem PySem.Spec PyProof.Rows L2

/-! ### comprehensions -/
def wipe3 (ρ : S3) : List Nat → S3
  | [] => ρ
  | v :: vs => (wipe3 ρ vs).set v none
theorem RelS.wipes {K : PySem.W.Frag} {m : List Addr} {H : Hp} {ρ : S3} {σ : L2.St} (S : RelS K m H ρ σ) : ∀ vs : List Nat, RelS K m H (wipe3 ρ vs) (L2.wipe σ vs)
  | [] => S
  | v :: vs => (RelS.wipes S vs).wipe v none
theorem wipe_set {σ : L2.St} {x : Option V} {i : Nat} : ∀ {vs : List Nat}, i ∈ vs → L2.wipe (σ.set i x) vs = L2.wipe σ vs
  | [], h => by cases h
  | v :: vs, h => by
    show (L2.wipe (σ.set i x) vs).set v none = (L2.wipe σ vs).set v none
    by_cases hi : i ∈ vs
    · rw [wipe_set hi]
    · have hv : v = i := by
        rcases List.mem_cons.mp h with e | e
        · exact e.symm
        · exact absurd e hi
      subst hv
      have : ∀ ws : List Nat, v ∉ ws → L2.wipe (σ.set v x) ws = (L2.wipe σ ws).set v x := by
        intro ws
        induction ws with
        | nil => intro _; rfl
        | cons w ws ih =>
          intro hw
          simp only [List.mem_cons, not_or] at hw
          show (L2.wipe (σ.set v x) ws).set w none = ((L2.wipe σ ws).set w none).set v x
          rw [ih hw.2, List.set_comm _ _ hw.1]
      rw [this vs hi, List.set_set]
theorem wipe_wipe {σ : L2.St} : ∀ vs : List Nat, L2.wipe (L2.wipe σ vs) vs = L2.wipe σ vs := by
  have aux : ∀ (ws vs : List Nat), (∀ i ∈ ws, i ∈ vs) → L2.wipe (L2.wipe σ ws) vs = L2.wipe σ vs := by
    intro ws vs
    induction ws with
    | nil => intro _; rfl
    | cons w ws ih =>
      intro h
      show L2.wipe ((L2.wipe σ ws).set w none) vs = _
      rw [wipe_set (h w List.mem_cons_self)]
      exact ih fun i hi => h i (List.mem_cons_of_mem _ hi)
  exact fun vs => aux vs vs fun _ h => h
/-- a target that stores at the comprehension's own places alone -/
def CompG (K : PySem.W.Frag) (vs : List Nat) (gV : TG) (g : G3) : Prop := ∀ m h H ρ σ d v (Q3 : S3 → Sto → Prop), Rep K m h H → RelS K m H ρ σ → RelD K m H d v → g d ρ h Q3 →
  ∀ Q : L2.St → Hp → Prop, (∀ σ2 ρ2, L2.wipe σ2 vs = L2.wipe σ vs → RelS K m H ρ2 σ2 → Q3 ρ2 h → Q σ2 H) → gV v σ H Q
def CompGs (K : PySem.W.Frag) (vs : List Nat) (gV : TGs) (g : Gs3) : Prop := ∀ m h H ρ σ d v (Q3 : S3 → Sto → Prop), Rep K m h H → RelS K m H ρ σ → RelDs K m H d v → g d ρ h Q3 →
  ∀ Q : L2.St → Hp → Prop, (∀ σ2 ρ2, L2.wipe σ2 vs = L2.wipe σ vs → RelS K m H ρ2 σ2 → Q3 ρ2 h → Q σ2 H) → gV v σ H Q
theorem cg_n {K : PySem.W.Frag} {vs : List Nat} {i : Nat} (hi : i ∈ vs := by decide) : CompG K vs (gName i) (gN i) := fun m h H ρ σ d v Q3 R S r q Q w => w _ _ (wipe_set hi) (S.set r i) q
theorem cg_nil {K : PySem.W.Frag} {vs : List Nat} : CompGs K vs gNil gNil3 := fun m h H ρ σ d v Q3 R S r q Q w => by
  cases r with
  | nil => exact ⟨rfl, w _ _ rfl S q⟩
  | cons a b => exact q.elim
theorem cg_cons {K : PySem.W.Frag} {vs : List Nat} {gV : TG} {g : G3} {gsV : TGs} {gs : Gs3} (h1 : CompG K vs gV g) (h2 : CompGs K vs gsV gs) : CompGs K vs (gCons gV gsV) (gCons3 g gs) := fun m h H ρ σ d v Q3 R S r q Q w => by
  cases r with
  | nil => exact q.elim
  | cons a b =>
    refine ⟨_, _, rfl, h1 m h H ρ σ _ _ _ R S a q _ fun σ2 ρ2 e S2 q2 => ?_⟩
    exact h2 m h H ρ2 σ2 _ _ Q3 R S2 b q2 _ fun σ3 ρ3 e3 S3 q3 => w σ3 ρ3 (e3.trans e) S3 q3
theorem cg_tup {K : PySem.W.Frag} {vs : List Nat} {n : Nat} {gsV : TGs} {gs : Gs3} (h2 : CompGs K vs gsV gs) : CompG K vs (gTup K n gsV) (gTup3 n gs) := fun m h H ρ σ d v Q3 R S r q Q w => by
  cases r with
  | tup sq r => exact ⟨_, _, rfl, TH sq, by rw [← r.length]; exact q.1, h2 m h H ρ σ _ _ Q3 R S r q.2 Q w⟩
  | _ => exact q.elim
def lcI (g : G3) (tt : B3) (te : E3) (st : Sto → Prop) (ρ : S3) : List D → List D → Sto → (List D → Sto → Prop) → Prop
  | [], acc, h, Q => st h ∧ Q acc h
  | x :: r, acc, h, Q => st h ∧ g x ρ h fun ρ2 h2 => tt ρ2 h2 fun b h3 => if b = true then te ρ2 h3 fun y h4 => lcI g tt te st ρ r (acc ++ [y]) h4 Q else lcI g tt te st ρ r acc h3 Q
def tLc3 (it : I3) (g : G3) (tt : B3) (te : E3) (vs : List Nat) : A3 := fun ρ h Q => it ρ h fun items st h1 => items.length ≤ 16777216 ∧ lcI g tt te st (wipe3 ρ vs) items [] h1 Q
def bYes : B3 := fun _ h Q => Q true h
/-- the ifs of a comprehension -/
structure PTs3 (X : Cx) (ifs : List Expr) (t : B3) : Prop where
  pe : PTs X ifs (LB X.K t)
  mono : MonoB t
theorem lcI_mono {g : G3} {tt : B3} {te : E3} (mg : ∀ d ρ h (Q Q' : S3 → Sto → Prop), (∀ ρ h, Q ρ h → Q' ρ h) → g d ρ h Q → g d ρ h Q') (mt : MonoB tt) (me : MonoE te) {st : Sto → Prop} {ρ : S3} {Q Q' : List D → Sto → Prop} (w : ∀ d h, Q d h → Q' d h) :
    ∀ xs acc h, lcI g tt te st ρ xs acc h Q → lcI g tt te st ρ xs acc h Q'
  | [], _, _, q => ⟨q.1, w _ _ q.2⟩
  | x :: r, acc, h, q => ⟨q.1, mg _ _ _ _ _ (fun ρ2 h2 q2 => mt _ _ _ _ (fun b h3 q3 => by
      cases b with
      | true => rw [if_pos rfl] at q3 ⊢; exact me _ _ _ _ (fun y h4 q4 => lcI_mono mg mt me w r _ _ q4) q3
      | false => rw [if_neg Bool.false_ne_true] at q3 ⊢; exact lcI_mono mg mt me w r _ _ q3) q2) q.2⟩
section
variable {K : PySem.W.Frag} {m m' : List Addr} {H H' : Hp} {h h' : Sto}
theorem Step.none (s : Step m H m' H') (R : Rep K m' h' H') {p : Addr} (hp : H' p = none) : H p = none := by
  cases z : H p with
  | none => rfl
  | some o =>
    by_cases hm : p ∈ m
    · obtain ⟨r, hr⟩ := s.pre
      exact absurd (show p ∈ m' by rw [hr]; exact List.mem_append_left _ hm) (R.nonone hp)
    · rw [s.keep p o hm z] at hp; cases hp
/-- a list that is no cell changes -/
theorem RelDs.putX (R : Rep K m h H) {p : Addr} {ys zs : List V} (e : H p = some (.lst ys)) {ds : List D} {vs : List V} (r : RelDs K m H ds vs) : RelDs K m (upd H p (.lst zs)) ds vs :=
  r.mono (fun _ _ e => e) (fun a xs q => by
    obtain ⟨o, n, q⟩ := q
    exact ⟨o, n, by rw [upd_ne (ne_of q e n.nlst)]; exact q⟩) fun a xs q => by
    rcases q with ⟨o, q⟩ | q
    · exact .inl ⟨o, by rw [upd_ne (ne_of q e (by simp))]; exact q⟩
    · exact .inr q
theorem Rep.putX (R : Rep K m h H) {p : Addr} {ys zs : List V} (e : H p = some (.lst ys)) (hp : p ∉ m) : Rep K m h (upd H p (.lst zs)) := by
  refine ⟨R.len, R.nd, fun n a c h1 h2 => ?_⟩
  have ok := R.at_ n a c h1 h2
  have ne : a ≠ p := fun z => hp (by rw [← z]; exact List.mem_of_getElem? h1)
  cases c with
  | lst xs => obtain ⟨vs, q, r⟩ := ok; exact ⟨vs, by rw [upd_ne ne]; exact q, r.putX R e⟩
  | dK xs => obtain ⟨vs, q, k, r⟩ := ok; exact ⟨vs, by rw [upd_ne ne]; exact q, k, r.putX R e⟩
  | dT xs => obtain ⟨vs, q, k, r⟩ := ok; exact ⟨vs, by rw [upd_ne ne]; exact q, k, r.putX R e⟩
  | zK o vs xs => obtain ⟨q, k, r⟩ := ok; exact ⟨by rw [upd_ne ne]; exact q, k, r.putX R e⟩
  | zT o vs xs => obtain ⟨q, k, r⟩ := ok; exact ⟨by rw [upd_ne ne]; exact q, k, r.putX R e⟩
  | ins C xs => obtain ⟨dx, vs, q, k, r⟩ := ok; exact ⟨dx, vs, by rw [upd_ne ne]; exact q, k, r.putX R e⟩
end
section
variable {X : Cx}
theorem lc_lift {it : I3} {g : G3} {gV : TG} {tt : B3} {te : E3} {vs : List Nat} (mi : MonoI it) (mg : ∀ d ρ h (Q Q' : S3 → Sto → Prop), (∀ ρ h, Q ρ h → Q' ρ h) → g d ρ h Q → g d ρ h Q') (mt : MonoB tt) (me : MonoE te) (cg : CompG X.K vs gV g)
    {σ : L2.St} {H : Hp} {Q : VK} (q : LX X.K (tLc3 it g tt te vs) σ H Q) : tLc (LI X.K it) gV (LB X.K tt) (LE X.K te) vs σ H Q := by
  obtain ⟨m0, h0, ρ0, R0, S0, q⟩ := q
  refine LI.bind mi R0 S0 q fun m H1 J items st h s0 R sv S q => ?_
  obtain ⟨hsz, q⟩ := q
  intro P hP
  have na : H P = none := s0.none R hP
  refine ⟨fun i n H' => ∃ m' h' acc ws, Step m H1 m' H' ∧ Rep X.K m' h' H' ∧ P ∉ m' ∧ H' P = some (.lst ws) ∧ RelDs X.K m' H' acc ws ∧ i ≤ items.length ∧ n = items.length - i ∧ acc.length ≤ i ∧ lcI g tt te st (wipe3 ρ0 vs) (items.drop i) acc h' (UpX X.K m0 H Q),
    ⟨items.length, m, h, [], [], Step.lay hP, R.lay hP, R.nonone hP, upd_same, .nil, Nat.zero_le _, rfl, Nat.le_refl _, q⟩, ?_⟩
  rintro i n H2 ⟨m2, h2, acc, ws, s2, R2, nP, eP, racc, hi, hn, hacc, q2⟩
  by_cases hlt : i < items.length
  · have ed : items.drop i = items[i] :: items.drop (i + 1) := List.drop_eq_getElem_cons hlt
    rw [ed] at q2
    obtain ⟨hst, q2⟩ := q2
    obtain ⟨jg, jy⟩ := sv.go m2 H2 h2 s2 R2 hst i items[i] (List.getElem?_eq_getElem hlt)
    refine .inr ⟨jg, fun H' => ∃ m' h' acc ws, Step m H1 m' H' ∧ Rep X.K m' h' H' ∧ P ∉ m' ∧ H' P = some (.lst ws) ∧ RelDs X.K m' H' acc ws ∧ acc.length ≤ i + 1 ∧ lcI g tt te st (wipe3 ρ0 vs) (items.drop (i + 1)) acc h' (UpX X.K m0 H Q),
      fun H' ⟨m', h', acc, ws, z1, z2, z3, z4, z5, z6, z7⟩ => ⟨items.length - (i + 1), by omega, m', h', acc, ws, z1, z2, z3, z4, z5, hlt, rfl, z6, z7⟩, fun v H3 hy => ?_⟩
    obtain ⟨s3, R3, rx⟩ := jy v H3 hy
    have S3 : RelS X.K m2 H3 (wipe3 ρ0 vs) (L2.wipe σ vs) := ((S.step R s2).step R2 s3).wipes vs
    refine cg m2 h2 H3 _ _ _ v _ R3 S3 rx q2 _ fun σ4 ρ4 e4 S4 q4 => ⟨e4.trans (wipe_wipe vs), ?_⟩
    have eP3 : H3 P = some (.lst ws) := s3.keep _ _ nP eP
    refine LB.bind mt R3 S4 q4 fun m5 H5 b h5 s5 R5 S5 q5 => ?_
    have nP5 : P ∉ m5 := fun z => by
      have := s5.new P z nP
      rw [eP3] at this; cases this
    have eP5 : H5 P = some (.lst ws) := s5.keep _ _ nP eP3
    cases b with
    | false =>
      rw [if_neg Bool.false_ne_true] at q5 ⊢
      exact ⟨m5, h5, acc, ws, s2.trans (s3.trans s5), R5, nP5, eP5, (racc.step R2 s3).step R3 s5, by omega, q5⟩
    | true =>
      rw [if_pos rfl] at q5 ⊢
      refine LE.bind me R5 S5 q5 fun m6 H6 y d h6 s6 R6 rd S6 q6 => ?_
      have nP6 : P ∉ m6 := fun z => by
        have := s6.new P z nP5
        rw [eP5] at this; cases this
      have eP6 : H6 P = some (.lst ws) := s6.keep _ _ nP5 eP5
      have racc6 : RelDs X.K m6 H6 acc ws := ((racc.step R2 s3).step R3 s5).step R5 s6
      have hz : ws.length < sizeLine := by
        rw [← racc.length, sizeLine_eq]
        omega
      refine ⟨ws, eP6, hz, m6, h6, acc ++ [d], ws ++ [y], ?_, R6.putX eP6 nP6, nP6, upd_same, (racc6.append (.cons rd .nil)).putX R6 eP6, by simp; omega, q6⟩
      have s26 := s2.trans (s3.trans (s5.trans s6))
      refine ⟨s26.pre, fun c o hc e => ?_, s26.new⟩
      rw [upd_ne (ne_of_none e hP)]
      exact s26.keep c o hc e
  · rw [List.drop_eq_nil_of_le (by omega)] at q2
    refine .inl ⟨sv.stop m2 H2 h2 s2 R2 q2.1 i (by omega), ?_⟩
    exact q2.2 m2 H2 P ws (s0.trans s2) R2 eP na nP racc
theorem x3_lc {elt tg iter : Expr} {ifs : List Expr} {scope : Scope} {own : List (Str × Nat)} {pos : Pos} {it : I3} {g : G3} {gV : TG} {tt : B3} {te : E3} (hc : X.calm = true) (hN : X.N.Nodup) (hi : PI3 X tg iter it) (ok : BlkOk X.N X.env.scope scope own) (cg : CompG X.K (own.map (·.2)) gV g)
    (mg : ∀ d ρ h (Q Q' : S3 → Sto → Prop), (∀ ρ h, Q ρ h → Q' ρ h) → g d ρ h Q → g d ρ h Q')
    (hg : ∀ (s : Shared) (H : Hp) (C : Addr) (cl : List (Str × Addr)) (fp : List Addr), PG (X.blk s H scope (compEnvC scope cl C X.env) fp) tg gV)
    (ht : ∀ (s : Shared) (H : Hp) (C : Addr) (cl : List (Str × Addr)) (fp : List Addr), PTs3 (X.blk s H scope (compEnvC scope cl C X.env) fp) ifs tt)
    (he : ∀ (s : Shared) (H : Hp) (C : Addr) (cl : List (Str × Addr)) (fp : List Addr), PE3 (X.blk s H scope (compEnvC scope cl C X.env) fp) elt te) (hs : ∀ x, foldedSetIterable iter X.env x = pure x := by intro _; rfl) :
    PX3 X (.ListComp elt [⟨tg, iter, ifs, 0⟩] scope pos) (tLc3 it g tt te (own.map (·.2))) := by
  have me : MonoE te := (he X.s_0 X.H_0 0 [] []).mono
  have mt : MonoB tt := (ht X.s_0 X.H_0 0 [] []).mono
  refine ⟨PE.weak (pe_lc (tt := LB X.K tt) hc hN hi.pe ok hg (fun s H C cl fp => (ht s H C cl fp).pe) (fun s H C cl fp => (he s H C cl fp).pe) hs) fun σ H Q q => lc_lift hi.mono mg mt me cg q, fun ρ h Q Q' w q => hi.mono _ _ _ _ (fun xs st h1 q1 => ⟨q1.1, lcI_mono mg mt me w _ _ _ q1.2⟩) q⟩
end
end F3
/-! FE: y = [..], calls, defs, the store made smaller behind a def, the law's end. -/
namespace F3
open PySem PySem.Spec PyProof.Rows L2

section
variable {X : Cx}
theorem MonoB.yes : MonoB bYes := fun ρ h Q Q' w q => w _ _ q
theorem pts3_nil : PTs3 X [] bYes := ⟨⟨fun pins s σ H Q I h => pts_nil.run pins s σ H Q I (by
  obtain ⟨m, st, ρ, R, S, q⟩ := h
  exact q m H .refl R)⟩, MonoB.yes⟩
theorem pts3_one {c : Expr} {t : B3} (h : PB3 X c t) : PTs3 X [c] t := ⟨pts_one h.pe, h.mono⟩
theorem c3_setLc (i : Nat) {y : Str} {py : Pos} {elt tg iter : Expr} {ifs : List Expr} {scope : Scope} {own : List (Str × Nat)} {pos spos : Pos} {it : I3} {g : G3} {gV : TG} {tt : B3} {te : E3} (hc : X.calm = true) (hN : X.N.Nodup) (hi : PI3 X tg iter it) (ok : BlkOk X.N X.env.scope scope own) (cg : CompG X.K (own.map (·.2)) gV g)
    (mg : ∀ d ρ h (Q Q' : S3 → Sto → Prop), (∀ ρ h, Q ρ h → Q' ρ h) → g d ρ h Q → g d ρ h Q')
    (hg : ∀ (s : Shared) (H : Hp) (C : Addr) (cl : List (Str × Addr)) (fp : List Addr), PG (X.blk s H scope (compEnvC scope cl C X.env) fp) tg gV)
    (ht : ∀ (s : Shared) (H : Hp) (C : Addr) (cl : List (Str × Addr)) (fp : List Addr), PTs3 (X.blk s H scope (compEnvC scope cl C X.env) fp) ifs tt)
    (he : ∀ (s : Shared) (H : Hp) (C : Addr) (cl : List (Str × Addr)) (fp : List Addr), PE3 (X.blk s H scope (compEnvC scope cl C X.env) fp) elt te) (hy : X.N[i]? = some y := by rfl) (hyl : X.env.scope.names.lookup y = some .local := by rfl)
    (hsw : swapsWith (.ListComp elt [⟨tg, iter, ifs, 0⟩] scope pos) (some (.Name y py)) spos.line X.env = pure true := by exact sw_true rfl rfl rfl (by decide +kernel)) (hs : ∀ x, foldedSetIterable iter X.env x = pure x := by intro _; rfl) :
    PC3 X (.Assign [.Name y py] (.ListComp elt [⟨tg, iter, ifs, 0⟩] scope pos) spos) (cAsg (tNew (tLc3 it g tt te (own.map (·.2)))) (gN i)) := by
  have me : MonoE te := (he X.s_0 X.H_0 0 [] []).mono
  have mt : MonoB tt := (ht X.s_0 X.H_0 0 [] []).mono
  have ma : MonoA (tLc3 it g tt te (own.map (·.2))) := fun ρ h Q Q' w q => hi.mono _ _ _ _ (fun xs st h1 q1 => ⟨q1.1, lcI_mono mg mt me w _ _ _ q1.2⟩) q
  refine ⟨PS.weak (ps_setLc (te := LE X.K te) (tt := LB X.K tt) hc hN hy hyl hsw hi.pe ok hg (fun s H C cl fp => (ht s H C cl fp).pe) (fun s H C cl fp => (he s H C cl fp).pe) hs) fun D σ H ⟨m, h, ρ, R, S, q⟩ => ?_, fun D D' ρ h w q => (MonoE.newl ma) _ _ _ _ (fun _ _ q => w.nx _ _ q) q⟩
  refine lc_lift hi.mono mg mt me cg (new_lift ma (LE.bind (MonoE.newl ma) R S q fun m1 H1 v x h1 s1 R1 rx S1 q1 => ?_))
  exact q1 m1 H1 _ s1 R1 (S1.set rx i)
end

/-! ### defs -/
abbrev X3 := Value → Sto → Prop
abbrev Sp3 := List D → Sto → DK → X3 → Prop
def UpE (K : PySem.W.Frag) (m : List Addr) (H : Hp) (E : XK) : X3 := fun c h' => ∀ m' H', Step m H m' H' → Rep K m' h' H' → E c none H'
def LSp (K : PySem.W.Frag) (sp : Sp3) : Sp := fun vs H Q E => ∃ m h ds, Rep K m h H ∧ RelDs K m H ds vs ∧ sp ds h (Up K m H Q) (UpE K m H E)
def MonoS (sp : Sp3) : Prop := ∀ ds h (Q Q' : DK) (E E' : X3), (∀ d h', Q d h' → Q' d h') → (∀ c h', E c h' → E' c h') → sp ds h Q E → sp ds h Q' E'
def start3 (n : Nat) (ds : List D) : S3 := ds.map some ++ List.replicate (n - ds.length) none
def ends3 (Q : DK) : Ends3 := ⟨fun _ h => Q .non h, Q, fun _ _ => False, fun _ _ => False⟩
theorem relS_start {K : PySem.W.Frag} {m : List Addr} {H : Hp} {ds : List D} {vs : List V} {N : List Str} (r : RelDs K m H ds vs) : RelS K m H (start3 N.length ds) (L2.start N vs) := by
  have hl := r.length
  refine ⟨by simp [start3, L2.start, hl], fun i d e => ?_⟩
  unfold start3 at e
  unfold L2.start
  by_cases hi : i < ds.length
  · rw [List.getElem?_append_left (by simpa using hi), List.getElem?_map] at e
    obtain ⟨x, hx, e2⟩ := Option.map_eq_some_iff.mp e
    cases e2
    obtain ⟨v, ev, rv⟩ := r.get hx
    exact ⟨v, by rw [List.getElem?_append_left (by simpa [← hl] using hi), List.getElem?_map, ev]; rfl, rv⟩
  · rw [List.getElem?_append_right (by simpa using hi), List.getElem?_replicate] at e
    split at e <;> cases e
/-! ### closed values, the store made smaller -/
mutual
def ClD (n : Nat) : D → Prop
  | .ref k => k < n
  | .tup xs => ClDs n xs
  | .fl xs => ClDs n xs
  | .non => True
  | .bl _ => True
  | .int _ => True
  | .str _ => True
  | .ty _ => True
  | .adr _ => True
def ClDs (n : Nat) : List D → Prop
  | [] => True
  | x :: xs => ClD n x ∧ ClDs n xs
end
def ClC (n : Nat) : Cell → Prop
  | .lst xs => ClDs n xs
  | .dK kvs => ClDs n (kvs.map (·.2))
  | .dT kvs => ClDs n (kvs.map (·.2))
  | .zK _ _ kvs => ClDs n (kvs.map (·.2))
  | .zT _ _ kvs => ClDs n (kvs.map (·.2))
  | .ins _ fs => ClDs n (fs.map (·.2))
/-- every cell refers to cells of the store alone -/
def ClS (n : Nat) (h : Sto) : Prop := ∀ c ∈ h, ClC n c
section
variable {K : PySem.W.Frag} {m : List Addr} {H : Hp}
mutual
theorem RelD.cl : ∀ {d : D} {v : V}, RelD K m H d v → ClD m.length d
  | _, _, .non => by simp only [ClD]
  | _, _, .bl _ => by simp only [ClD]
  | _, _, .int _ => by simp only [ClD]
  | _, _, .str _ => by simp only [ClD]
  | _, _, .ty _ => by simp only [ClD]
  | _, _, .adr _ => by simp only [ClD]
  | _, _, .ref e => by simp only [ClD]; exact (List.getElem?_eq_some_iff.mp e).1
  | _, _, .tup _ r => by simp only [ClD]; exact RelDs.cl r
  | _, _, .fl _ r => by simp only [ClD]; exact RelDs.cl r
theorem RelDs.cl : ∀ {d : List D} {v : List V}, RelDs K m H d v → ClDs m.length d
  | _, _, .nil => by simp only [ClDs]
  | _, _, .cons r t => by simp only [ClDs]; exact ⟨RelD.cl r, RelDs.cl t⟩
end
theorem Rep.cl {h : Sto} (R : Rep K m h H) : ClS h.length h := fun c hc => by
  obtain ⟨n, hn⟩ := List.mem_iff_getElem?.mp hc
  have hl : n < m.length := by rw [R.len]; exact (List.getElem?_eq_some_iff.mp hn).1
  have ok := R.at_ n _ c (List.getElem?_eq_getElem hl) hn
  rw [← R.len]
  cases c with
  | lst xs => obtain ⟨vs, _, r⟩ := ok; exact r.cl
  | dK xs => obtain ⟨vs, _, _, r⟩ := ok; exact r.cl
  | dT xs => obtain ⟨vs, _, _, r⟩ := ok; exact r.cl
  | zK o vs xs => obtain ⟨_, _, r⟩ := ok; exact r.cl
  | zT o vs xs => obtain ⟨_, _, r⟩ := ok; exact r.cl
  | ins C xs => obtain ⟨dx, vs, _, _, r⟩ := ok; exact r.cl
-- the values under another numbering of the cells: r tells the old number of each
mutual
inductive RenD (r : List Nat) : D → D → Prop
  | non : RenD r .non .non
  | bl (b : Bool) : RenD r (.bl b) (.bl b)
  | int (i : Int) : RenD r (.int i) (.int i)
  | str (x : Str) : RenD r (.str x) (.str x)
  | ty (n : String) : RenD r (.ty n) (.ty n)
  | adr (a : Addr) : RenD r (.adr a) (.adr a)
  | ref {i j : Nat} : r[i]? = some j → RenD r (.ref i) (.ref j)
  | tup {xs ys : List D} : RenDs r xs ys → RenD r (.tup xs) (.tup ys)
  | fl {xs ys : List D} : RenDs r xs ys → RenD r (.fl xs) (.fl ys)
inductive RenDs (r : List Nat) : List D → List D → Prop
  | nil : RenDs r [] []
  | cons {d e : D} {ds es : List D} : RenD r d e → RenDs r ds es → RenDs r (d :: ds) (e :: es)
end
mutual
theorem RenD.rel {r : List Nat} {m2 : List Addr} (hm : ∀ i j : Nat, r[i]? = some j → ∀ a, m[j]? = some a → m2[i]? = some a) : ∀ {d e : D} {v : V}, RenD r d e → RelD K m H e v → RelD K m2 H d v
  | _, _, _, .non, .non => .non
  | _, _, _, .bl _, .bl _ => .bl _
  | _, _, _, .int _, .int _ => .int _
  | _, _, _, .str _, .str _ => .str _
  | _, _, _, .ty _, .ty _ => .ty _
  | _, _, _, .adr _, .adr _ => .adr _
  | _, _, _, .ref e, .ref f => .ref (hm _ _ e _ f)
  | _, _, _, .tup e, .tup s f => .tup s (RenDs.rel hm e f)
  | _, _, _, .fl e, .fl s f => .fl s (RenDs.rel hm e f)
theorem RenDs.rel {r : List Nat} {m2 : List Addr} (hm : ∀ i j : Nat, r[i]? = some j → ∀ a, m[j]? = some a → m2[i]? = some a) : ∀ {d e : List D} {v : List V}, RenDs r d e → RelDs K m H e v → RelDs K m2 H d v
  | _, _, _, .nil, .nil => .nil
  | _, _, _, .cons e t, .cons f u => .cons (RenD.rel hm e f) (RenDs.rel hm t u)
end
mutual
theorem RenD.refl {r : List Nat} {n : Nat} (hr : ∀ i, i < n → r[i]? = some i) : ∀ {d : D}, ClD n d → RenD r d d
  | .non, _ => .non
  | .bl _, _ => .bl _
  | .int _, _ => .int _
  | .str _, _ => .str _
  | .ty _, _ => .ty _
  | .adr _, _ => .adr _
  | .ref k, h => .ref (hr k (by simpa only [ClD] using h))
  | .tup xs, h => .tup (RenDs.refl hr (by simpa only [ClD] using h))
  | .fl xs, h => .fl (RenDs.refl hr (by simpa only [ClD] using h))
theorem RenDs.refl {r : List Nat} {n : Nat} (hr : ∀ i, i < n → r[i]? = some i) : ∀ {d : List D}, ClDs n d → RenDs r d d
  | [], _ => .nil
  | x :: xs, h => by
    simp only [ClDs] at h
    exact .cons (RenD.refl hr h.1) (RenDs.refl hr h.2)
end
def RenC (r : List Nat) : Cell → Cell → Prop
  | .lst xs, .lst ys => RenDs r xs ys
  | .dK xs, .dK ys => xs.map (·.1) = ys.map (·.1) ∧ RenDs r (xs.map (·.2)) (ys.map (·.2))
  | .dT xs, .dT ys => xs.map (·.1) = ys.map (·.1) ∧ RenDs r (xs.map (·.2)) (ys.map (·.2))
  | .zK o vs xs, .zK o' vs' ys => (o = o' ∧ vs = vs') ∧ xs.map (·.1) = ys.map (·.1) ∧ RenDs r (xs.map (·.2)) (ys.map (·.2))
  | .zT o vs xs, .zT o' vs' ys => (o = o' ∧ vs = vs') ∧ xs.map (·.1) = ys.map (·.1) ∧ RenDs r (xs.map (·.2)) (ys.map (·.2))
  | .ins C xs, .ins C' ys => C = C' ∧ xs.map (·.1) = ys.map (·.1) ∧ RenDs r (xs.map (·.2)) (ys.map (·.2))
  | _, _ => False
/-- (d2, h2) is (d, h) with some cells left out and others numbered anew, the first n as they were -/
def Gc (n : Nat) (d : D) (h : Sto) (d2 : D) (h2 : Sto) : Prop := ∃ r : List Nat, r.length = h2.length ∧ r.Nodup ∧ n ≤ r.length ∧ (∀ i, i < n → r[i]? = some i) ∧ (∀ i ∈ r, i < h.length) ∧ RenD r d2 d ∧
  ∀ (i j : Nat) (c2 c : Cell), r[i]? = some j → h2[i]? = some c2 → h[j]? = some c → RenC r c2 c
theorem Gc.lift {n : Nat} {d d2 : D} {h h2 : Sto} {m0 : List Addr} {H0 : Hp} {v : V} (g : Gc n d h d2 h2) (hn : n = m0.length) (s : Step m0 H0 m H) (R : Rep K m h H) (rd : RelD K m H d v) : ∃ m2, Step m0 H0 m2 H ∧ Rep K m2 h2 H ∧ RelD K m2 H d2 v := by
  obtain ⟨r, hl, nd, hnr, hid, hlt, rn, hc⟩ := g
  have hget : ∀ j ∈ r, ∃ a, m[j]? = some a := fun j hj => ⟨_, List.getElem?_eq_getElem (by rw [R.len]; exact hlt j hj)⟩
  -- the picked addresses
  have pick : ∀ q : List Nat, (∀ j ∈ q, ∃ a, m[j]? = some a) → ∃ m2 : List Addr, m2.length = q.length ∧ ∀ i : Nat, m2[i]? = (q[i]?).bind (fun j => m[j]?) := by
    intro q
    induction q with
    | nil => exact fun _ => ⟨[], rfl, fun i => by simp⟩
    | cons j q ih =>
      intro hq
      obtain ⟨a, ha⟩ := hq j List.mem_cons_self
      obtain ⟨m2, h1, h2⟩ := ih fun k hk => hq k (List.mem_cons_of_mem _ hk)
      refine ⟨a :: m2, by simp [h1], fun i => ?_⟩
      cases i with
      | zero => simp [ha]
      | succ i => simpa using h2 i
  obtain ⟨m2, h1, h2'⟩ := pick r hget
  have hm : ∀ i j : Nat, r[i]? = some j → ∀ a, m[j]? = some a → m2[i]? = some a := fun i j e a f => by rw [h2', e]; exact f
  have mem : ∀ a ∈ m2, a ∈ m := fun a ha => by
    obtain ⟨i, hi⟩ := List.mem_iff_getElem?.mp ha
    rw [h2'] at hi
    obtain ⟨j, _, hj⟩ := Option.bind_eq_some_iff.mp hi
    exact List.mem_of_getElem? hj
  obtain ⟨rest, hr⟩ := s.pre
  refine ⟨m2, ⟨⟨m2.drop n, ?_⟩, s.keep, fun a ha hn => s.new a (mem a ha) hn⟩, ⟨by rw [h1, hl], ?_, fun i a c e1 e2 => ?_⟩, rn.rel hm rd⟩
  · have : m2.take n = m0 := by
      apply List.ext_getElem?
      intro i
      by_cases hi : i < n
      · rw [List.getElem?_take_of_lt hi, h2', hid i hi]
        show m[i]? = _
        rw [hr, List.getElem?_append_left (by omega)]
      · rw [List.getElem?_eq_none (by rw [List.length_take]; omega), List.getElem?_eq_none (by omega)]
    calc m2 = m2.take n ++ m2.drop n := (List.take_append_drop n m2).symm
      _ = m0 ++ m2.drop n := by rw [this]
  · show m2.Pairwise (· ≠ ·)
    rw [List.pairwise_iff_getElem]
    intro i j hi0 hj0 hij e
    have hi' : i < r.length := by omega
    have hj' : j < r.length := by omega
    have e1 : m2[i]? = m2[j]? := by rw [List.getElem?_eq_getElem hi0, List.getElem?_eq_getElem hj0, e]
    rw [h2', h2', List.getElem?_eq_getElem hi', List.getElem?_eq_getElem hj'] at e1
    simp only [Option.bind_some] at e1
    obtain ⟨a, ha⟩ := hget r[i] (List.getElem_mem _)
    have z := nodup_ix' R.nd ha (e1 ▸ ha)
    have z2 := (List.getElem_inj nd).mp z
    omega
  · rw [h2'] at e1
    obtain ⟨j, ej, hj⟩ := Option.bind_eq_some_iff.mp e1
    have hjl : j < h.length := hlt j (List.mem_of_getElem? ej)
    have ok := R.at_ j a _ hj (List.getElem?_eq_getElem hjl)
    have rc := hc i j c h[j] ej e2 (List.getElem?_eq_getElem hjl)
    revert ok rc
    generalize h[j] = c'
    intro ok rc
    cases c with
    | lst xs =>
      cases c' with
      | lst ys => obtain ⟨vs, q, r'⟩ := ok; exact ⟨vs, q, RenDs.rel hm rc r'⟩
      | _ => exact rc.elim
    | dK xs =>
      cases c' with
      | dK ys => obtain ⟨vs, q, k, r'⟩ := ok; exact ⟨vs, q, k.trans rc.1.symm, RenDs.rel hm rc.2 r'⟩
      | _ => exact rc.elim
    | dT xs =>
      cases c' with
      | dT ys => obtain ⟨vs, q, k, r'⟩ := ok; exact ⟨vs, q, k.trans rc.1.symm, RenDs.rel hm rc.2 r'⟩
      | _ => exact rc.elim
    | zK o vs xs =>
      cases c' with
      | zK o' vs' ys => obtain ⟨⟨rfl, rfl⟩, rc⟩ := rc; obtain ⟨q, k, r'⟩ := ok; exact ⟨q, k.trans rc.1.symm, RenDs.rel hm rc.2 r'⟩
      | _ => exact rc.elim
    | zT o vs xs =>
      cases c' with
      | zT o' vs' ys => obtain ⟨⟨rfl, rfl⟩, rc⟩ := rc; obtain ⟨q, k, r'⟩ := ok; exact ⟨q, k.trans rc.1.symm, RenDs.rel hm rc.2 r'⟩
      | _ => exact rc.elim
    | ins C xs =>
      cases c' with
      | ins C' ys => obtain ⟨dx, vs, q, k, r'⟩ := ok; exact ⟨dx, vs, by rw [rc.1]; exact q, k.trans rc.2.1.symm, RenDs.rel hm rc.2.2 r'⟩
      | _ => exact rc.elim
end

theorem Gc.refl {n : Nat} {d : D} {h : Sto} (hn : n ≤ h.length) (hd : ClD h.length d) (hs : ClS h.length h) : Gc n d h d h := by
  have hr : ∀ i, i < h.length → (List.range h.length)[i]? = some i := fun i hi => List.getElem?_range hi
  refine ⟨List.range h.length, by simp, List.nodup_range, by simpa using hn, fun i hi => hr i (by omega), fun i hi => by simpa using hi, RenD.refl hr hd, fun i j c2 c e1 e2 e3 => ?_⟩
  have hi : i < h.length := (List.getElem?_eq_some_iff.mp e2).1
  rw [hr i hi] at e1; cases e1
  rw [e2] at e3; cases e3
  have hc := hs c2 (List.mem_of_getElem? e2)
  cases c2 with
  | lst xs => exact RenDs.refl hr hc
  | dK xs => exact ⟨rfl, RenDs.refl hr hc⟩
  | dT xs => exact ⟨rfl, RenDs.refl hr hc⟩
  | zK o vs xs => exact ⟨⟨rfl, rfl⟩, rfl, RenDs.refl hr hc⟩
  | zT o vs xs => exact ⟨⟨rfl, rfl⟩, rfl, RenDs.refl hr hc⟩
  | ins C xs => exact ⟨rfl, rfl, RenDs.refl hr hc⟩
theorem RenC.refl {r : List Nat} {n : Nat} (hr : ∀ i, i < n → r[i]? = some i) {c : Cell} (hc : ClC n c) : RenC r c c := by
  cases c with
  | lst xs => exact RenDs.refl hr hc
  | dK xs => exact ⟨rfl, RenDs.refl hr hc⟩
  | dT xs => exact ⟨rfl, RenDs.refl hr hc⟩
  | zK o vs xs => exact ⟨⟨rfl, rfl⟩, rfl, RenDs.refl hr hc⟩
  | zT o vs xs => exact ⟨⟨rfl, rfl⟩, rfl, RenDs.refl hr hc⟩
  | ins C xs => exact ⟨rfl, rfl, RenDs.refl hr hc⟩
/-- the cells behind the first n are left out -/
theorem Gc.tail {d : D} {h g : Sto} (hd : ClD h.length d) (hs : ClS h.length h) : Gc h.length d (h ++ g) d h := by
  have hr : ∀ i, i < h.length → (List.range h.length)[i]? = some i := fun i hi => List.getElem?_range hi
  refine ⟨List.range h.length, by simp, List.nodup_range, by simp, hr, fun i hi => ?_, RenD.refl hr hd, fun i j c2 c e1 e2 e3 => ?_⟩
  · have := List.mem_range.mp hi
    rw [List.length_append]; omega
  · have hi : i < h.length := (List.getElem?_eq_some_iff.mp e2).1
    rw [hr i hi] at e1; cases e1
    rw [List.getElem?_append_left hi] at e3
    rw [e2] at e3; cases e3
    exact RenC.refl hr (hs _ (List.mem_of_getElem? e2))
/-- of the cells behind the first n one alone is left -/
theorem Gc.one {h g : Sto} {k : Nat} {xs : List D} (hk : g[k]? = some (.lst xs)) (hx : ClDs h.length xs) (hs : ClS h.length h) : Gc h.length (.ref (h.length + k)) (h ++ g) (.ref h.length) (h ++ [.lst xs]) := by
  have hkl : k < g.length := (List.getElem?_eq_some_iff.mp hk).1
  have hr : ∀ i, i < h.length → (List.range h.length ++ [h.length + k])[i]? = some i := fun i hi => by
    rw [List.getElem?_append_left (by simpa using hi)]
    exact List.getElem?_range hi
  refine ⟨List.range h.length ++ [h.length + k], by simp, ?_, by simp, hr, fun i hi => ?_, .ref (by rw [List.getElem?_append_right (by simp)]; simp), fun i j c2 c e1 e2 e3 => ?_⟩
  · rw [List.nodup_append]
    refine ⟨List.nodup_range, by simp, fun x hx y hy => ?_⟩
    have := List.mem_range.mp hx
    have e : y = h.length + k := by simpa using hy
    omega
  · rcases List.mem_append.mp hi with z | z
    · have := List.mem_range.mp z
      rw [List.length_append]; omega
    · have e : i = h.length + k := by simpa using z
      rw [List.length_append]; omega
  · by_cases hi : i < h.length
    · rw [hr i hi] at e1; cases e1
      rw [List.getElem?_append_left hi] at e2 e3
      rw [e2] at e3; cases e3
      exact RenC.refl hr (hs _ (List.mem_of_getElem? e2))
    · have hi2 : i = h.length := by
        have := (List.getElem?_eq_some_iff.mp e2).1
        rw [List.length_append, List.length_singleton] at this
        omega
      subst hi2
      rw [List.getElem?_append_right (by simp)] at e1
      simp at e1
      subst e1
      rw [List.getElem?_append_right (by omega)] at e2 e3
      simp at e2
      subst e2
      rw [show h.length + k - h.length = k by omega, hk] at e3
      cases e3
      exact RenDs.refl hr hx

/-- what is wanted behind a def: of the value and the store, made smaller as one likes -/
def GQ (n : Nat) (Q : DK) : DK := fun d h => Q d h ∨ ∃ d2 h2, Gc n d h d2 h2 ∧ Q d2 h2
section
variable {P : Program} {w : World} {K : PySem.W.Frag} {mg : Str → Option Value} {base : Heap}
theorem fn3 {x qual : Str} {st : Stmt} {f : Addr} {fd : FuncData} {N ps : List Str} {k : Nat} {sp : Sp3} {t : C3} (F : Fun K x qual st f fd) (S : FnScope N ps (defScope st)) (len : ∀ ds h Q E, sp ds h Q E → ds.length = ps.length)
    (dv : ∀ (cdv : Value) (A : Around) (outer : List Env) (s : Shared) (H : Hp) (E : XK), Room k (A.deeper (envOfC qual (defScope st) s.heap.objs.size f cdv)) →
      PCs3 (cxOf CX0 P w K mg base N qual (defScope st) f cdv A outer s H E).nox (defBody st) t)
    (rd : ∀ ds h Q E, ClS h.length h → ClDs h.length ds → sp ds h Q E → t (ends3 (GQ h.length Q)) (start3 N.length ds) h) : FnOk P w K mg base CX0 (k + 1) f fd ps (LSp K sp) := by
  refine F.ok S (fun vs H Q E ⟨m, h, ds, R, rs, q⟩ => by rw [← rs.length]; exact len _ _ _ _ q) fun cdv A outer s H vs Q E hr ⟨m, h, ds, R, rs, q⟩ => ?_
  have d := dv cdv A outer s H E hr
  refine ⟨_, d.pe, m, h, _, R, relS_start rs, d.mono (ends3 (GQ h.length (Up K m H Q))) _ _ _ ⟨fun ρ h' g => ?_, fun v h' g => ?_, fun _ _ z => z.elim, fun _ _ z => z.elim⟩ (rd ds h _ _ R.cl (by rw [← R.len]; exact rs.cl) q)⟩
  · intro m' H' σ' s' R' S'
    rcases g with g | ⟨d2, h2, gc, g⟩
    · exact g m' H' .non s' R' .non
    · obtain ⟨m2, s2, R2, r2⟩ := gc.lift R.len.symm s' R' .non
      exact g m2 H' .non s2 R2 r2
  · intro m' H' u s' R' ru
    rcases g with g | ⟨d2, h2, gc, g⟩
    · exact g m' H' u s' R' ru
    · obtain ⟨m2, s2, R2, r2⟩ := gc.lift R.len.symm s' R' ru
      exact g m2 H' u s2 R2 r2
/-- a def of the module, by its promise -/
structure Fn3 (P : Program) (w : World) (K : PySem.W.Frag) (mg : Str → Option Value) (base : Heap) (x : Str) (k : Nat) (ps : List Str) (sp : Sp3) : Prop where
  ex : ∃ f fd, mg x = some (.ref f) ∧ PySem.W.keepIn K (.ref f) = true ∧ Binds K fd ps [] ∧ FnOk P w K mg base CX0 k f fd ps (LSp K sp)
  mono : MonoS sp
end
def tCall3 (sp : Sp3) (ta : A3) : E3 := fun ρ h Q => ta ρ h fun ds h1 => sp ds h1 Q (fun _ _ => False)
section
variable {X : Cx}
theorem e3_call {x : Str} {k n : Nat} {ps : List Str} {sp : Sp3} {e : Expr} {es : List Expr} {ta : A3} {p pos : Pos} (F : Fn3 X.prog X.w X.K X.mg X.base x k ps sp) (hr : Room n X.A) (ha : PA3 X (e :: es) ta) (hk : k ≤ n := by decide) (hg : Gl X x := by rfl)
    (hdb : (x == ("__debug__" : Str)) = false := by decide) (he : starEach (e :: es) X.env = (false, eval e X.env) :: starEach es X.env := by rfl) (hpl : (backTo pos (starEach es X.env)).any (·.1) = false := by rfl) :
    PE3 X (.Call (.Name x p) (e :: es) [] pos) (tCall3 sp ta) := by
  obtain ⟨f, fd, hm, kp, hb, F0⟩ := F.ex
  refine ⟨PE.weak (pe_call F0 (hr.mono hk) hg hm kp hb .nil pass0 ha.pe hdb he hpl) fun σ H Q ⟨m, h, ρ, R, S, q⟩ => ?_, fun ρ h Q Q' w q => ha.mono _ _ _ _ (fun ds h1 q1 => F.mono _ _ _ _ _ _ w (fun _ _ z => z) q1) q⟩
  refine LA.bind ha.mono R S q fun m1 H1 vs ds h1 s1 R1 rs S1 q1 => ?_
  rw [List.append_nil]
  exact ⟨m1, h1, ds, R1, rs, F.mono _ _ _ _ _ _ (fun d h' u => Up.step s1 u) (fun _ _ z => z.elim) q1⟩
theorem e3_call0 {x : Str} {k n : Nat} {ps : List Str} {sp : Sp3} {p pos : Pos} (F : Fn3 X.prog X.w X.K X.mg X.base x k ps sp) (hr : Room n X.A) (hk : k ≤ n := by decide) (hg : Gl X x := by rfl)
    (hdb : (x == ("__debug__" : Str)) = false := by decide) : PE3 X (.Call (.Name x p) [] [] pos) (tCall3 sp tN3) := by
  obtain ⟨f, fd, hm, kp, hb, F0⟩ := F.ex
  refine ⟨PE.weak (pe_call0 F0 (hr.mono hk) hg hm kp hb .nil pass0 hdb) fun σ H Q ⟨m, h, ρ, R, S, q⟩ => ?_, fun ρ h Q Q' w q => F.mono _ _ _ _ _ _ w (fun _ _ z => z) q⟩
  exact ⟨m, h, [], R, .nil, F.mono _ _ _ _ _ _ (fun d h' u => u) (fun _ _ z => z.elim) q⟩
end
/-- the script -/
theorem script3 {K : PySem.W.Frag} {H : Hp} {a : Addr} {ns : List Int} (o : Only H) (s : SqL K H a (ns.map V.int)) : RelD K [] H (.fl (ns.map D.int)) (.ref a) := by
  refine .fl (vs := ns.map V.int) ?_ ?_
  · rcases s with (s | ⟨b, s⟩) | s
    · rcases o a with z | ⟨b, xs, z⟩
      · rw [z] at s; cases s
      · rw [z] at s; cases s
    · exact .inl ⟨b, s⟩
    · exact .inr s
  · induction ns with
    | nil => exact .nil
    | cons n r ih => exact .cons (.int n) (by
        have : ∀ r : List Int, RelDs K [] H (r.map D.int) (r.map V.int) := fun r => by
          induction r with
          | nil => exact .nil
          | cons n r ih => exact .cons (.int n) ih
        exact this r)
end F3
/-! FF: operators, subscripts, slices, built-ins over plain values. -/
namespace F3
open PySem PySem.Spec PyProof.Rows L2

/-! ### ints -/
def addR : R3 := fun x y h Q => match x, y with
  | .int i, .int j => Q (.int (i + j)) h
  | .str a, .str b => a.length + b.length ≤ 16777216 ∧ Q (.str (a ++ b)) h
  | .tup xs, .tup ys => xs ≠ [] ∧ xs.length + ys.length ≤ 16777216 ∧ Q (.tup (xs ++ ys)) h
  | .ref a, .ref b => match h[a]?, h[b]? with
    | some (.lst xs), some (.lst ys) => xs.length + ys.length ≤ 16777216 ∧ Q (.ref h.length) (h ++ [.lst (xs ++ ys)])
    | _, _ => False
  | _, _ => False
def subR : R3 := fun x y h Q => match x, y with
  | .int i, .int j => Q (.int (i - j)) h
  | _, _ => False
def mulOk (i j : Int) : Prop := IntMulOk i j
theorem mulOk_l {i j : Int} (h : -(2 ^ 64) < i ∧ i < 2 ^ 64) : mulOk i j := .of_left (intBits_le_64 h.1 h.2)
theorem mulOk_r {i j : Int} (h : -(2 ^ 64) < j ∧ j < 2 ^ 64) : mulOk i j := .of_right (intBits_le_64 h.1 h.2)
theorem mulOk_w {i j : Int} {a b : Nat} (ha : i.natAbs < 2 ^ a) (hb : j.natAbs < 2 ^ b) (h : a + b ≤ 134217728) : mulOk i j := CMulX.ok (mulx_ok ha hb h)
def mulR : R3 := fun x y h Q => match x, y with
  | .int i, .int j => mulOk i j ∧ Q (.int (i * j)) h
  | .ref a, .int k => match h[a]? with
    | some (.lst xs) => (-(2 ^ 63) ≤ k ∧ k < 2 ^ 63 ∧ xs.length * k.toNat ≤ 16777216) ∧ Q (.ref h.length) (h ++ [.lst (List.replicate k.toNat xs).flatten])
    | _ => False
  | _, _ => False
def divOk (j : Int) : Prop := 0 < j ∧ j.natAbs.log2 < 9000
theorem divOk_of {j : Int} (h0 : 0 < j) (h : j < 2 ^ 8000) : divOk j := ⟨h0, by
  have : j.natAbs < 2 ^ 8000 := by omega
  exact Nat.lt_of_lt_of_le (PySem.Flt.log2_lt_of (by decide) this) (by decide)⟩
def divR : R3 := fun x y h Q => match x, y with
  | .int i, .int j => divOk j ∧ Q (.int (i / j)) h
  | _, _ => False
def modR : R3 := fun x y h Q => match x, y with
  | .int i, .int j => 0 < j ∧ Q (.int (i % j)) h
  | _, _ => False
def powR : R3 := fun x y h Q => match x, y with
  | .int i, .int j => (0 ≤ j ∧ j ≤ 1000000 ∧ i.natAbs < 2 ^ 64) ∧ Q (.int (i ^ j.toNat)) h
  | _, _ => False
def ltR : R3 := fun x y h Q => match x, y with
  | .int i, .int j => Q (.bl (decide (i < j))) h
  | _, _ => False
def leR : R3 := fun x y h Q => match x, y with
  | .int i, .int j => Q (.bl (decide (i ≤ j))) h
  | _, _ => False
def gtR : R3 := fun x y h Q => match x, y with
  | .int i, .int j => Q (.bl (decide (j < i))) h
  | _, _ => False
def geR : R3 := fun x y h Q => match x, y with
  | .int i, .int j => Q (.bl (decide (j ≤ i))) h
  | _, _ => False
section
variable {X : Cx}
theorem op3_int {f : Value → Value → Sem Value} {g : Int → Int → D} {gV : Int → Int → V} {C : Int → Int → Prop} (o : OpR X f (rI C gV)) (hg : ∀ i j K m H, RelD K m H (g i j) (gV i j)) {r3 : R3}
    (h1 : ∀ i j h Q, r3 (.int i) (.int j) h Q ↔ C i j ∧ Q (g i j) h) (h2 : ∀ x y h Q, r3 x y h Q → ∃ i j, x = .int i ∧ y = .int j) : Op3 X f r3 := by
  refine ⟨fun x y h Q Q' w q => ?_, _, o, fun m h H x y v u Q R rx ry q => ?_⟩
  · obtain ⟨i, j, rfl, rfl⟩ := h2 _ _ _ _ q
    rw [h1] at q ⊢
    exact ⟨q.1, w _ _ q.2⟩
  · obtain ⟨i, j, rfl, rfl⟩ := h2 _ _ _ _ q
    rw [h1] at q
    cases rx; cases ry
    exact ⟨i, j, rfl, rfl, q.1, q.2 m H _ .refl R (hg _ _ _ _ _)⟩
theorem op3_int0 {f : Value → Value → Sem Value} {g : Int → Int → D} {gV : Int → Int → V} (o : OpR X f (rI0 gV)) (hg : ∀ i j K m H, RelD K m H (g i j) (gV i j)) {r3 : R3}
    (h1 : ∀ i j h Q, r3 (.int i) (.int j) h Q ↔ Q (g i j) h) (h2 : ∀ x y h Q, r3 x y h Q → ∃ i j, x = .int i ∧ y = .int j) : Op3 X f r3 := by
  refine ⟨fun x y h Q Q' w q => ?_, _, o, fun m h H x y v u Q R rx ry q => ?_⟩
  · obtain ⟨i, j, rfl, rfl⟩ := h2 _ _ _ _ q
    rw [h1] at q ⊢
    exact w _ _ q
  · obtain ⟨i, j, rfl, rfl⟩ := h2 _ _ _ _ q
    rw [h1] at q
    cases rx; cases ry
    exact ⟨i, j, rfl, rfl, q m H _ .refl R (hg _ _ _ _ _)⟩
theorem o_sub : Op3 X (binaryOp .Sub) subR := op3_int0 op_sub (fun _ _ _ _ _ => .int _) (fun _ _ _ _ => .rfl) fun x y h Q q => by
  unfold subR at q
  split at q
  · exact ⟨_, _, rfl, rfl⟩
  · exact q.elim
theorem op_fdivX : OpR X (binaryOp .FloorDiv) (rI (fun _ j => divOk j) fun i j => .int (i / j)) := op_fdivW
theorem o_div : Op3 X (binaryOp .FloorDiv) divR := op3_int op_fdivX (fun _ _ _ _ _ => .int _) (fun _ _ _ _ => .rfl) fun x y h Q q => by
  unfold divR at q
  split at q
  · exact ⟨_, _, rfl, rfl⟩
  · exact q.elim
theorem o_mod : Op3 X (binaryOp .Mod) modR := op3_int op_mod (fun _ _ _ _ _ => .int _) (fun _ _ _ _ => .rfl) fun x y h Q q => by
  unfold modR at q
  split at q
  · exact ⟨_, _, rfl, rfl⟩
  · exact q.elim
theorem o_pow : Op3 X (binaryOp .Pow) powR := op3_int op_pow (fun _ _ _ _ _ => .int _) (fun _ _ _ _ => .rfl) fun x y h Q q => by
  unfold powR at q
  split at q
  · exact ⟨_, _, rfl, rfl⟩
  · exact q.elim
theorem o_lt : Op3 X (compareOp .Lt) ltR := op3_int0 op_lt (fun _ _ _ _ _ => .bl _) (fun _ _ _ _ => .rfl) fun x y h Q q => by
  unfold ltR at q
  split at q
  · exact ⟨_, _, rfl, rfl⟩
  · exact q.elim
theorem o_le : Op3 X (compareOp .LtE) leR := op3_int0 op_le (fun _ _ _ _ _ => .bl _) (fun _ _ _ _ => .rfl) fun x y h Q q => by
  unfold leR at q
  split at q
  · exact ⟨_, _, rfl, rfl⟩
  · exact q.elim
theorem o_gt : Op3 X (compareOp .Gt) gtR := op3_int0 op_gt (fun _ _ _ _ _ => .bl _) (fun _ _ _ _ => .rfl) fun x y h Q q => by
  unfold gtR at q
  split at q
  · exact ⟨_, _, rfl, rfl⟩
  · exact q.elim
theorem o_ge : Op3 X (compareOp .GtE) geR := op3_int0 op_ge (fun _ _ _ _ _ => .bl _) (fun _ _ _ _ => .rfl) fun x y h Q q => by
  unfold geR at q
  split at q
  · exact ⟨_, _, rfl, rfl⟩
  · exact q.elim
/-- a new list is laid as a cell -/
theorem Up.laid {K : PySem.W.Frag} {m : List Addr} {h : Sto} {H : Hp} {Q : VK} {xs : List D} {vs : List V} (R : Rep K m h H) (rs : RelDs K m H xs vs) (q : Up K m H Q (.ref h.length) (h ++ [.lst xs])) : ∀ p, H p = none → Q (.ref p) (upd H p (.lst vs)) := fun p hp =>
  q (m ++ [p]) _ (.ref p) (Step.cell hp) (R.snoc hp ⟨vs, upd_same, (rs.step R (Step.cell hp))⟩) (.ref (by rw [← R.len]; simp))
theorem RelD.inst {K : PySem.W.Frag} {m : List Addr} {h : Sto} {H : Hp} {n : Nat} {xs : List D} {v : V} (R : Rep K m h H) (r : RelD K m H (.ref n) v) (e : h[n]? = some (.lst xs)) : ∃ a vs, v = .ref a ∧ m[n]? = some a ∧ H a = some (.lst vs) ∧ RelDs K m H xs vs := by
  cases r with
  | ref ea =>
    obtain ⟨vs, q, r⟩ := R.at_ _ _ _ ea e
    exact ⟨_, vs, rfl, ea, q, r⟩
theorem o_add : Op3 X (binaryOp .Add) addR := by
  refine ⟨fun x y h Q Q' w q => ?_, _, OpR.or op_add (OpR.or op_add_str (OpR.or op_catN op_cat)), fun m h H x y v u Q R rx ry q => ?_⟩
  · unfold addR at q ⊢
    split at q
    · exact w _ _ q
    · exact ⟨q.1, w _ _ q.2⟩
    · exact ⟨q.1, q.2.1, w _ _ q.2.2⟩
    · split at q
      · exact ⟨q.1, w _ _ q.2⟩
      · exact q.elim
    · exact q.elim
  · unfold addR at q
    split at q
    · cases rx; cases ry
      exact .inl ⟨_, _, rfl, rfl, q m H _ .refl R (.int _)⟩
    · cases rx; cases ry
      exact .inr (.inl ⟨_, _, rfl, rfl, by rw [sizeLine_eq]; exact q.1, q.2 m H _ .refl R (.str _)⟩)
    · cases rx with
      | tup sq r1 =>
        cases ry with
        | tup sq2 r2 =>
          refine .inr (.inr (.inl ⟨_, _, _, _, rfl, rfl, TH sq, TH sq2, ?_, ?_, fun e => ?_, fun e p o hp no => ?_⟩))
          · intro e
            have := r1.length
            rw [e] at this
            exact q.1 (List.eq_nil_of_length_eq_zero this)
          · rw [sizeLine_eq, ← r1.length, ← r2.length]; exact q.2.1
          · have e2 := r2.length
            rw [e] at e2
            have e3 := List.eq_nil_of_length_eq_zero e2
            subst e3
            have q3 := q.2.2
            rw [List.append_nil] at q3
            exact q3 m H _ .refl R (.tup sq r1)
          · exact q.2.2 m _ (.ref p) (Step.lay hp) (R.lay hp) (.tup (TupA.new no) ((r1.append r2).step R (Step.lay hp)))
    · split at q
      next e1 e2 =>
        obtain ⟨a, vs, rfl, _, ea, r1⟩ := RelD.inst R rx e1
        obtain ⟨b, ws, rfl, _, eb, r2⟩ := RelD.inst R ry e2
        exact .inr (.inr (.inr ⟨a, b, vs, ws, rfl, rfl, ea, eb, by rw [sizeLine_eq, ← r1.length, ← r2.length]; exact q.1, Up.laid R (r1.append r2) q.2⟩))
      next => exact q.elim
    · exact q.elim
theorem op_mulY : OpR X (binaryOp .Mult) (rI mulOk fun i j => .int (i * j)) := opI fun _ _ _ _ _ _ _ hc q => mul_int q hc
theorem RelDs.rep {K : PySem.W.Frag} {m : List Addr} {H : Hp} {xs : List D} {vs : List V} (r : RelDs K m H xs vs) : ∀ n : Nat, RelDs K m H (List.replicate n xs).flatten (List.replicate n vs).flatten
  | 0 => .nil
  | n + 1 => by
    rw [List.replicate_succ, List.replicate_succ, List.flatten_cons, List.flatten_cons]
    exact r.append (RelDs.rep r n)
theorem o_mul : Op3 X (binaryOp .Mult) mulR := by
  refine ⟨fun x y h Q Q' w q => ?_, _, OpR.or op_mulY op_rep, fun m h H x y v u Q R rx ry q => ?_⟩
  · unfold mulR at q ⊢
    split at q
    · exact ⟨q.1, w _ _ q.2⟩
    · split at q
      · exact ⟨q.1, w _ _ q.2⟩
      · exact q.elim
    · exact q.elim
  · unfold mulR at q
    split at q
    · cases rx; cases ry
      exact .inl ⟨_, _, rfl, rfl, q.1, q.2 m H _ .refl R (.int _)⟩
    · split at q
      next e1 =>
        obtain ⟨a, vs, rfl, _, ea, r1⟩ := RelD.inst R rx e1
        cases ry
        exact .inr ⟨a, _, vs, rfl, rfl, ea, q.1.1, q.1.2.1, by rw [sizeLine_eq, ← r1.length]; exact q.1.2.2, Up.laid R (r1.rep _) q.2⟩
      next => exact q.elim
    · exact q.elim
/-! ### == and != -/
/-- the data of a value, lists by their cells -/
def toP (h : Sto) : Nat → D → Option PyData
  | 0, _ => none
  | n + 1, d => match d with
    | .non => some .none
    | .bl b => some (.bool b)
    | .int i => some (.int i)
    | .str x => if PyData.strOk x = true then some (.str x) else none
    | .tup xs => (xs.mapM (toP h n)).map .tuple
    | .fl xs => (xs.mapM (toP h n)).map .list
    | .ref k => match h[k]? with
      | some (.lst xs) => (xs.mapM (toP h n)).map .list
      | _ => none
    | _ => none
def eqR : R3 := fun x y h Q => match x, y with
  | .int i, .int j => Q (.bl (decide (i = j))) h
  | x, y => match toP h 9 x, toP h 9 y with
    | some p, some q => Q (.bl (PyData.eqv p q)) h
    | _, _ => False
def neR : R3 := fun x y h Q => match x, y with
  | .int i, .int j => Q (.bl (!decide (i = j))) h
  | x, y => match toP h 9 x, toP h 9 y with
    | some p, some q => Q (.bl (!PyData.eqv p q)) h
    | _, _ => False
end
section
variable {K : PySem.W.Frag} {m : List Addr} {h : Sto} {H : Hp}
theorem depthAll_le {n : Nat} : ∀ {ds : List PyData}, (∀ d ∈ ds, d.depth ≤ n) → PyData.depthAll ds ≤ n
  | [], _ => by simp [PyData.depthAll]
  | d :: ds, hd => by
    have h1 := hd d List.mem_cons_self
    have h2 := depthAll_le fun e he => hd e (List.mem_cons_of_mem _ he)
    simp only [PyData.depthAll]
    omega
theorem mapM_dp {f : D → Option PyData} (hf : ∀ d p v, f d = some p → RelD K m H d v → Dp K H v p ∧ p.canLay0 = true) : ∀ {xs : List D} {ps : List PyData} {vs : List V}, xs.mapM f = some ps → RelDs K m H xs vs → DpAll K H vs ps ∧ PyData.canLayAll0 ps = true
  | [], ps, vs, e, r => by
    cases r
    simp at e
    subst e
    exact ⟨.nil, by simp [PyData.canLayAll0]⟩
  | x :: xs, ps, vs, e, r => by
    cases r with
    | cons r1 r2 =>
      simp only [List.mapM_cons, Option.bind_eq_bind, Option.bind_eq_some_iff, Option.pure_def, Option.some.injEq] at e
      obtain ⟨p, ep, qs, eq, rfl⟩ := e
      obtain ⟨a, b⟩ := hf x p _ ep r1
      obtain ⟨c, d⟩ := mapM_dp hf eq r2
      exact ⟨.cons a c, by simp [PyData.canLayAll0, b, d]⟩
theorem toP_dp (R : Rep K m h H) : ∀ (n : Nat) (d : D) (p : PyData) (v : V), toP h n d = some p → RelD K m H d v → Dp K H v p ∧ p.canLay0 = true
  | 0, d, p, v, e, r => by simp [toP] at e
  | n + 1, d, p, v, e, r => by
    have ih := toP_dp R n
    cases r with
    | non => simp [toP] at e; subst e; exact ⟨.non, by simp [PyData.canLay0]⟩
    | bl b => simp [toP] at e; subst e; exact ⟨.bl b, by simp [PyData.canLay0]⟩
    | int b => simp [toP] at e; subst e; exact ⟨.int b, by simp [PyData.canLay0]⟩
    | str b =>
      simp only [toP] at e
      split at e
      · cases e; exact ⟨.str b, by simpa [PyData.canLay0] using (by assumption)⟩
      · cases e
    | ty b => simp [toP] at e
    | adr b => simp [toP] at e
    | tup sq r =>
      simp only [toP, Option.map_eq_some_iff] at e
      obtain ⟨ps, e, rfl⟩ := e
      obtain ⟨a, b⟩ := mapM_dp ih e r
      exact ⟨.tup (TH sq) a, by simpa [PyData.canLay0] using b⟩
    | fl sq r =>
      simp only [toP, Option.map_eq_some_iff] at e
      obtain ⟨ps, e, rfl⟩ := e
      obtain ⟨a, b⟩ := mapM_dp ih e r
      exact ⟨.lst sq.sq a, by simpa [PyData.canLay0] using b⟩
    | ref em =>
      simp only [toP] at e
      split at e
      next xs e2 =>
        simp only [Option.map_eq_some_iff] at e
        obtain ⟨ps, e, rfl⟩ := e
        obtain ⟨vs, q, r⟩ := R.at_ _ _ _ em e2
        obtain ⟨a, b⟩ := mapM_dp ih e r
        exact ⟨.lst (.inl (.inl q)) a, by simpa [PyData.canLay0] using b⟩
      next => cases e
theorem toP_depth : ∀ (n : Nat) (d : D) (p : PyData), toP h n d = some p → p.depth ≤ n
  | 0, d, p, e => by simp [toP] at e
  | n + 1, d, p, e => by
    have ih := toP_depth n
    have all : ∀ {xs : List D} {ps : List PyData}, xs.mapM (toP h n) = some ps → PyData.depthAll ps ≤ n := by
      intro xs
      induction xs with
      | nil => intro ps e; simp at e; subst e; simp [PyData.depthAll]
      | cons x xs ihx =>
        intro ps e
        simp only [List.mapM_cons, Option.bind_eq_bind, Option.bind_eq_some_iff, Option.pure_def, Option.some.injEq] at e
        obtain ⟨p, ep, qs, eq, rfl⟩ := e
        have h1 := ih x p ep
        have h2 := ihx eq
        simp only [PyData.depthAll]
        omega
    cases d with
    | non => simp [toP] at e; subst e; simp [PyData.depth]
    | bl b => simp [toP] at e; subst e; simp [PyData.depth]
    | int b => simp [toP] at e; subst e; simp [PyData.depth]
    | str b =>
      simp only [toP] at e
      split at e
      · cases e; simp [PyData.depth]
      · cases e
    | ty b => simp [toP] at e
    | adr b => simp [toP] at e
    | tup xs =>
      simp only [toP, Option.map_eq_some_iff] at e
      obtain ⟨ps, e, rfl⟩ := e
      have := all e
      simp only [PyData.depth]; omega
    | fl xs =>
      simp only [toP, Option.map_eq_some_iff] at e
      obtain ⟨ps, e, rfl⟩ := e
      have := all e
      simp only [PyData.depth]; omega
    | ref k =>
      simp only [toP] at e
      split at e
      next xs e2 =>
        simp only [Option.map_eq_some_iff] at e
        obtain ⟨ps, e, rfl⟩ := e
        have := all e
        simp only [PyData.depth]; omega
      next => cases e
theorem toP_shaped (R : Rep K m h H) {n : Nat} {d : D} {p : PyData} {v : V} (hn : n ≤ 64) (e : toP h n d = some p) (r : RelD K m H d v) : Dp K H v p ∧ SeqAt.shaped p = true := by
  obtain ⟨a, b⟩ := toP_dp R n d p v e r
  refine ⟨a, ?_⟩
  unfold SeqAt.shaped
  rw [b, decide_eq_true (Nat.le_trans (toP_depth n d p e) hn)]
  rfl
end
section
variable {X : Cx}
theorem o_eq (hu : X.A.units + 64 < cLine) : Op3 X (compareOp .Eq) eqR := by
  refine ⟨fun x y h Q Q' w q => ?_, _, op_eqD hu, fun m h H x y v u Q R rx ry q => ?_⟩
  · unfold eqR at q ⊢
    split at q
    · exact w _ _ q
    · split at q
      · exact w _ _ q
      · exact q.elim
  · unfold eqR at q
    split at q
    · cases rx; cases ry
      refine ⟨.int _, .int _, .int _, .int _, by rfl, by rfl, ?_⟩
      rw [show PyData.eqv (.int _) (.int _) = _ from by simp only [PyData.eqv]; exact Bool.beq_eq_decide_eq _ _]
      exact q m H _ .refl R (.bl _)
    · split at q
      next p1 p2 e1 e2 =>
        obtain ⟨a1, b1⟩ := toP_shaped R (by decide) e1 rx
        obtain ⟨a2, b2⟩ := toP_shaped R (by decide) e2 ry
        exact ⟨p1, p2, a1, a2, b1, b2, q m H _ .refl R (.bl _)⟩
      next => exact q.elim
theorem o_ne (hu : X.A.units + 64 < cLine) : Op3 X (compareOp .NotEq) neR := by
  refine ⟨fun x y h Q Q' w q => ?_, _, op_neD hu, fun m h H x y v u Q R rx ry q => ?_⟩
  · unfold neR at q ⊢
    split at q
    · exact w _ _ q
    · split at q
      · exact w _ _ q
      · exact q.elim
  · unfold neR at q
    split at q
    · cases rx; cases ry
      refine ⟨.int _, .int _, .int _, .int _, by rfl, by rfl, ?_⟩
      rw [show PyData.eqv (.int _) (.int _) = _ from by simp only [PyData.eqv]; exact Bool.beq_eq_decide_eq _ _]
      exact q m H _ .refl R (.bl _)
    · split at q
      next p1 p2 e1 e2 =>
        obtain ⟨a1, b1⟩ := toP_shaped R (by decide) e1 rx
        obtain ⟨a2, b2⟩ := toP_shaped R (by decide) e2 ry
        exact ⟨p1, p2, a1, a2, b1, b2, q m H _ .refl R (.bl _)⟩
      next => exact q.elim
/-! ### is, is not -/
def D.isN : D → Bool
  | .non => true
  | _ => false
def isR : R3 := fun x y h Q => match x, y with
  | x, .non => Q (.bl x.isN) h
  | .bl a, .bl b => Q (.bl (decide (a = b))) h
  | _, _ => False
def isnR : R3 := fun x y h Q => match x, y with
  | x, .non => Q (.bl (!x.isN)) h
  | .bl a, .bl b => Q (.bl (!decide (a = b))) h
  | _, _ => False
theorem RelD.isN {K : PySem.W.Frag} {m : List Addr} {H : Hp} {x : D} {v : V} (r : RelD K m H x v) : decide (v = .non) = x.isN := by
  cases r <;> first | rfl | (simp [D.isN])
theorem o_is : Op3 X (compareOp .Is) isR := by
  refine ⟨fun x y h Q Q' w q => ?_, _, OpR.or op_isN op_isBl, fun m h H x y v u Q R rx ry q => ?_⟩
  · unfold isR at q ⊢
    split at q
    · exact w _ _ q
    · exact w _ _ q
    · exact q.elim
  · unfold isR at q
    split at q
    · cases ry
      exact .inl ⟨rfl, by rw [rx.isN]; exact q m H _ .refl R (.bl _)⟩
    · cases rx; cases ry
      exact .inr ⟨_, _, rfl, rfl, q m H _ .refl R (.bl _)⟩
    · exact q.elim
theorem o_isn : Op3 X (compareOp .IsNot) isnR := by
  refine ⟨fun x y h Q Q' w q => ?_, _, OpR.or op_notN op_notBl, fun m h H x y v u Q R rx ry q => ?_⟩
  · unfold isnR at q ⊢
    split at q
    · exact w _ _ q
    · exact w _ _ q
    · exact q.elim
  · unfold isnR at q
    split at q
    · cases ry
      exact .inl ⟨rfl, by rw [rx.isN]; exact q m H _ .refl R (.bl _)⟩
    · cases rx; cases ry
      exact .inr ⟨_, _, rfl, rfl, q m H _ .refl R (.bl _)⟩
    · exact q.elim
/-! ### -x -/
def negR : U3 := fun x h Q => match x with
  | .int i => Q (.int (-i)) h
  | _ => False
theorem o_neg : Un3 X (unaryOp .USub) negR := by
  refine ⟨fun x h Q Q' w q => ?_, _, un_neg, fun m h H x v Q R rx q => ?_⟩
  · cases x <;> first | exact w _ _ q | exact q
  · cases rx <;> first | exact ⟨_, rfl, q m H _ .refl R (.int _)⟩ | exact q.elim
end
end F3
/-! FG: in, subscripts, slices, built-ins, methods. -/
namespace F3
open PySem PySem.Spec PyProof.Rows L2

/-! ### in, of flat things -/
def flatD : D → Bool
  | .non => true
  | .bl _ => true
  | .int _ => true
  | .str _ => true
  | _ => false
def eqD : D → D → Bool
  | .non, .non => true
  | .bl a, .bl b => a == b
  | .bl a, .int b => (if a then 1 else 0) == b
  | .int a, .bl b => a == (if b then 1 else 0)
  | .int a, .int b => a == b
  | .str a, .str b => a == b
  | _, _ => false
def inD (x : D) (xs : List D) : Bool := xs.any fun y => eqD y x
/-- the items of a tuple or list -/
def itemsOf (d : D) (h : Sto) : Option (List D) := match d with
  | .tup xs => some xs
  | .fl xs => some xs
  | .ref n => match h[n]? with
    | some (.lst xs) => some xs
    | _ => none
  | _ => none
/-- the items of a list -/
def listOf (d : D) (h : Sto) : Option (List D) := match d with
  | .fl xs => some xs
  | .ref n => match h[n]? with
    | some (.lst xs) => some xs
    | _ => none
  | _ => none
section
variable {K : PySem.W.Frag} {m : List Addr} {h : Sto} {H : Hp}
theorem listOf_lift {d : D} {v : V} {xs : List D} (R : Rep K m h H) (r : RelD K m H d v) (e : listOf d h = some xs) : ∃ a vs, v = .ref a ∧ SqL K H a vs ∧ RelDs K m H xs vs := by
  cases r with
  | fl sq r => simp [listOf] at e; subst e; exact ⟨_, _, rfl, sq.sq, r⟩
  | ref em =>
    simp only [listOf] at e
    split at e
    next ys e2 =>
      cases e
      obtain ⟨vs, q, r⟩ := R.at_ _ _ _ em e2
      exact ⟨_, vs, rfl, .inl (.inl q), r⟩
    next => cases e
  | _ => simp [listOf] at e
theorem RelD.flat {x : D} {v : V} (r : RelD K m H x v) (f : flatD x = true) : flatV v = true := by
  cases r <;> first | rfl | (simp [flatD] at f)
theorem RelD.eqd {x y : D} {v u : V} (r : RelD K m H x v) (q : RelD K m H y u) (f : flatD x = true) (f' : flatD y = true) : eqV v u = eqD x y := by
  cases r <;> first | (cases q <;> first | rfl | (simp [flatD] at f')) | (simp [flatD] at f)
theorem RelDs.flat : ∀ {xs : List D} {vs : List V}, RelDs K m H xs vs → xs.all flatD = true → vs.all flatV = true
  | _, _, .nil, _ => rfl
  | _, _, .cons r t, f => by
    rw [List.all_cons, Bool.and_eq_true] at f ⊢
    exact ⟨r.flat f.1, RelDs.flat t f.2⟩
theorem RelDs.ind {x : D} {v : V} (r : RelD K m H x v) (f : flatD x = true) : ∀ {xs : List D} {vs : List V}, RelDs K m H xs vs → xs.all flatD = true → inV v vs = inD x xs
  | _, _, .nil, _ => rfl
  | _, _, .cons q t, fs => by
    rw [List.all_cons, Bool.and_eq_true] at fs
    show (eqV _ v || inV v _) = (eqD _ x || inD x _)
    rw [RelDs.ind r f t fs.2, q.eqd r fs.1 f]
theorem itemsOf_lift {d : D} {v : V} {xs : List D} (R : Rep K m h H) (r : RelD K m H d v) (e : itemsOf d h = some xs) : ∃ a vs, v = .ref a ∧ (SqL K H a vs ∨ SqT K H a vs) ∧ RelDs K m H xs vs := by
  cases r with
  | tup sq r => simp [itemsOf] at e; subst e; exact ⟨_, _, rfl, .inr (TH sq), r⟩
  | fl sq r => simp [itemsOf] at e; subst e; exact ⟨_, _, rfl, .inl sq.sq, r⟩
  | ref em =>
    simp only [itemsOf] at e
    split at e
    next ys e2 =>
      cases e
      obtain ⟨vs, q, r⟩ := R.at_ _ _ _ em e2
      exact ⟨_, vs, rfl, .inl (.inl (.inl q)), r⟩
    next => cases e
  | _ => simp [itemsOf] at e
end
def inR : R3 := fun x y h Q => match itemsOf y h with
  | some xs => (flatD x = true ∧ xs.all flatD = true) ∧ Q (.bl (inD x xs)) h
  | none => False
def ninR : R3 := fun x y h Q => match itemsOf y h with
  | some xs => (flatD x = true ∧ xs.all flatD = true) ∧ Q (.bl (!inD x xs)) h
  | none => False
section
variable {X : Cx}
theorem o_in : Op3 X (compareOp .In) inR := by
  refine ⟨fun x y h Q Q' w q => ?_, _, op_in_seq, fun m h H x y v u Q R rx ry q => ?_⟩
  · unfold inR at q ⊢
    split at q
    · exact ⟨q.1, w _ _ q.2⟩
    · exact q.elim
  · unfold inR at q
    split at q
    next xs e =>
      obtain ⟨a, vs, rfl, sq, r⟩ := itemsOf_lift R ry e
      refine ⟨a, vs, rfl, sq, rx.flat q.1.1, r.flat q.1.2, ?_⟩
      show Q (.bl (inV v vs)) H
      rw [RelDs.ind rx q.1.1 r q.1.2]
      exact q.2 m H _ .refl R (.bl _)
    next => exact q.elim
theorem o_nin : Op3 X (compareOp .NotIn) ninR := by
  refine ⟨fun x y h Q Q' w q => ?_, _, op_notIn_seq, fun m h H x y v u Q R rx ry q => ?_⟩
  · unfold ninR at q ⊢
    split at q
    · exact ⟨q.1, w _ _ q.2⟩
    · exact q.elim
  · unfold ninR at q
    split at q
    next xs e =>
      obtain ⟨a, vs, rfl, sq, r⟩ := itemsOf_lift R ry e
      refine ⟨a, vs, rfl, sq, rx.flat q.1.1, r.flat q.1.2, ?_⟩
      show Q (.bl (!inV v vs)) H
      rw [RelDs.ind rx q.1.1 r q.1.2]
      exact q.2 m H _ .refl R (.bl _)
    next => exact q.elim
/-- x in [..]: the list a new one -/
def tOX (r : D → List D → Sto → DK → Prop) (ta : E3) (tb : A3) : E3 := fun ρ h Q => ta ρ h fun x h1 => tb ρ h1 fun ys h2 => r x ys h2 Q
structure OpX3 (X : Cx) (f : Value → Value → Sem Value) (r3 : D → List D → Sto → DK → Prop) : Prop where
  mono : ∀ x y h (Q Q' : DK), (∀ d h', Q d h' → Q' d h') → r3 x y h Q → r3 x y h Q'
  ok : ∃ r : R2, OpR X f r ∧ ∀ m h H x y v a vs Q, Rep X.K m h H → RelD X.K m H x v → H a = some (.lst vs) → RelDs X.K m H y vs → r3 x y h (Up X.K m H Q) → r v (.ref a) H Q
theorem MonoE.opx {r : D → List D → Sto → DK → Prop} {ta : E3} {tb : A3} (mr : ∀ x y h (Q Q' : DK), (∀ d h', Q d h' → Q' d h') → r x y h Q → r x y h Q') (ma : MonoE ta) (mb : MonoA tb) : MonoE (tOX r ta tb) := fun ρ h Q Q' w q =>
  ma _ _ _ _ (fun x h1 q1 => mb _ _ _ _ (fun y h2 q2 => mr _ _ _ _ _ w q2) q1) q
theorem opx_lift {ta : E3} {tb : A3} {r3 : D → List D → Sto → DK → Prop} {r : R2} (w : ∀ m h H x y v a vs Q, Rep X.K m h H → RelD X.K m H x v → H a = some (.lst vs) → RelDs X.K m H y vs → r3 x y h (Up X.K m H Q) → r v (.ref a) H Q)
    (mr : ∀ x y h (Q Q' : DK), (∀ d h', Q d h' → Q' d h') → r3 x y h Q → r3 x y h Q') (ma : MonoE ta) (mb : MonoA tb) {σ : L2.St} {H : Hp} {Q : VK} (q : LE X.K (tOX r3 ta tb) σ H Q) : tOp r (LE X.K ta) (LX X.K tb) σ H Q := by
  obtain ⟨m, h, ρ, R, S, q⟩ := q
  refine LE.bind ma R S q fun m1 H1 v x h1 s1 R1 rx S1 q1 => ?_
  refine LX.bind mb R1 S1 q1 fun m2 H2 a vs y h2 s2 R2 ea na hm ry S2 q2 => ?_
  exact w m2 h2 H2 x y v a vs Q R2 (rx.step R1 s2) ea ry (mr _ _ _ _ _ (fun d h' u => Up.step (s1.trans s2) u) q2)
theorem e3_cmpx {a b : Expr} {ta : E3} {tb : A3} {pos : Pos} {op : CmpOp} {r3 : D → List D → Sto → DK → Prop} (o : OpX3 X (compareOp op) r3) (ha : PE3 X a ta) (hb : PX3 X b tb) (hm : behindInMarks op b = false := by first | exact nomark _ | with_unfolding_all rfl) : PE3 X (.Compare a [op] [b] pos) (tOX r3 ta tb) := by
  obtain ⟨r, hr, w⟩ := o.ok
  exact ⟨PE.weak (pe_cmpR hr ha.pe hb.pe hm) fun σ H Q q => opx_lift w o.mono ha.mono hb.mono q, .opx o.mono ha.mono hb.mono⟩
theorem b3_cmpx {a b : Expr} {ta : E3} {tb : A3} {pos : Pos} {op : CmpOp} {r3 : D → List D → Sto → DK → Prop} (o : OpX3 X (compareOp op) r3) (ha : PE3 X a ta) (hb : PX3 X b tb) (hm : behindInMarks op b = false := by first | exact nomark _ | with_unfolding_all rfl) : PB3 X (.Compare a [op] [b] pos) (tT (tOX r3 ta tb)) := by
  obtain ⟨r, hr, w⟩ := o.ok
  have mo : MonoE (tOX r3 ta tb) := .opx o.mono ha.mono hb.mono
  exact ⟨PT.weak (pt_cmpR hr ha.pe hb.pe hm) fun σ H Q q => opx_lift w o.mono ha.mono hb.mono (tT_lift mo q), MonoB.tT mo⟩
def inX : D → List D → Sto → DK → Prop := fun x xs h Q => (flatD x = true ∧ xs.all flatD = true) ∧ Q (.bl (inD x xs)) h
def ninX : D → List D → Sto → DK → Prop := fun x xs h Q => (flatD x = true ∧ xs.all flatD = true) ∧ Q (.bl (!inD x xs)) h
theorem ox_in : OpX3 X (compareOp .In) inX := ⟨fun x y h Q Q' w q => ⟨q.1, w _ _ q.2⟩, _, op_in_seq, fun m h H x y v a vs Q R rx ea ry q => ⟨a, vs, rfl, .inl (.inl (.inl ea)), rx.flat q.1.1, ry.flat q.1.2, by
  show Q (.bl (inV v vs)) H
  rw [RelDs.ind rx q.1.1 ry q.1.2]
  exact q.2 m H _ .refl R (.bl _)⟩⟩
theorem ox_nin : OpX3 X (compareOp .NotIn) ninX := ⟨fun x y h Q Q' w q => ⟨q.1, w _ _ q.2⟩, _, op_notIn_seq, fun m h H x y v a vs Q R rx ea ry q => ⟨a, vs, rfl, .inl (.inl (.inl ea)), rx.flat q.1.1, ry.flat q.1.2, by
  show Q (.bl (!inV v vs)) H
  rw [RelDs.ind rx q.1.1 ry q.1.2]
  exact q.2 m H _ .refl R (.bl _)⟩⟩
/-- x == [..], the list a new one: of the empty one -/
def eqX (neg : Bool) : D → List D → Sto → DK → Prop := fun x ys h Q => match toP h 9 x, ys.mapM (toP h 8) with
  | some p, some qs => Q (.bl (if neg then !PyData.eqv p (.list qs) else PyData.eqv p (.list qs))) h
  | _, _ => False
theorem mapM_depth {h : Sto} {n : Nat} : ∀ {xs : List D} {ps : List PyData}, xs.mapM (toP h n) = some ps → PyData.depthAll ps ≤ n := by
  intro xs
  induction xs with
  | nil => intro ps e; simp at e; subst e; simp [PyData.depthAll]
  | cons x xs ihx =>
    intro ps e
    simp only [List.mapM_cons, Option.bind_eq_bind, Option.bind_eq_some_iff, Option.pure_def, Option.some.injEq] at e
    obtain ⟨p, ep, qs, eq, rfl⟩ := e
    have h1 := toP_depth n x p ep
    have h2 := ihx eq
    simp only [PyData.depthAll]
    omega
theorem eqX_lift {K : PySem.W.Frag} {m : List Addr} {h : Sto} {H : Hp} {y : List D} {a : Addr} {vs : List V} {qs : List PyData} (R : Rep K m h H) (ea : H a = some (.lst vs)) (ry : RelDs K m H y vs) (e : y.mapM (toP h 8) = some qs) : Dp K H (.ref a) (.list qs) ∧ SeqAt.shaped (.list qs) = true := by
  obtain ⟨a1, b1⟩ := mapM_dp (toP_dp R 8) e ry
  refine ⟨.lst (.inl (.inl ea)) a1, ?_⟩
  unfold SeqAt.shaped
  have : (PyData.list qs).depth ≤ 64 := by
    have := mapM_depth e
    simp only [PyData.depth]; omega
  rw [decide_eq_true this, Bool.and_true]
  simpa [PyData.canLay0] using b1
theorem ox_eq (hu : X.A.units + 64 < cLine) : OpX3 X (compareOp .Eq) (eqX false) := by
  refine ⟨fun x y h Q Q' w q => ?_, _, op_eqD hu, fun m h H x y v a vs Q R rx ea ry q => ?_⟩
  · unfold eqX at q ⊢
    split at q
    · exact w _ _ q
    · exact q.elim
  · unfold eqX at q
    split at q
    next p qs e1 e2 =>
      obtain ⟨a1, b1⟩ := toP_shaped R (by decide) e1 rx
      obtain ⟨a2, b2⟩ := eqX_lift R ea ry e2
      exact ⟨p, _, a1, a2, b1, b2, q m H _ .refl R (.bl _)⟩
    next => exact q.elim
theorem ox_ne (hu : X.A.units + 64 < cLine) : OpX3 X (compareOp .NotEq) (eqX true) := by
  refine ⟨fun x y h Q Q' w q => ?_, _, op_neD hu, fun m h H x y v a vs Q R rx ea ry q => ?_⟩
  · unfold eqX at q ⊢
    split at q
    · exact w _ _ q
    · exact q.elim
  · unfold eqX at q
    split at q
    next p qs e1 e2 =>
      obtain ⟨a1, b1⟩ := toP_shaped R (by decide) e1 rx
      obtain ⟨a2, b2⟩ := eqX_lift R ea ry e2
      exact ⟨p, _, a1, a2, b1, b2, q m H _ .refl R (.bl _)⟩
    next => exact q.elim
/-! ### subscripts -/
def atD (xs : List D) (i : Int) (Q : D → Prop) : Prop := match atI xs i with
  | some d => Q d
  | none => False
theorem atD_mono {xs : List D} {i : Int} {Q Q' : D → Prop} (w : ∀ d, Q d → Q' d) (q : atD xs i Q) : atD xs i Q' := by
  unfold atD at q ⊢
  split at q
  · exact w _ q
  · exact q.elim
theorem atD_lift {K : PySem.W.Frag} {m : List Addr} {H : Hp} {xs : List D} {vs : List V} {i : Int} {Q : D → Prop} (r : RelDs K m H xs vs) (q : atD xs i Q) : ∃ d v, atI vs i = some v ∧ RelD K m H d v ∧ Q d := by
  unfold atD at q
  split at q
  next d e =>
    unfold atI at e ⊢
    rw [← r.length]
    obtain ⟨j, ej, e2⟩ := Option.bind_eq_some_iff.mp e
    obtain ⟨v, ev, rv⟩ := r.get e2
    exact ⟨d, v, by rw [ej]; exact ev, rv, q⟩
  next => exact q.elim
def ixR : R3 := fun x y h Q => match y with
  | .int i => match x with
    | .str z => z.length ≤ 16777216 ∧ (match atI z.cps.toList i with
      | some c => Q (.str ⟨#[c]⟩) h
      | none => False)
    | x => match itemsOf x h with
      | some xs => atD xs i fun d => Q d h
      | none => False
  | _ => False
theorem e3_ix {a b : Expr} {ta tb : E3} {pos : Pos} (ha : PE3 X a ta) (hb : PE3 X b tb) (hs : PlainIx b := by intro _ _; rfl) : PE3 X (.Subscript a b pos) (tO ixR ta tb) := by
  have mo : ∀ x y h (Q Q' : DK), (∀ d h', Q d h' → Q' d h') → ixR x y h Q → ixR x y h Q' := fun x y h Q Q' w q => by
    unfold ixR at q ⊢
    split at q
    · split at q
      · refine ⟨q.1, ?_⟩
        have q2 := q.2
        split at q2
        · exact w _ _ q2
        · exact q2.elim
      · split at q
        · exact atD_mono (fun d q => w _ _ q) q
        · exact q.elim
    · exact q.elim
  refine ⟨PE.weak (pe_ix ix_seq ha.pe hb.pe hs) fun σ H Q q => op_lift (r := rIx X.K) (fun m h H x y v u Q R rx ry q => ?_) mo ha.mono hb.mono q, .op mo ha.mono hb.mono⟩
  unfold ixR at q
  split at q
  next i =>
    cases ry
    split at q
    · cases rx
      have q2 := q.2
      split at q2
      next c e => exact .inr (.inr ⟨_, i, c, rfl, rfl, by rw [sizeLine_eq]; exact q.1, e, q2 m H _ .refl R (.str _)⟩)
      next => exact q2.elim
    · split at q
      next xs e =>
        obtain ⟨a, vs, rfl, sq, r⟩ := itemsOf_lift R rx e
        obtain ⟨d, v, ev, rv, q⟩ := atD_lift r q
        rcases sq with sq | sq
        · exact .inl ⟨a, vs, i, v, rfl, rfl, sq, ev, q m H _ .refl R rv⟩
        · exact .inr (.inl ⟨a, vs, i, v, rfl, rfl, sq, ev, q m H _ .refl R rv⟩)
      next => exact q.elim
  next => exact q.elim
/-- [..][i] -/
def tIxX (ta : A3) (tb : E3) : E3 := fun ρ h Q => ta ρ h fun xs h1 => tb ρ h1 fun y h2 => match y with
  | .int i => atD xs i fun d => Q d h2
  | _ => False
theorem e3_ixx {a b : Expr} {ta : A3} {tb : E3} {pos : Pos} (ha : PX3 X a ta) (hb : PE3 X b tb) (hs : PlainIx b := by intro _ _; rfl) : PE3 X (.Subscript a b pos) (tIxX ta tb) := by
  refine ⟨PE.weak (pe_ix ix_list ha.pe hb.pe hs) fun σ H Q ⟨m, h, ρ, R, S, q⟩ => ?_, fun ρ h Q Q' w q => ha.mono _ _ _ _ (fun xs h1 q1 => hb.mono _ _ _ _ (fun y h2 q2 => ?_) q1) q⟩
  · refine LX.bind ha.mono R S q fun m1 H1 a vs xs h1 s1 R1 ea na hm rx S1 q1 => ?_
    refine LE.bind hb.mono R1 S1 q1 fun m2 H2 u y h2 s2 R2 ry S2 q2 => ?_
    cases ry with
    | int i =>
      obtain ⟨d, v, ev, rv, q⟩ := atD_lift (rx.step R1 s2) q2
      exact ⟨a, vs, i, v, rfl, rfl, .inl (.inl (s2.keep _ _ hm ea)), ev, q m2 H2 _ (s1.trans s2) R2 rv⟩
    | _ => exact q2.elim
  · cases y with
    | int i => exact atD_mono (fun d q => w _ _ q) q2
    | _ => exact q2
/-- o[i] = v -/
def setR (o i v : D) (h : Sto) (Q : Sto → Prop) : Prop := match o, i with
  | .ref n, .int k => match h[n]? with
    | some (.lst xs) => match ixN xs.length k with
      | some j => Q (h.set n (.lst (xs.set j v)))
      | none => False
    | _ => False
  | _, _ => False
def gSub3 (to ti : E3) : G3 := fun d ρ h Q => to ρ h fun o h1 => ti ρ h1 fun i h2 => setR o i d h2 fun h3 => Q ρ h3
theorem setR_mono {o i v : D} {h : Sto} {Q Q' : Sto → Prop} (w : ∀ h, Q h → Q' h) (q : setR o i v h Q) : setR o i v h Q' := by
  unfold setR at q ⊢
  split at q
  · split at q
    · split at q
      · exact w _ q
      · exact q.elim
    · exact q.elim
  · exact q.elim
theorem g3_sub {o i : Expr} {to ti : E3} {pos : Pos} (ho : PE3 X o to) (hi : PE3 X i ti)
    (ha : ∀ v, assign (.Subscript o i pos) X.env v = (do
      let ov ← holding [v] (eval o X.env)
      let iv ← holding [v, ov] (eval i X.env)
      standAt pos
      holding [v, ov, iv] (setItem ov iv v)
      release [v, ov, iv] []) := by intro _; rfl) : PG3 X (.Subscript o i pos) (gSub3 to ti) := by
  refine ⟨PG.weak (pg_sub ho.pe hi.pe set_list ha) fun v σ H Q ⟨m, h, ρ, d, R, S, rd, q⟩ => ?_, fun d ρ h Q Q' w q => ho.mono _ _ _ _ (fun o h1 q1 => hi.mono _ _ _ _ (fun i h2 q2 => setR_mono (fun h q => w _ _ q) q2) q1) q⟩
  refine LE.bind ho.mono R S q fun m1 H1 ov o' h1 s1 R1 ro S1 q1 => ?_
  refine LE.bind hi.mono R1 S1 q1 fun m2 H2 iv i' h2 s2 R2 ri S2 q2 => ?_
  unfold setR at q2
  split at q2
  next n k =>
    cases ri
    split at q2
    next xs e =>
      obtain ⟨a, vs, rfl, em, ea, rs⟩ := RelD.inst R2 (ro.step R1 s2) e
      split at q2
      next j ej =>
        refine ⟨a, vs, k, j, rfl, rfl, ea, by rw [← rs.length]; exact ej, ?_⟩
        have st := s1.trans s2
        have hm : a ∈ m2 := List.mem_of_getElem? em
        refine q2 m2 _ σ (st.trans (Step.put hm)) (R2.put em ⟨_, upd_same, ?_⟩) (S2.step R2 (Step.put hm))
        exact ((rs.set (rd.step R st) j).step R2 (Step.put hm))
      next => exact q2.elim
    next => exact q2.elim
  next => exact q2.elim
/-! ### slices -/
def cutD (xs : List D) (lo hi : Option Int) : List D := (xs.drop (HT.sIx xs.length 0 lo)).take (HT.sIx xs.length xs.length hi - HT.sIx xs.length 0 lo)
theorem RelDs.cut {K : PySem.W.Frag} {m : List Addr} {H : Hp} {xs : List D} {vs : List V} (r : RelDs K m H xs vs) (lo hi : Option Int) : RelDs K m H (cutD xs lo hi) (cutV vs lo hi) := by
  unfold cutD cutV
  rw [r.length]
  exact (r.drop _).take _
abbrev O3 := S3 → Sto → (Option Int → Sto → Prop) → Prop
def LO (K : PySem.W.Frag) (t : O3) : TO := fun σ H Q => ∃ m h ρ, Rep K m h H ∧ RelS K m H ρ σ ∧ t ρ h fun o h' => ∀ m' H', Step m H m' H' → Rep K m' h' H' → Q o H'
structure PO3 (X : Cx) (e : Option Expr) (t : O3) : Prop where
  pe : PO X e (LO X.K t)
  mono : ∀ ρ h (Q Q' : Option Int → Sto → Prop), (∀ o h, Q o h → Q' o h) → t ρ h Q → t ρ h Q'
def oNo : O3 := fun _ h Q => Q none h
def oSo (t : E3) : O3 := fun ρ h Q => t ρ h fun d h1 => match d with
  | .int i => Q (some i) h1
  | _ => False
theorem PO.weak {X : Cx} {e : Option Expr} {t t' : TO} (p : PO X e t) (w : ∀ σ H Q, t' σ H Q → t σ H Q) : PO X e t' := ⟨fun pins s σ H Q I h => p.run pins s σ H Q I (w σ H Q h)⟩
theorem o3_no : PO3 X none oNo := ⟨PO.weak po_none fun σ H Q ⟨m, h, ρ, R, S, q⟩ => q m H .refl R, fun ρ h Q Q' w q => w _ _ q⟩
theorem o3_so {e : Expr} {t : E3} (he : PE3 X e t) : PO3 X (some e) (oSo t) := by
  refine ⟨PO.weak (po_some he.pe) fun σ H Q ⟨m, h, ρ, R, S, q⟩ => ?_, fun ρ h Q Q' w q => he.mono _ _ _ _ (fun d h1 q1 => ?_) q⟩
  · refine LE.bind he.mono R S q fun m1 H1 u y h1 s1 R1 ry S1 q1 => ?_
    cases ry with
    | int i => exact ⟨i, rfl, q1 m1 H1 s1 R1⟩
    | _ => exact q1.elim
  · cases d <;> first | exact w _ _ q1 | exact q1
def slR (x : D) (lo hi : Option Int) (h : Sto) (Q : DK) : Prop := match x with
  | .tup xs => Q (.tup (cutD xs lo hi)) h
  | .str z => z.length ≤ 16777216 ∧ Q (.str (cutS z lo hi)) h
  | x => match listOf x h with
    | some xs => Q (.ref h.length) (h ++ [.lst (cutD xs lo hi)])
    | none => False
def tSl3 (te : E3) (tl th : O3) : E3 := fun ρ h Q => te ρ h fun x h1 => tl ρ h1 fun l h2 => th ρ h2 fun u h3 => slR x l u h3 Q
theorem slR_mono {x : D} {lo hi : Option Int} {h : Sto} {Q Q' : DK} (w : ∀ d h, Q d h → Q' d h) (q : slR x lo hi h Q) : slR x lo hi h Q' := by
  unfold slR at q ⊢
  split at q
  · exact w _ _ q
  · exact ⟨q.1, w _ _ q.2⟩
  · split at q
    · exact w _ _ q
    · exact q.elim
theorem cutD_whole {xs : List D} {lo hi : Option Int} (h : HT.sIx xs.length 0 lo = 0 ∧ HT.sIx xs.length xs.length hi = xs.length) : cutD xs lo hi = xs := by
  unfold cutD
  rw [h.1, h.2]
  simp
theorem e3_sl {e : Expr} {lo hi : Option Expr} {te : E3} {tl th : O3} {p2 pos : Pos} (he : PE3 X e te) (hl : PO3 X lo tl) (hh : PO3 X hi th) : PE3 X (.Subscript e (.Slice lo hi none p2) pos) (tSl3 te tl th) := by
  refine ⟨PE.weak (pe_slice (SlR.or sl_tupN (SlR.or sl_str sl_list)) he.pe hl.pe hh.pe) fun σ H Q ⟨m, h, ρ, R, S, q⟩ => ?_, fun ρ h Q Q' w q => he.mono _ _ _ _ (fun d h1 q1 => hl.mono _ _ _ _ (fun l h2 q2 => hh.mono _ _ _ _ (fun u h3 q3 => slR_mono w q3) q2) q1) q⟩
  refine LE.bind he.mono R S q fun m1 H1 v x h1 s1 R1 rx S1 q1 => ?_
  refine ⟨m1, h1, ρ, R1, S1, hl.mono _ _ _ _ (fun l h2 q2 m2 H2 s2 R2 => ?_) q1⟩
  refine ⟨m2, h2, ρ, R2, S1.step R1 s2, hh.mono _ _ _ _ (fun u h3 q3 m3 H3 s3 R3 => ?_) q2⟩
  have rx3 := (rx.step R1 s2).step R2 s3
  have st := s1.trans (s2.trans s3)
  unfold slR at q3
  split at q3
  · cases rx3 with
    | tup sq r => exact .inl ⟨_, _, rfl, TH sq, fun hw => (by rw [← r.length] at hw; rw [cutD_whole hw] at q3; exact q3 m3 H3 _ st R3 (.tup sq r)), fun _ p o hp no => q3 m3 _ (.ref p) (st.trans (Step.lay hp)) (R3.lay hp) (.tup (TupA.new no) ((r.cut l u).step R3 (Step.lay hp)))⟩
  · cases rx3
    exact .inr (.inl ⟨_, rfl, by rw [sizeLine_eq]; exact q3.1, q3.2 m3 H3 _ st R3 (.str _)⟩)
  · split at q3
    next xs e =>
      obtain ⟨a, vs, rfl, sq, r⟩ := listOf_lift R3 rx3 e
      exact .inr (.inr ⟨a, vs, rfl, sq, Up.laid R3 (r.cut l u) (Up.step st q3)⟩)
    next => exact q3.elim
end
end F3
/-! FH: built-in functions and methods over plain values. -/
namespace F3
open PySem PySem.Spec PyProof.Rows L2

abbrev N3 := List D → Sto → DK → Prop
structure Call3 (X : Cx) (f : Value) (r3 : N3) : Prop where
  mono : ∀ xs h (Q Q' : DK), (∀ d h', Q d h' → Q' d h') → r3 xs h Q → r3 xs h Q'
  ok : ∃ r, CallR X f r ∧ ∀ m h H xs vs Q, Rep X.K m h H → RelDs X.K m H xs vs → r3 xs h (Up X.K m H Q) → r vs H Q
/-- a call whose one argument is a new list -/
structure CallX3 (X : Cx) (f : Value) (r3 : N3) : Prop where
  mono : ∀ xs h (Q Q' : DK), (∀ d h', Q d h' → Q' d h') → r3 xs h Q → r3 xs h Q'
  ok : ∃ r, CallR X f r ∧ ∀ m h H a xs vs Q, Rep X.K m h H → H a = some (.lst vs) → RelDs X.K m H xs vs → r3 xs h (Up X.K m H Q) → r [.ref a] H Q
def tB3 (r : N3) (ta : A3) : E3 := fun ρ h Q => ta ρ h fun xs h1 => r xs h1 Q
section
variable {X : Cx} {x : Str} {p pos : Pos} {e : Expr} {es : List Expr} {t : A3} {id T : String} {r3 : N3}
theorem cb_lift {f : Value} (c : Call3 X f r3) (mt : MonoA t) : ∃ r, CallR X f r ∧ ∀ σ H Q, LE X.K (tB3 r3 t) σ H Q → tCB r (LA X.K t) σ H Q := by
  obtain ⟨r, hr, w⟩ := c.ok
  refine ⟨r, hr, fun σ H Q ⟨m, h, ρ, R, S, q⟩ => ?_⟩
  refine LA.bind mt R S q fun m1 H1 vs xs h1 s1 R1 rs S1 q1 => ?_
  exact w m1 h1 H1 xs vs Q R1 rs (c.mono _ _ _ _ (fun d h' u => Up.step s1 u) q1)
theorem MonoE.cb (mr : ∀ xs h (Q Q' : DK), (∀ d h', Q d h' → Q' d h') → r3 xs h Q → r3 xs h Q') (mt : MonoA t) : MonoE (tB3 r3 t) := fun ρ h Q Q' w q => mt _ _ _ _ (fun xs h1 q1 => mr _ _ _ _ w q1) q
theorem e3_cb (c : Call3 X (.builtin id) r3) (hm : X.mg x = none) (ha : PA3 X (e :: es) t) (hg : Gl X x := by rfl) (hv : bootBuiltins x = some (.builtin id) := by decide +kernel) (hn : x ≠ "__name__" := by decide) (hdb : (x == ("__debug__" : Str)) = false := by decide)
    (he : starEach (e :: es) X.env = (false, eval e X.env) :: starEach es X.env := by rfl) (hpl : (backTo pos (starEach es X.env)).any (·.1) = false := by rfl) : PE3 X (.Call (.Name x p) (e :: es) [] pos) (tB3 r3 t) := by
  obtain ⟨r, hr, w⟩ := cb_lift c ha.mono
  exact ⟨PE.weak (pe_callB hr hg hm hv ha.pe hn hdb he hpl) w, .cb c.mono ha.mono⟩
theorem e3_ct (c : Call3 X (.type T) r3) (hm : X.mg x = none) (ha : PA3 X (e :: es) t) (hg : Gl X x := by rfl) (hv : bootBuiltins x = some (.type T) := by decide +kernel) (hn : x ≠ "__name__" := by decide) (hdb : (x == ("__debug__" : Str)) = false := by decide)
    (he : starEach (e :: es) X.env = (false, eval e X.env) :: starEach es X.env := by rfl) (hpl : (backTo pos (starEach es X.env)).any (·.1) = false := by rfl) : PE3 X (.Call (.Name x p) (e :: es) [] pos) (tB3 r3 t) := by
  obtain ⟨r, hr, w⟩ := cb_lift c ha.mono
  exact ⟨PE.weak (pe_callTy hr hg hm hv ha.pe hn hdb he hpl) w, .cb c.mono ha.mono⟩
theorem cbx_lift {f : Value} (c : CallX3 X f r3) (mt : MonoA t) : ∃ r, CallR X f r ∧ ∀ σ H Q, LE X.K (tB3 r3 t) σ H Q → tCB r (tCons (LX X.K t) tNil) σ H Q := by
  obtain ⟨r, hr, w⟩ := c.ok
  refine ⟨r, hr, fun σ H Q ⟨m, h, ρ, R, S, q⟩ => ?_⟩
  refine LX.bind mt R S q fun m1 H1 a vs xs h1 s1 R1 ea na hm rs S1 q1 => ?_
  exact w m1 h1 H1 a xs vs Q R1 ea rs (c.mono _ _ _ _ (fun d h' u => Up.step s1 u) q1)
theorem e3_cbx (c : CallX3 X (.builtin id) r3) (hm : X.mg x = none) (ha : PX3 X e t) (hg : Gl X x := by rfl) (hv : bootBuiltins x = some (.builtin id) := by decide +kernel) (hn : x ≠ "__name__" := by decide) (hdb : (x == ("__debug__" : Str)) = false := by decide)
    (he : starEach [e] X.env = (false, eval e X.env) :: starEach [] X.env := by rfl) (hpl : (backTo pos (starEach [] X.env)).any (·.1) = false := by rfl) : PE3 X (.Call (.Name x p) [e] [] pos) (tB3 r3 t) := by
  obtain ⟨r, hr, w⟩ := cbx_lift c ha.mono
  exact ⟨PE.weak (pe_callB hr hg hm hv (pa_cons ha.pe pa_nil he) hn hdb he hpl) w, .cb c.mono ha.mono⟩
theorem e3_ctx (c : CallX3 X (.type T) r3) (hm : X.mg x = none) (ha : PX3 X e t) (hg : Gl X x := by rfl) (hv : bootBuiltins x = some (.type T) := by decide +kernel) (hn : x ≠ "__name__" := by decide) (hdb : (x == ("__debug__" : Str)) = false := by decide)
    (he : starEach [e] X.env = (false, eval e X.env) :: starEach [] X.env := by rfl) (hpl : (backTo pos (starEach [] X.env)).any (·.1) = false := by rfl) : PE3 X (.Call (.Name x p) [e] [] pos) (tB3 r3 t) := by
  obtain ⟨r, hr, w⟩ := cbx_lift c ha.mono
  exact ⟨PE.weak (pe_callTy hr hg hm hv (pa_cons ha.pe pa_nil he) hn hdb he hpl) w, .cb c.mono ha.mono⟩
/-! ### a call that gives a new list -/
abbrev M3 := List D → Sto → (List D → Sto → Prop) → Prop
structure CallL3 (X : Cx) (f : Value) (r3 : M3) : Prop where
  mono : ∀ xs h (Q Q' : List D → Sto → Prop), (∀ d h', Q d h' → Q' d h') → r3 xs h Q → r3 xs h Q'
  ok : ∃ r, CallR X f r ∧ ∀ m h H xs vs Q, Rep X.K m h H → RelDs X.K m H xs vs → r3 xs h (UpX X.K m H Q) → r vs H Q
structure CallLX3 (X : Cx) (f : Value) (r3 : M3) : Prop where
  mono : ∀ xs h (Q Q' : List D → Sto → Prop), (∀ d h', Q d h' → Q' d h') → r3 xs h Q → r3 xs h Q'
  ok : ∃ r, CallR X f r ∧ ∀ m h H a xs vs Q, Rep X.K m h H → H a = some (.lst vs) → RelDs X.K m H xs vs → r3 xs h (UpX X.K m H Q) → r [.ref a] H Q
def tL3 (r : M3) (ta : A3) : A3 := fun ρ h Q => ta ρ h fun xs h1 => r xs h1 Q
theorem UpX.step {K : PySem.W.Frag} {m m' : List Addr} {H H' : Hp} {h h' : Sto} (s : Step m H m' H') (R : Rep K m' h' H') {Q : VK} {d : List D} (u : UpX K m H Q d h) : UpX K m' H' Q d h := fun m2 H2 a vs st rp e n na rd => u m2 H2 a vs (s.trans st) rp e (s.none R n) na rd
theorem UpX.laid {K : PySem.W.Frag} {m : List Addr} {h : Sto} {H : Hp} {Q : VK} {xs : List D} {vs : List V} (R : Rep K m h H) (rs : RelDs K m H xs vs) (q : UpX K m H Q xs h) : ∀ p, H p = none → Q (.ref p) (upd H p (.lst vs)) := fun p hp =>
  q m _ p vs (Step.lay hp) (R.lay hp) upd_same hp (R.nonone hp) (rs.step R (Step.lay hp))
theorem MonoA.cl {r3 : M3} (mr : ∀ xs h (Q Q' : List D → Sto → Prop), (∀ d h', Q d h' → Q' d h') → r3 xs h Q → r3 xs h Q') (mt : MonoA t) : MonoA (tL3 r3 t) := fun ρ h Q Q' w q => mt _ _ _ _ (fun xs h1 q1 => mr _ _ _ _ w q1) q
theorem x3_cb {r3 : M3} (c : CallL3 X (.builtin id) r3) (hm : X.mg x = none) (ha : PA3 X (e :: es) t) (hg : Gl X x := by rfl) (hv : bootBuiltins x = some (.builtin id) := by decide +kernel) (hn : x ≠ "__name__" := by decide) (hdb : (x == ("__debug__" : Str)) = false := by decide)
    (he : starEach (e :: es) X.env = (false, eval e X.env) :: starEach es X.env := by rfl) (hpl : (backTo pos (starEach es X.env)).any (·.1) = false := by rfl) : PX3 X (.Call (.Name x p) (e :: es) [] pos) (tL3 r3 t) := by
  obtain ⟨r, hr, w⟩ := c.ok
  refine ⟨PE.weak (pe_callB hr hg hm hv ha.pe hn hdb he hpl) fun σ H Q ⟨m, h, ρ, R, S, q⟩ => ?_, .cl c.mono ha.mono⟩
  refine LA.bind ha.mono R S q fun m1 H1 vs xs h1 s1 R1 rs S1 q1 => ?_
  exact w m1 h1 H1 xs vs Q R1 rs (c.mono _ _ _ _ (fun d h' u => UpX.step s1 R1 u) q1)
theorem x3_ct {r3 : M3} (c : CallL3 X (.type T) r3) (hm : X.mg x = none) (ha : PA3 X (e :: es) t) (hg : Gl X x := by rfl) (hv : bootBuiltins x = some (.type T) := by decide +kernel) (hn : x ≠ "__name__" := by decide) (hdb : (x == ("__debug__" : Str)) = false := by decide)
    (he : starEach (e :: es) X.env = (false, eval e X.env) :: starEach es X.env := by rfl) (hpl : (backTo pos (starEach es X.env)).any (·.1) = false := by rfl) : PX3 X (.Call (.Name x p) (e :: es) [] pos) (tL3 r3 t) := by
  obtain ⟨r, hr, w⟩ := c.ok
  refine ⟨PE.weak (pe_callTy hr hg hm hv ha.pe hn hdb he hpl) fun σ H Q ⟨m, h, ρ, R, S, q⟩ => ?_, .cl c.mono ha.mono⟩
  refine LA.bind ha.mono R S q fun m1 H1 vs xs h1 s1 R1 rs S1 q1 => ?_
  exact w m1 h1 H1 xs vs Q R1 rs (c.mono _ _ _ _ (fun d h' u => UpX.step s1 R1 u) q1)
theorem x3_cbx {r3 : M3} (c : CallLX3 X (.builtin id) r3) (hm : X.mg x = none) (ha : PX3 X e t) (hg : Gl X x := by rfl) (hv : bootBuiltins x = some (.builtin id) := by decide +kernel) (hn : x ≠ "__name__" := by decide) (hdb : (x == ("__debug__" : Str)) = false := by decide)
    (he : starEach [e] X.env = (false, eval e X.env) :: starEach [] X.env := by rfl) (hpl : (backTo pos (starEach [] X.env)).any (·.1) = false := by rfl) : PX3 X (.Call (.Name x p) [e] [] pos) (tL3 r3 t) := by
  obtain ⟨r, hr, w⟩ := c.ok
  refine ⟨PE.weak (pe_callB hr hg hm hv (pa_cons ha.pe pa_nil he) hn hdb he hpl) fun σ H Q ⟨m, h, ρ, R, S, q⟩ => ?_, .cl c.mono ha.mono⟩
  refine LX.bind ha.mono R S q fun m1 H1 a vs xs h1 s1 R1 ea na hm rs S1 q1 => ?_
  exact w m1 h1 H1 a xs vs Q R1 ea rs (c.mono _ _ _ _ (fun d h' u => UpX.step s1 R1 u) q1)
end
/-! ### len, min, max, abs, int, isinstance, sum, all, any, tuple, list, sorted -/
def lenR : N3 := fun xs h Q => match xs with
  | [.str z] => z.length ≤ 16777216 ∧ Q (.int z.length) h
  | [d] => match itemsOf d h with
    | some ys => Q (.int ys.length) h
    | none => False
  | _ => False
def minR : N3 := fun xs h Q => match xs with
  | [.int i, .int j] => Q (.int (if j < i then j else i)) h
  | _ => False
def maxR : N3 := fun xs h Q => match xs with
  | [.int i, .int j] => Q (.int (if j > i then j else i)) h
  | _ => False
def absR : N3 := fun xs h Q => match xs with
  | [.int i] => Q (.int (if i < 0 then -i else i)) h
  | _ => False
def intR : N3 := fun xs h Q => match xs with
  | [.int i] => Q (.int i) h
  | [.bl k] => Q (.int (if k then 1 else 0)) h
  | _ => False
/-- the name of a thing's class -/
def tyN (d : D) (h : Sto) : Option String := match d with
  | .non => some "NoneType"
  | .bl _ => some "bool"
  | .int _ => some "int"
  | .str _ => some "str"
  | .tup _ => some "tuple"
  | .fl _ => some "list"
  | .ref n => match h[n]? with
    | some (.lst _) => some "list"
    | some (.dK _) => some "dict"
    | some (.dT _) => some "dict"
    | _ => none
  | _ => none
def isT (a T : String) : Bool := a == T || (a == "bool" && T == "int")
def isiR : N3 := fun xs h Q => match xs with
  | [x, .ty T] => (T ∈ ["int", "bool", "str", "tuple", "list", "dict"]) ∧ match tyN x h with
    | some a => Q (.bl (isT a T)) h
    | none => False
  | _ => False
def intsOf : List D → Option (List Int)
  | [] => some []
  | .int i :: r => (intsOf r).map (i :: ·)
  | _ :: _ => none
def blsOf : List D → Option (List Bool)
  | [] => some []
  | .bl i :: r => (blsOf r).map (i :: ·)
  | _ :: _ => none
theorem intsOf_map : ∀ ns : List Int, intsOf (ns.map D.int) = some ns
  | [] => rfl
  | n :: r => by simp [intsOf, intsOf_map r]
theorem blsOf_map : ∀ ns : List Bool, blsOf (ns.map D.bl) = some ns
  | [] => rfl
  | n :: r => by simp [blsOf, blsOf_map r]
theorem intsOf_eq : ∀ {xs : List D} {ns : List Int}, intsOf xs = some ns → xs = ns.map D.int
  | [], ns, e => by simp [intsOf] at e; subst e; rfl
  | .int i :: r, ns, e => by
    simp only [intsOf, Option.map_eq_some_iff] at e
    obtain ⟨ms, e, rfl⟩ := e
    rw [intsOf_eq e]; rfl
  | .non :: _, _, e => by simp [intsOf] at e
  | .bl _ :: _, _, e => by simp [intsOf] at e
  | .str _ :: _, _, e => by simp [intsOf] at e
  | .tup _ :: _, _, e => by simp [intsOf] at e
  | .fl _ :: _, _, e => by simp [intsOf] at e
  | .ref _ :: _, _, e => by simp [intsOf] at e
  | .ty _ :: _, _, e => by simp [intsOf] at e
  | .adr _ :: _, _, e => by simp [intsOf] at e
theorem blsOf_eq : ∀ {xs : List D} {ns : List Bool}, blsOf xs = some ns → xs = ns.map D.bl
  | [], ns, e => by simp [blsOf] at e; subst e; rfl
  | .bl i :: r, ns, e => by
    simp only [blsOf, Option.map_eq_some_iff] at e
    obtain ⟨ms, e, rfl⟩ := e
    rw [blsOf_eq e]; rfl
  | .non :: _, _, e => by simp [blsOf] at e
  | .int _ :: _, _, e => by simp [blsOf] at e
  | .str _ :: _, _, e => by simp [blsOf] at e
  | .tup _ :: _, _, e => by simp [blsOf] at e
  | .fl _ :: _, _, e => by simp [blsOf] at e
  | .ref _ :: _, _, e => by simp [blsOf] at e
  | .ty _ :: _, _, e => by simp [blsOf] at e
  | .adr _ :: _, _, e => by simp [blsOf] at e
def sumX : N3 := fun xs h Q => match intsOf xs with
  | some ns => Q (.int ns.sum) h
  | none => False
def allX : N3 := fun xs h Q => match blsOf xs with
  | some bs => Q (.bl (bs.all id)) h
  | none => False
def anyX : N3 := fun xs h Q => match blsOf xs with
  | some bs => Q (.bl (bs.any id)) h
  | none => False
def maxX : N3 := fun xs h Q => match intsOf xs with
  | some ns => 0 < ns.length ∧ ∀ m, m ∈ ns → (∀ y, y ∈ ns → y ≤ m) → Q (.int m) h
  | none => False
def minX : N3 := fun xs h Q => match intsOf xs with
  | some ns => 0 < ns.length ∧ ∀ m, m ∈ ns → (∀ y, y ∈ ns → m ≤ y) → Q (.int m) h
  | none => False
def tupX : N3 := fun xs h Q => Q (.tup xs) h
def lenX : N3 := fun xs h Q => Q (.int xs.length) h
/-- of a list that is a cell, by its items -/
def onL (r : N3) : N3 := fun xs h Q => match xs with
  | [d] => match listOf d h with
    | some ys => r ys h Q
    | none => False
  | _ => False
def tupR : N3 := fun xs h Q => match xs with
  | [.tup ys] => Q (.tup ys) h
  | [d] => match listOf d h with
    | some ys => Q (.tup ys) h
    | none => False
  | _ => False
def lstM : M3 := fun xs h Q => match xs with
  | [d] => match itemsOf d h with
    | some ys => Q ys h
    | none => False
  | _ => False
def srtX : M3 := fun xs h Q => match intsOf xs with
  | some ns => ∀ ns' : List Int, ns'.Perm ns → ns'.Pairwise (· ≤ ·) → Q (ns'.map .int) h
  | none => False
def onLM (r : M3) : M3 := fun xs h Q => match xs with
  | [d] => match listOf d h with
    | some ys => r ys h Q
    | none => False
  | _ => False
section
variable {X : Cx}
theorem k_len : Call3 X (.builtin "len") lenR := by
  refine ⟨fun xs h Q Q' w q => ?_, _, call_len_str.or call_len_seq, fun m h H xs vs Q R rs q => ?_⟩
  · unfold lenR at q ⊢
    split at q
    · exact ⟨q.1, w _ _ q.2⟩
    · split at q
      · exact w _ _ q
      · exact q.elim
    · exact q.elim
  · unfold lenR at q
    split at q
    · cases rs with
      | cons r rr => cases rr; cases r; exact .inl ⟨_, rfl, by rw [sizeLine_eq]; exact q.1, q.2 m H _ .refl R (.int _)⟩
    · split at q
      next ys e =>
        cases rs with
        | cons r rr =>
          cases rr
          obtain ⟨a, ws, rfl, sq, rw'⟩ := itemsOf_lift R r e
          exact .inr ⟨a, ws, rfl, sq, by rw [← rw'.length]; exact q m H _ .refl R (.int _)⟩
      next => exact q.elim
    · exact q.elim
theorem k_min (hc : X.calm = true) : Call3 X (.builtin "min") minR := by
  refine ⟨fun xs h Q Q' w q => ?_, _, call_min2 hc, fun m h H xs vs Q R rs q => ?_⟩
  · unfold minR at q ⊢
    split at q
    · exact w _ _ q
    · exact q.elim
  · unfold minR at q
    split at q
    · match vs, rs with
      | [_, _], .cons (.int i) (.cons (.int j) .nil) => exact ⟨i, j, rfl, q m H _ .refl R (.int _)⟩
    · exact q.elim
theorem k_max (hc : X.calm = true) : Call3 X (.builtin "max") maxR := by
  refine ⟨fun xs h Q Q' w q => ?_, _, call_max2 hc, fun m h H xs vs Q R rs q => ?_⟩
  · unfold maxR at q ⊢
    split at q
    · exact w _ _ q
    · exact q.elim
  · unfold maxR at q
    split at q
    · match vs, rs with
      | [_, _], .cons (.int i) (.cons (.int j) .nil) => exact ⟨i, j, rfl, q m H _ .refl R (.int _)⟩
    · exact q.elim
theorem k_abs : Call3 X (.builtin "abs") absR := by
  refine ⟨fun xs h Q Q' w q => ?_, _, call_abs, fun m h H xs vs Q R rs q => ?_⟩
  · unfold absR at q ⊢
    split at q
    · exact w _ _ q
    · exact q.elim
  · unfold absR at q
    split at q
    · match vs, rs with
      | [_], .cons (.int i) .nil => exact ⟨i, rfl, q m H _ .refl R (.int _)⟩
    · exact q.elim
theorem k_int : Call3 X (.type "int") intR := by
  refine ⟨fun xs h Q Q' w q => ?_, _, call_int1, fun m h H xs vs Q R rs q => ?_⟩
  · unfold intR at q ⊢
    split at q
    · exact w _ _ q
    · exact w _ _ q
    · exact q.elim
  · unfold intR at q
    split at q
    · match vs, rs with
      | [_], .cons (.int i) .nil => exact .inl ⟨i, rfl, q m H _ .refl R (.int _)⟩
    · match vs, rs with
      | [_], .cons (.bl i) .nil => exact .inr ⟨i, rfl, q m H _ .refl R (.int _)⟩
    · exact q.elim
theorem kitB_all : ∀ a ∈ ["NoneType", "bool", "int", "str", "tuple", "list", "dict"], ∀ T ∈ ["int", "bool", "str", "tuple", "list", "dict"], kitB a T = some (isT a T) := by decide +kernel
theorem RelD.tyx {K : PySem.W.Frag} {m : List Addr} {h : Sto} {H : Hp} {d : D} {v : V} {a : String} (R : Rep K m h H) (r : RelD K m H d v) (e : tyN d h = some a) : TyX K H v (.type a) ∧ a ∈ ["NoneType", "bool", "int", "str", "tuple", "list", "dict"] := by
  cases r with
  | non => simp [tyN] at e; subst e; exact ⟨.base .non, by simp⟩
  | bl b => simp [tyN] at e; subst e; exact ⟨.base (.bl b), by simp⟩
  | int b => simp [tyN] at e; subst e; exact ⟨.base (.int b), by simp⟩
  | str b => simp [tyN] at e; subst e; exact ⟨.base (.str b), by simp⟩
  | ty b => simp [tyN] at e
  | adr b => simp [tyN] at e
  | tup sq r =>
    simp [tyN] at e; subst e
    refine ⟨?_, by simp⟩
    obtain ⟨o, n | n, e⟩ := sq
    · obtain ⟨_, b, _, _, rfl⟩ := n
      exact .fTuple e
    · rw [n.2] at e
      exact .base (.tup e)
  | fl sq r =>
    simp [tyN] at e; subst e
    refine ⟨?_, by simp⟩
    rcases sq with ⟨o, sq⟩ | ⟨o, its, n, k1, k2, _⟩
    · exact .base (.frz sq)
    · exact .kList k1 k2
  | ref em =>
    simp only [tyN] at e
    split at e
    next e2 =>
      cases e
      obtain ⟨vs, q, r⟩ := R.at_ _ _ _ em e2
      exact ⟨.base (.lst q), by simp⟩
    next e2 =>
      cases e
      obtain ⟨vs, q, r⟩ := R.at_ _ _ _ em e2
      exact ⟨.base (.dK q), by simp⟩
    next e2 =>
      cases e
      obtain ⟨vs, q, r⟩ := R.at_ _ _ _ em e2
      exact ⟨.base (.dT q), by simp⟩
    next => cases e
theorem k_isi : Call3 X (.builtin "isinstance") isiR := by
  refine ⟨fun xs h Q Q' w q => ?_, _, call_isi, fun m h H xs vs Q R rs q => ?_⟩
  · unfold isiR at q ⊢
    split at q
    · obtain ⟨hT, q⟩ := q
      refine ⟨hT, ?_⟩
      split at q
      · exact w _ _ q
      · exact q.elim
    · exact q.elim
  · unfold isiR at q
    split at q
    next x T =>
      obtain ⟨hT, q⟩ := q
      split at q
      next a e =>
        match vs, rs with
        | [v, _], .cons r (.cons (.ty _) .nil) =>
          obtain ⟨ty, ha⟩ := RelD.tyx R r e
          exact ⟨v, .ty T, _, _, isT a T, rfl, .ty T, ty, kit_ty (kitB_all a ha T hT), q m H _ .refl R (.bl _)⟩
      next => exact q.elim
    next => exact q.elim
theorem kx_sum (hc : X.calm = true) : CallX3 X (.builtin "sum") sumX := by
  refine ⟨fun xs h Q Q' w q => ?_, _, cr_sum hc, fun m h H a xs vs Q R ea rs q => ?_⟩
  · unfold sumX at q ⊢
    split at q
    · exact w _ _ q
    · exact q.elim
  · unfold sumX at q
    split at q
    next ns e =>
      have e1 := intsOf_eq e
      subst e1
      exact ⟨a, ns, rfl, by rw [← rs.ints]; exact .inl (.inl ea), q m H _ .refl R (.int _)⟩
    next => exact q.elim
theorem kx_all (hc : X.calm = true) : CallX3 X (.builtin "all") allX := by
  refine ⟨fun xs h Q Q' w q => ?_, _, cr_all hc, fun m h H a xs vs Q R ea rs q => ?_⟩
  · unfold allX at q ⊢
    split at q
    · exact w _ _ q
    · exact q.elim
  · unfold allX at q
    split at q
    next ns e =>
      have e1 := blsOf_eq e
      subst e1
      exact ⟨a, ns, rfl, by rw [← rs.bls]; exact .inl (.inl ea), q m H _ .refl R (.bl _)⟩
    next => exact q.elim
theorem kx_any (hc : X.calm = true) : CallX3 X (.builtin "any") anyX := by
  refine ⟨fun xs h Q Q' w q => ?_, _, cr_any hc, fun m h H a xs vs Q R ea rs q => ?_⟩
  · unfold anyX at q ⊢
    split at q
    · exact w _ _ q
    · exact q.elim
  · unfold anyX at q
    split at q
    next ns e =>
      have e1 := blsOf_eq e
      subst e1
      exact ⟨a, ns, rfl, by rw [← rs.bls]; exact .inl (.inl ea), q m H _ .refl R (.bl _)⟩
    next => exact q.elim
theorem kx_max (hc : X.calm = true) : CallX3 X (.builtin "max") maxX := by
  refine ⟨fun xs h Q Q' w q => ?_, _, cr_max hc, fun m h H a xs vs Q R ea rs q => ?_⟩
  · unfold maxX at q ⊢
    split at q
    · exact ⟨q.1, fun m hm hy => w _ _ (q.2 m hm hy)⟩
    · exact q.elim
  · unfold maxX at q
    split at q
    next ns e =>
      have e1 := intsOf_eq e
      subst e1
      exact ⟨a, ns, rfl, by rw [← rs.ints]; exact .inl (.inl ea), q.1, fun k hk hy => q.2 k hk hy m H _ .refl R (.int _)⟩
    next => exact q.elim
theorem kx_min (hc : X.calm = true) : CallX3 X (.builtin "min") minX := by
  refine ⟨fun xs h Q Q' w q => ?_, _, cr_min hc, fun m h H a xs vs Q R ea rs q => ?_⟩
  · unfold minX at q ⊢
    split at q
    · exact ⟨q.1, fun m hm hy => w _ _ (q.2 m hm hy)⟩
    · exact q.elim
  · unfold minX at q
    split at q
    next ns e =>
      have e1 := intsOf_eq e
      subst e1
      exact ⟨a, ns, rfl, by rw [← rs.ints]; exact .inl (.inl ea), q.1, fun k hk hy => q.2 k hk hy m H _ .refl R (.int _)⟩
    next => exact q.elim
theorem kx_tuple : CallX3 X (.type "tuple") tupX :=
  ⟨fun xs h Q Q' w q => w _ _ q, _, call_tupleN, fun m h H a xs vs Q R ea rs q => ⟨a, vs, rfl, .inl ⟨.inl (.inl ea), fun l o hl no => q m _ (.ref l) (Step.lay hl) (R.lay hl) (.tup (TupA.new no) (rs.step R (Step.lay hl)))⟩⟩⟩
theorem kx_len : CallX3 X (.builtin "len") lenX :=
  ⟨fun xs h Q Q' w q => w _ _ q, _, call_len_seq, fun m h H a xs vs Q R ea rs q => ⟨a, vs, rfl, .inl (.inl (.inl ea)), by rw [← rs.length]; exact q m H _ .refl R (.int _)⟩⟩
theorem k_tuple : Call3 X (.type "tuple") tupR := by
  refine ⟨fun xs h Q Q' w q => ?_, _, call_tupleN, fun m h H xs vs Q R rs q => ?_⟩
  · unfold tupR at q ⊢
    split at q
    · exact w _ _ q
    · split at q
      · exact w _ _ q
      · exact q.elim
    · exact q.elim
  · unfold tupR at q
    split at q
    · match vs, rs with
      | [_], .cons (.tup sq r) .nil => exact ⟨_, _, rfl, .inr ⟨TH sq, q m H _ .refl R (.tup sq r)⟩⟩
    · split at q
      next ys e =>
        match vs, rs with
        | [_], .cons r .nil =>
          obtain ⟨a, ws, rfl, sq, rr⟩ := listOf_lift R r e
          exact ⟨a, ws, rfl, .inl ⟨sq, fun l o hl no => q m _ (.ref l) (Step.lay hl) (R.lay hl) (.tup (TupA.new no) (rr.step R (Step.lay hl)))⟩⟩
      next => exact q.elim
    · exact q.elim
theorem kl_list : CallL3 X (.type "list") lstM := by
  refine ⟨fun xs h Q Q' w q => ?_, _, call_list_of, fun m h H xs vs Q R rs q => ?_⟩
  · unfold lstM at q ⊢
    split at q
    · split at q
      · exact w _ _ q
      · exact q.elim
    · exact q.elim
  · unfold lstM at q
    split at q
    · split at q
      next ys e =>
        match vs, rs with
        | [_], .cons r .nil =>
          obtain ⟨a, ws, rfl, sq, rr⟩ := itemsOf_lift R r e
          exact ⟨a, ws, rfl, sq, UpX.laid R rr q⟩
      next => exact q.elim
    · exact q.elim
theorem klx_list : CallLX3 X (.type "list") (fun xs h Q => Q xs h) :=
  ⟨fun xs h Q Q' w q => w _ _ q, _, call_list_of, fun m h H a xs vs Q R ea rs q => ⟨a, vs, rfl, .inl (.inl (.inl ea)), UpX.laid R rs q⟩⟩
theorem srt_ints {K : PySem.W.Frag} {m : List Addr} {H : Hp} (ns : List Int) : RelDs K m H (ns.map D.int) (ns.map V.int) := by
  induction ns with
  | nil => exact .nil
  | cons n r ih => exact .cons (.int n) ih
theorem klx_sorted : CallLX3 X (.builtin "sorted") srtX := by
  refine ⟨fun xs h Q Q' w q => ?_, _, cr_sortedI, fun m h H a xs vs Q R ea rs q => ?_⟩
  · unfold srtX at q ⊢
    split at q
    · exact fun ns' h1 h2 => w _ _ (q ns' h1 h2)
    · exact q.elim
  · unfold srtX at q
    split at q
    next ns e =>
      have e1 := intsOf_eq e
      subst e1
      exact ⟨a, ns, rfl, by rw [← rs.ints]; exact .inl (.inl ea), fun ns' p h1 h2 hp => UpX.laid R (srt_ints ns') (q ns' h1 h2) p hp⟩
    next => exact q.elim
theorem kl_sorted : CallL3 X (.builtin "sorted") (onLM srtX) := by
  refine ⟨fun xs h Q Q' w q => ?_, _, cr_sortedI, fun m h H xs vs Q R rs q => ?_⟩
  · unfold onLM at q ⊢
    split at q
    · split at q
      · unfold srtX at q ⊢
        split at q
        · exact fun ns' h1 h2 => w _ _ (q ns' h1 h2)
        · exact q.elim
      · exact q.elim
    · exact q.elim
  · unfold onLM at q
    split at q
    · split at q
      next ys e =>
        match vs, rs with
        | [_], .cons r .nil =>
          obtain ⟨a, ws, rfl, sq, rr⟩ := listOf_lift R r e
          unfold srtX at q
          split at q
          next ns e =>
            have e1 := intsOf_eq e
            subst e1
            exact ⟨a, ns, rfl, by rw [← rr.ints]; exact sq, fun ns' p h1 h2 hp => UpX.laid R (srt_ints ns') (q ns' h1 h2) p hp⟩
          next => exact q.elim
      next => exact q.elim
    · exact q.elim
/-- a rule over a new list serves a list that is a cell, where it hangs on the reading alone -/
theorem k_sum (hc : X.calm = true) : Call3 X (.builtin "sum") (onL sumX) := by
  refine ⟨fun xs h Q Q' w q => ?_, _, cr_sum hc, fun m h H xs vs Q R rs q => ?_⟩
  · unfold onL at q ⊢
    split at q
    · split at q
      · exact (kx_sum hc).mono _ _ _ _ w q
      · exact q.elim
    · exact q.elim
  · unfold onL at q
    split at q
    · split at q
      next ys e =>
        match vs, rs with
        | [_], .cons r .nil =>
          obtain ⟨a, ws, rfl, sq, rr⟩ := listOf_lift R r e
          unfold sumX at q
          split at q
          next ns e =>
            have e1 := intsOf_eq e
            subst e1
            exact ⟨a, ns, rfl, by rw [← rr.ints]; exact sq, q m H _ .refl R (.int _)⟩
          next => exact q.elim
      next => exact q.elim
    · exact q.elim
theorem k_max1 (hc : X.calm = true) : Call3 X (.builtin "max") (onL maxX) := by
  refine ⟨fun xs h Q Q' w q => ?_, _, cr_max hc, fun m h H xs vs Q R rs q => ?_⟩
  · unfold onL at q ⊢
    split at q
    · split at q
      · exact (kx_max hc).mono _ _ _ _ w q
      · exact q.elim
    · exact q.elim
  · unfold onL at q
    split at q
    · split at q
      next ys e =>
        match vs, rs with
        | [_], .cons r .nil =>
          obtain ⟨a, ws, rfl, sq, rr⟩ := listOf_lift R r e
          unfold maxX at q
          split at q
          next ns e =>
            have e1 := intsOf_eq e
            subst e1
            exact ⟨a, ns, rfl, by rw [← rr.ints]; exact sq, q.1, fun k hk hy => q.2 k hk hy m H _ .refl R (.int _)⟩
          next => exact q.elim
      next => exact q.elim
    · exact q.elim
theorem k_min1 (hc : X.calm = true) : Call3 X (.builtin "min") (onL minX) := by
  refine ⟨fun xs h Q Q' w q => ?_, _, cr_min hc, fun m h H xs vs Q R rs q => ?_⟩
  · unfold onL at q ⊢
    split at q
    · split at q
      · exact (kx_min hc).mono _ _ _ _ w q
      · exact q.elim
    · exact q.elim
  · unfold onL at q
    split at q
    · split at q
      next ys e =>
        match vs, rs with
        | [_], .cons r .nil =>
          obtain ⟨a, ws, rfl, sq, rr⟩ := listOf_lift R r e
          unfold minX at q
          split at q
          next ns e =>
            have e1 := intsOf_eq e
            subst e1
            exact ⟨a, ns, rfl, by rw [← rr.ints]; exact sq, q.1, fun k hk hy => q.2 k hk hy m H _ .refl R (.int _)⟩
          next => exact q.elim
      next => exact q.elim
    · exact q.elim
/-! ### methods -/
def tBits3 (to : E3) : E3 := fun ρ h Q => to ρ h fun x h1 => match x with
  | .int i => Q (.int (Builtin.Int.intBits i : Nat)) h1
  | _ => False
theorem e3_bits {o : Expr} {to : E3} {apos pos : Pos} (ho : PE3 X o to) (hbase : attributeBase o "bit_length" X.env (eval o X.env) = eval o X.env := by rfl) (hline : (apos.endLine == pos.line) = true := by rfl) : PE3 X (.Call (.Attribute o "bit_length" apos) [] [] pos) (tBits3 to) := by
  refine ⟨PE.weak (pe_bits ho.pe hbase hline) fun σ H Q ⟨m, h, ρ, R, S, q⟩ => ?_, fun ρ h Q Q' w q => ho.mono _ _ _ _ (fun d h1 q1 => ?_) q⟩
  · refine LE.bind ho.mono R S q fun m1 H1 u y h1 s1 R1 ry S1 q1 => ?_
    cases ry with
    | int i => exact ⟨i, rfl, q1 m1 H1 _ s1 R1 (.int _)⟩
    | _ => exact q1.elim
  · cases d <;> first | exact w _ _ q1 | exact q1
/-- a method of a list that is a cell: what becomes of the list, and what is told -/
abbrev T3 := List D → List D → Sto → (D → List D → Prop) → Prop
def tLM (r : T3) (to : E3) (ta : A3) : E3 := fun ρ h Q => to ρ h fun x h1 => match x with
  | .ref n => (match h1[n]? with
    | some (.lst _) => True
    | _ => False) ∧ ta ρ h1 fun ds h2 => match h2[n]? with
      | some (.lst xs) => r xs ds h2 fun d ys => Q d (h2.set n (.lst ys))
      | _ => False
  | _ => False
structure Mt3 (X : Cx) (id : String) (r3 : T3) : Prop where
  mono : ∀ xs ds h (Q Q' : D → List D → Prop), (∀ d h', Q d h' → Q' d h') → r3 xs ds h Q → r3 xs ds h Q'
  ok : ∃ r, MtM X id r ∧ ∀ m h H a xs vs ds ws Q, Rep X.K m h H → H a = some (.lst vs) → a ∈ m → RelDs X.K m H xs vs → RelDs X.K m H ds ws →
    r3 xs ds h (fun d ys => ∀ v us, RelD X.K m H d v → RelDs X.K m H ys us → Q v (upd H a (.lst us))) → r (.ref a) ws H Q
theorem MonoE.lm {r : T3} {to : E3} {ta : A3} (mr : ∀ xs ds h (Q Q' : D → List D → Prop), (∀ d h', Q d h' → Q' d h') → r xs ds h Q → r xs ds h Q') (mo : MonoE to) (ma : MonoA ta) : MonoE (tLM r to ta) := fun ρ h Q Q' w q => mo _ _ _ _ (fun x h1 q1 => by
  cases x with
  | ref n =>
    refine ⟨q1.1, ma _ _ _ _ (fun ds h2 q2 => ?_) q1.2⟩
    split at q2
    · exact mr _ _ _ _ _ (fun d ys q => w _ _ q) q2
    · exact q2.elim
  | _ => exact q1) q
theorem lm_lift {id : String} {r3 : T3} {to : E3} {ta : A3} (c : Mt3 X id r3) (mo : MonoE to) (ma : MonoA ta) : ∃ r, MtM X id r ∧ ∀ σ H Q, LE X.K (tLM r3 to ta) σ H Q → tBM X.K "list" r (LE X.K to) (LA X.K ta) σ H Q := by
  obtain ⟨r, hr, w⟩ := c.ok
  refine ⟨r, hr, fun σ H Q ⟨m, h, ρ, R, S, q⟩ => ?_⟩
  refine LE.bind mo R S q fun m1 H1 u y h1 s1 R1 ry S1 q1 => ?_
  cases ry with
  | @ref n a em =>
    obtain ⟨t1, q1⟩ := q1
    refine ⟨?_, LA.bind ma R1 S1 q1 fun m2 H2 ws ds h2 s2 R2 rs S2 q2 => ?_⟩
    · split at t1
      next xs e =>
        obtain ⟨vs, q, r⟩ := R1.at_ _ _ _ em e
        exact .inl ⟨rfl, vs, .inl (.inl q)⟩
      next => exact t1.elim
    · split at q2
      next xs e =>
        have em2 := s2.get em
        obtain ⟨vs, ea, rx⟩ := R2.at_ _ _ _ em2 e
        have hm : a ∈ m2 := List.mem_of_getElem? em2
        refine w m2 h2 H2 a xs vs ds ws Q R2 ea hm rx rs (c.mono _ _ _ _ _ (fun d ys u v us rd ry => ?_) q2)
        exact u m2 _ v ((s1.trans s2).trans (Step.put hm)) (R2.put em2 ⟨us, upd_same, ry.step R2 (Step.put hm)⟩) (rd.step R2 (Step.put hm))
      next => exact q2.elim
  | _ => exact q1.elim
theorem e3_lm {o e : Expr} {es : List Expr} {name : Str} {id : String} {apos cpos : Pos} {r3 : T3} {to : E3} {ta : A3} (c : Mt3 X id r3) (slot : Slot "list" name id) (hty : typeOf (.builtin id) = pure (.type "method_descriptor")) (ho : PE3 X o to) (ha : PA3 X (e :: es) ta)
    (hbase : attributeBase o name X.env (eval o X.env) = eval o X.env := by rfl)
    (hfew : ((backTo cpos (starEach (e :: es) X.env)).all (fun x => !x.1) && (backToKw cpos (keywordEach [] X.env)).all (fun x => x.1.isSome)
      && decide ((e :: es).length + ([] : List Keyword).length + (if ([] : List Keyword).isEmpty then 0 else 1) < 30)) = true := by rfl)
    (hline : (apos.endLine == cpos.line) = true := by rfl) (hs : starEach (e :: es) X.env = (false, eval e X.env) :: starEach es X.env := by rfl) (hplain : (backTo cpos (starEach es X.env)).any (·.1) = false := by rfl) :
    PE3 X (.Call (.Attribute o name apos) (e :: es) [] cpos) (tLM r3 to ta) := by
  obtain ⟨r, hr, w⟩ := lm_lift c ho.mono ha.mono
  exact ⟨PE.weak (pe_bm PySem.F.plainAttrs_list slot hty hr ho.pe ha.pe hbase hfew hline hs hplain) w, .lm c.mono ho.mono ha.mono⟩
theorem MonoA.n3 : MonoA tN3 := fun ρ h Q Q' w q => w _ _ q
theorem e3_lm0 {o : Expr} {name : Str} {id : String} {apos cpos : Pos} {r3 : T3} {to : E3} (c : Mt3 X id r3) (slot : Slot "list" name id) (hty : typeOf (.builtin id) = pure (.type "method_descriptor")) (ho : PE3 X o to)
    (hbase : attributeBase o name X.env (eval o X.env) = eval o X.env := by rfl) (hline : (apos.endLine == cpos.line) = true := by rfl) :
    PE3 X (.Call (.Attribute o name apos) [] [] cpos) (tLM r3 to tN3) := by
  obtain ⟨r, hr, w⟩ := lm_lift c ho.mono MonoA.n3
  refine ⟨PE.weak (pe_bm0 PySem.F.plainAttrs_list slot hty hr ho.pe hbase hline) fun σ H Q q => ?_, .lm c.mono ho.mono MonoA.n3⟩
  obtain ⟨m, h, ρ, R, S, q⟩ := w σ H Q q
  refine ⟨m, h, ρ, R, S, ho.mono _ _ _ _ (fun d h1 q1 m1 H1 v s1 R1 rd => ?_) q⟩
  obtain ⟨t1, m2, h2, ρ2, R2, S2, q2⟩ := q1 m1 H1 v s1 R1 rd
  exact ⟨t1, q2 m2 H1 [] .refl R2 .nil⟩
def appT : T3 := fun xs ds _ Q => match ds with
  | [y] => xs.length < 16777216 ∧ Q .non (xs ++ [y])
  | _ => False
def extT : T3 := fun xs ds h Q => match ds with
  | [.ref n] => match h[n]? with
    | some (.lst zs) => xs.length + zs.length ≤ 16777216 ∧ Q .non (xs ++ zs)
    | _ => False
  | _ => False
def popT : T3 := fun xs ds _ Q => match ds with
  | [] => match xs[xs.length - 1]? with
    | some y => Q y xs.dropLast
    | none => False
  | _ => False
def popAtT : T3 := fun xs ds _ Q => match ds with
  | [.int i] => (-(2 ^ 63) ≤ i ∧ i < 2 ^ 63) ∧ match seqIndex? i xs.length with
    | some k => (match xs[k]? with
      | some y => Q y (xs.eraseIdx k)
      | none => False)
    | none => False
  | _ => False
def revT : T3 := fun xs ds _ Q => match ds with
  | [] => Q .non xs.reverse
  | _ => False
theorem m_append : Mt3 X "list.append" appT := by
  refine ⟨fun xs ds h Q Q' w q => ?_, _, mt_append, fun m h H a xs vs ds ws Q R ea hm rx rs q => ?_⟩
  · unfold appT at q ⊢
    split at q
    · exact ⟨q.1, w _ _ q.2⟩
    · exact q.elim
  · unfold appT at q
    split at q
    · match ws, rs with
      | [v], .cons r .nil => exact ⟨a, vs, v, rfl, rfl, ea, by rw [sizeLine_eq, ← rx.length]; exact q.1, q.2 _ _ .non (rx.append (.cons r .nil))⟩
    · exact q.elim
theorem m_pop : Mt3 X "list.pop" popT := by
  refine ⟨fun xs ds h Q Q' w q => ?_, _, mt_pop, fun m h H a xs vs ds ws Q R ea hm rx rs q => ?_⟩
  · unfold popT at q ⊢
    split at q
    · split at q
      · exact w _ _ q
      · exact q.elim
    · exact q.elim
  · unfold popT at q
    split at q
    · split at q
      next y ey =>
        cases rs
        rw [rx.length] at ey
        obtain ⟨v, ev, rv⟩ := rx.get ey
        exact ⟨a, vs, v, rfl, rfl, ea, ev, q _ _ rv rx.dropLast⟩
      next => exact q.elim
    · exact q.elim
theorem m_popAt : Mt3 X "list.pop" popAtT := by
  refine ⟨fun xs ds h Q Q' w q => ?_, _, mt_popAt, fun m h H a xs vs ds ws Q R ea hm rx rs q => ?_⟩
  · unfold popAtT at q ⊢
    split at q
    · refine ⟨q.1, ?_⟩
      have q2 := q.2
      split at q2
      · split at q2
        · exact w _ _ q2
        · exact q2.elim
      · exact q2.elim
    · exact q.elim
  · unfold popAtT at q
    split at q
    next i =>
      obtain ⟨hb, q2⟩ := q
      split at q2
      next k ek =>
        split at q2
        next y ey =>
          match ws, rs with
          | [_], .cons (.int _) .nil =>
            obtain ⟨v, ev, rv⟩ := rx.get ey
            exact ⟨a, vs, i, k, v, rfl, rfl, ea, hb.1, hb.2, by rw [← rx.length]; exact ek, ev, q2 _ _ rv (rx.erase k)⟩
        next => exact q2.elim
      next => exact q2.elim
    next => exact q.elim
theorem m_reverse : Mt3 X "list.reverse" revT := by
  refine ⟨fun xs ds h Q Q' w q => ?_, _, mt_reverse, fun m h H a xs vs ds ws Q R ea hm rx rs q => ?_⟩
  · unfold revT at q ⊢
    split at q
    · exact w _ _ q
    · exact q.elim
  · unfold revT at q
    split at q
    · cases rs
      exact ⟨a, vs, rfl, rfl, ea, q _ _ .non rx.reverse⟩
    · exact q.elim
theorem m_extend : Mt3 X "list.extend" extT := by
  refine ⟨fun xs ds h Q Q' w q => ?_, _, mt_extend, fun m h H a xs vs ds ws Q R ea hm rx rs q => ?_⟩
  · unfold extT at q ⊢
    split at q
    · split at q
      · exact ⟨q.1, w _ _ q.2⟩
      · exact q.elim
    · exact q.elim
  · unfold extT at q
    split at q
    · split at q
      next zs e =>
        match ws, rs with
        | [_], .cons r .nil =>
          obtain ⟨b, us, rfl, _, eb, r2⟩ := RelD.inst R r e
          exact ⟨a, b, vs, us, rfl, rfl, ea, eb, by rw [sizeLine_eq, ← rx.length, ← r2.length]; exact q.1, q.2 _ _ .non (rx.append r2)⟩
      next => exact q.elim
    · exact q.elim
end
end F3
/-! FI: small helps: targets, list(range(..)), promises in one form, the law's start, loops by invariants. -/
namespace F3
open PySem PySem.Spec PyProof.Rows L2

theorem gm_n {i : Nat} : ∀ d ρ h (Q Q' : S3 → Sto → Prop), (∀ ρ h, Q ρ h → Q' ρ h) → gN i d ρ h Q → gN i d ρ h Q' := fun d ρ h Q Q' w q => w _ _ q
theorem gm_nil : ∀ d ρ h (Q Q' : S3 → Sto → Prop), (∀ ρ h, Q ρ h → Q' ρ h) → gNil3 d ρ h Q → gNil3 d ρ h Q' := fun d ρ h Q Q' w q => by
  cases d with
  | nil => exact w _ _ q
  | cons a b => exact q
theorem gm_cons {g : G3} {r : Gs3} (h1 : ∀ d ρ h (Q Q' : S3 → Sto → Prop), (∀ ρ h, Q ρ h → Q' ρ h) → g d ρ h Q → g d ρ h Q') (h2 : ∀ d ρ h (Q Q' : S3 → Sto → Prop), (∀ ρ h, Q ρ h → Q' ρ h) → r d ρ h Q → r d ρ h Q') :
    ∀ d ρ h (Q Q' : S3 → Sto → Prop), (∀ ρ h, Q ρ h → Q' ρ h) → gCons3 g r d ρ h Q → gCons3 g r d ρ h Q' := fun d ρ h Q Q' w q => by
  cases d with
  | nil => exact q
  | cons a b => exact h1 _ _ _ _ _ (fun _ _ q => h2 _ _ _ _ _ w q) q
theorem gm_tup {n : Nat} {r : Gs3} (h2 : ∀ d ρ h (Q Q' : S3 → Sto → Prop), (∀ ρ h, Q ρ h → Q' ρ h) → r d ρ h Q → r d ρ h Q') :
    ∀ d ρ h (Q Q' : S3 → Sto → Prop), (∀ ρ h, Q ρ h → Q' ρ h) → gTup3 n r d ρ h Q → gTup3 n r d ρ h Q' := fun d ρ h Q Q' w q => by
  cases d with
  | tup xs => exact ⟨q.1, h2 _ _ _ _ _ w q.2⟩
  | _ => exact q

/-! ### promises in one form -/
/-- called with the arguments of a, where pre holds, any end that res tells -/
def spR {α : Type} (args : α → List D) (pre : α → Sto → Prop) (res : α → Sto → D → Sto → Prop) : Sp3 := fun ds h Q _ => ∃ a, ds = args a ∧ pre a h ∧ ∀ d h', res a h d h' → Q d h'
theorem mono_spR {α : Type} {args : α → List D} {pre : α → Sto → Prop} {res : α → Sto → D → Sto → Prop} : MonoS (spR args pre res) := fun ds h Q Q' E E' w _ ⟨a, e, p, q⟩ => ⟨a, e, p, fun d h' r => w _ _ (q d h' r)⟩
theorem len_spR {α : Type} {args : α → List D} {pre : α → Sto → Prop} {res : α → Sto → D → Sto → Prop} {n : Nat} (hl : ∀ a, (args a).length = n) : ∀ ds h Q E, spR args pre res ds h Q E → ds.length = n := fun ds h Q E ⟨a, e, _⟩ => by rw [e]; exact hl a
/-- the same where the end is one alone -/
def spD {α : Type} (args : α → List D) (pre : α → Sto → Prop) (val : α → Sto → D) (sto : α → Sto → Sto) : Sp3 := fun ds h Q _ => ∃ a, ds = args a ∧ pre a h ∧ Q (val a h) (sto a h)
theorem mono_spD {α : Type} {args : α → List D} {pre : α → Sto → Prop} {val : α → Sto → D} {sto : α → Sto → Sto} : MonoS (spD args pre val sto) := fun ds h Q Q' E E' w _ ⟨a, e, p, q⟩ => ⟨a, e, p, w _ _ q⟩
theorem len_spD {α : Type} {args : α → List D} {pre : α → Sto → Prop} {val : α → Sto → D} {sto : α → Sto → Sto} {n : Nat} (hl : ∀ a, (args a).length = n) : ∀ ds h Q E, spD args pre val sto ds h Q E → ds.length = n := fun ds h Q E ⟨a, e, _⟩ => by rw [e]; exact hl a
/-- the law: a script of at most 63 ints, True told -/
def sp_law : Sp3 := fun ds h Q _ => ∃ ns : List Int, ds = [.fl (ns.map .int)] ∧ ns.length ≤ 63 ∧ h = [] ∧ ∀ h', Q (.bl true) h'
theorem mono_law : MonoS sp_law := fun ds h Q Q' E E' w _ ⟨a, e, p, r, q⟩ => ⟨a, e, p, r, fun h' => w _ _ (q h')⟩
theorem len_law : ∀ ds h Q E, sp_law ds h Q E → ds.length = 1 := fun ds h Q E ⟨a, e, _⟩ => by rw [e]; rfl
theorem law_start {K : PySem.W.Frag} {H : Hp} {a : Addr} {ns : List Int} (hl : ns.length ≤ 63) (o : Only H) (s : SqL K H a (ns.map V.int)) {E : XK} (_ : True) : LSp K sp_law [.ref a] H (fun v _ => v = .bl true) E :=
  ⟨[], [], [.fl (ns.map .int)], ⟨rfl, List.nodup_nil, fun n b c e => by simp at e⟩, .cons (script3 o s) .nil, ns, rfl, hl, rfl, fun h' m' H' v _ _ r => by cases r; rfl⟩
theorem start_law : True := trivial

/-! ### loops by invariants -/
/-- a for: what holds ahead of each turn, by what is left -/
theorem forI_inv {g : G3} {b : C3} {st : Sto → Prop} {E : Ends3} (Inv : List D → S3 → Sto → Prop) (hs : ∀ xs ρ h, Inv xs ρ h → st h) (h0 : ∀ ρ h, Inv [] ρ h → E.nx ρ h)
    (h1 : ∀ x r ρ h, Inv (x :: r) ρ h → g x ρ h fun ρ' h' => b { E with nx := Inv r, ct := Inv r, bk := E.nx } ρ' h')
    (mg : ∀ d ρ h (Q Q' : S3 → Sto → Prop), (∀ ρ h, Q ρ h → Q' ρ h) → g d ρ h Q → g d ρ h Q') (mb : MonoC b) : ∀ xs ρ h, Inv xs ρ h → forI g b st E xs ρ h
  | [], ρ, h, i => ⟨hs _ _ _ i, h0 _ _ i⟩
  | x :: r, ρ, h, i => ⟨hs _ _ _ i, mg _ _ _ _ _ (fun ρ' h' q => mb { E with nx := Inv r, ct := Inv r, bk := E.nx } _ _ _ ⟨fun ρ h i => forI_inv Inv hs h0 h1 mg mb r ρ h i, fun _ _ q => q, fun _ _ q => q, fun ρ h i => forI_inv Inv hs h0 h1 mg mb r ρ h i⟩ q) (h1 x r ρ h i)⟩

/-! ### list(range(..)), list(reversed(..)) -/
def xIt (it : I3) : A3 := fun ρ h Q => it ρ h fun xs _ h1 => Q xs h1
end F3
/-! FJ: the readings' rows for the simplifier: each rule at values of a known kind. -/
namespace F3
open PySem PySem.Spec PyProof.Rows L2

section
variable {h : Sto} {Q : DK} {i j : Int} {a b : Bool} {x y : Str} {xs ys : List D} {n m : Nat} {d e : D} {ρ : S3}
/-- what stands at a cell that is a list -/
def onLst (o : Option Cell) (k : List D → Prop) : Prop := match o with
  | some (.lst xs) => k xs
  | _ => False
theorem onLst_some {k : List D → Prop} : onLst (some (.lst xs)) k = k xs := rfl
theorem addR_ii : addR (.int i) (.int j) h Q = Q (.int (i + j)) h := rfl
theorem addR_ss : addR (.str x) (.str y) h Q = (x.length + y.length ≤ 16777216 ∧ Q (.str (x ++ y)) h) := rfl
theorem addR_tt : addR (.tup xs) (.tup ys) h Q = (xs ≠ [] ∧ xs.length + ys.length ≤ 16777216 ∧ Q (.tup (xs ++ ys)) h) := rfl
theorem addR_rr : addR (.ref n) (.ref m) h Q = onLst h[n]? fun xs => onLst h[m]? fun ys => xs.length + ys.length ≤ 16777216 ∧ Q (.ref h.length) (h ++ [.lst (xs ++ ys)]) := by
  unfold addR onLst
  simp only
  cases h[n]? with
  | none => rfl
  | some c =>
    cases c with
    | lst xs =>
      cases h[m]? with
      | none => rfl
      | some c => cases c <;> rfl
    | _ => rfl
theorem subR_ii : subR (.int i) (.int j) h Q = Q (.int (i - j)) h := rfl
theorem mulR_ii : mulR (.int i) (.int j) h Q = (mulOk i j ∧ Q (.int (i * j)) h) := rfl
theorem mulR_ri : mulR (.ref n) (.int j) h Q = onLst h[n]? fun xs => (-(2 ^ 63) ≤ j ∧ j < 2 ^ 63 ∧ xs.length * j.toNat ≤ 16777216) ∧ Q (.ref h.length) (h ++ [.lst (List.replicate j.toNat xs).flatten]) := rfl
theorem divR_ii : divR (.int i) (.int j) h Q = (divOk j ∧ Q (.int (i / j)) h) := rfl
theorem modR_ii : modR (.int i) (.int j) h Q = (0 < j ∧ Q (.int (i % j)) h) := rfl
theorem powR_ii : powR (.int i) (.int j) h Q = ((0 ≤ j ∧ j ≤ 1000000 ∧ i.natAbs < 2 ^ 64) ∧ Q (.int (i ^ j.toNat)) h) := rfl
theorem ltR_ii : ltR (.int i) (.int j) h Q = Q (.bl (decide (i < j))) h := rfl
theorem leR_ii : leR (.int i) (.int j) h Q = Q (.bl (decide (i ≤ j))) h := rfl
theorem gtR_ii : gtR (.int i) (.int j) h Q = Q (.bl (decide (j < i))) h := rfl
theorem geR_ii : geR (.int i) (.int j) h Q = Q (.bl (decide (j ≤ i))) h := rfl
theorem negR_i : negR (.int i) h Q = Q (.int (-i)) h := rfl
/-- == by the data -/
def eqP (o p : Option PyData) (k : Bool → Prop) : Prop := match o, p with
  | some p, some q => k (PyData.eqv p q)
  | _, _ => False
theorem eqP_some {p q : PyData} {k : Bool → Prop} : eqP (some p) (some q) k = k (PyData.eqv p q) := rfl
theorem eqR_ii : eqR (.int i) (.int j) h Q = Q (.bl (decide (i = j))) h := rfl
theorem neR_ii : neR (.int i) (.int j) h Q = Q (.bl (!decide (i = j))) h := rfl
theorem eqR_bb : eqR (.bl a) (.bl b) h Q = Q (.bl (a == b)) h := rfl
theorem neR_bb : neR (.bl a) (.bl b) h Q = Q (.bl (!(a == b))) h := rfl
theorem eqR_gen (hd : ∀ i j, d = .int i → e = .int j → False) : eqR d e h Q = eqP (toP h 9 d) (toP h 9 e) fun b => Q (.bl b) h := by
  unfold eqR eqP
  split
  · exact (hd _ _ rfl rfl).elim
  · rfl
theorem neR_gen (hd : ∀ i j, d = .int i → e = .int j → False) : neR d e h Q = eqP (toP h 9 d) (toP h 9 e) fun b => Q (.bl (!b)) h := by
  unfold neR eqP
  split
  · exact (hd _ _ rfl rfl).elim
  · rfl
theorem eqR_te : eqR (.tup xs) e h Q = eqP (toP h 9 (.tup xs)) (toP h 9 e) fun b => Q (.bl b) h := eqR_gen (by simp)
theorem neR_te : neR (.tup xs) e h Q = eqP (toP h 9 (.tup xs)) (toP h 9 e) fun b => Q (.bl (!b)) h := neR_gen (by simp)
theorem eqR_re : eqR (.ref n) e h Q = eqP (toP h 9 (.ref n)) (toP h 9 e) fun b => Q (.bl b) h := eqR_gen (by simp)
theorem neR_re : neR (.ref n) e h Q = eqP (toP h 9 (.ref n)) (toP h 9 e) fun b => Q (.bl (!b)) h := neR_gen (by simp)
theorem eqR_se : eqR (.str x) e h Q = eqP (toP h 9 (.str x)) (toP h 9 e) fun b => Q (.bl b) h := eqR_gen (by simp)
theorem neR_se : neR (.str x) e h Q = eqP (toP h 9 (.str x)) (toP h 9 e) fun b => Q (.bl (!b)) h := neR_gen (by simp)
theorem eqR_ne : eqR .non e h Q = eqP (toP h 9 .non) (toP h 9 e) fun b => Q (.bl b) h := eqR_gen (by simp)
theorem neR_ne : neR .non e h Q = eqP (toP h 9 .non) (toP h 9 e) fun b => Q (.bl (!b)) h := neR_gen (by simp)
theorem isR_n : isR d .non h Q = Q (.bl d.isN) h := rfl
theorem isnR_n : isnR d .non h Q = Q (.bl (!d.isN)) h := rfl
theorem isR_bb : isR (.bl a) (.bl b) h Q = Q (.bl (decide (a = b))) h := rfl
theorem isnR_bb : isnR (.bl a) (.bl b) h Q = Q (.bl (!decide (a = b))) h := rfl
theorem isN_non : D.isN .non = true := rfl
theorem isN_int : D.isN (.int i) = false := rfl
theorem isN_tup : D.isN (.tup xs) = false := rfl
theorem isN_ref : D.isN (.ref n) = false := rfl
theorem isN_bl : D.isN (.bl a) = false := rfl
theorem isN_str : D.isN (.str x) = false := rfl
theorem itemsOf_t : itemsOf (.tup xs) h = some xs := rfl
theorem itemsOf_f : itemsOf (.fl xs) h = some xs := rfl
theorem itemsOf_r (e : h[n]? = some (.lst xs)) : itemsOf (.ref n) h = some xs := by unfold itemsOf; simp only [e]
theorem listOf_f : listOf (.fl xs) h = some xs := rfl
theorem listOf_r (e : h[n]? = some (.lst xs)) : listOf (.ref n) h = some xs := by unfold listOf; simp only [e]
theorem ixR_ti : ixR (.tup xs) (.int i) h Q = atD xs i fun d => Q d h := rfl
theorem ixR_fi : ixR (.fl xs) (.int i) h Q = atD xs i fun d => Q d h := rfl
theorem ixR_ri : ixR (.ref n) (.int i) h Q = onLst h[n]? fun xs => atD xs i fun d => Q d h := by
  unfold ixR onLst itemsOf
  simp only
  cases h[n]? with
  | none => rfl
  | some c => cases c <;> rfl
theorem ixR_si : ixR (.str x) (.int i) h Q = (x.length ≤ 16777216 ∧ (match atI x.cps.toList i with | some c => Q (.str ⟨#[c]⟩) h | none => False)) := rfl
theorem atD_of {k : D → Prop} (e : atI xs i = some d) : atD xs i k = k d := by unfold atD; rw [e]
theorem atD_all {k : D → Prop} (h0 : 0 ≤ i) (h1 : i < xs.length) (q : ∀ d ∈ xs, k d) : atD xs i k := by
  have e : atI xs i = xs[i.toNat]? := by
    unfold atI ixN
    rw [if_pos h0, if_pos h1]; rfl
  have hl : i.toNat < xs.length := by omega
  rw [atD_of (e.trans (List.getElem?_eq_getElem hl))]
  exact q _ (List.getElem_mem _)
theorem atD_0 {k : D → Prop} : atD (d :: xs) 0 k = k d := by
  have : atI (d :: xs) 0 = some d := by
    unfold atI ixN
    rw [if_pos (by decide), if_pos (by simp only [List.length_cons]; omega)]; rfl
  unfold atD; rw [this]
theorem atD_s {k : D → Prop} {i : Int} (hi : 0 ≤ i) : atD (d :: xs) (i + 1) k = atD xs i k := by
  have : atI (d :: xs) (i + 1) = atI xs i := by
    unfold atI ixN
    rw [if_pos (by omega), if_pos hi]
    by_cases hl : i < xs.length
    · rw [if_pos (by simp only [List.length_cons]; omega), if_pos hl, show (i + 1).toNat = i.toNat + 1 by omega]; rfl
    · rw [if_neg (by simp only [List.length_cons]; omega), if_neg hl]; rfl
  unfold atD; rw [this]
theorem atD_1 {k : D → Prop} : atD (d :: xs) 1 k = atD xs 0 k := atD_s (i := 0) (by decide)
theorem atD_2 {k : D → Prop} : atD (d :: xs) 2 k = atD xs 1 k := atD_s (i := 1) (by decide)
theorem atD_3 {k : D → Prop} : atD (d :: xs) 3 k = atD xs 2 k := atD_s (i := 2) (by decide)
theorem atD_last {k : D → Prop} : atD (xs ++ [d]) (-1) k = k d := by
  unfold atD
  rw [atI_last]
theorem setR_ri {Q : Sto → Prop} : setR (.ref n) (.int i) d h Q = onLst h[n]? fun xs => (match ixN xs.length i with | some j => Q (h.set n (.lst (xs.set j d))) | none => False) := rfl
theorem ixN2_0 : ixN 2 0 = some 0 := rfl
theorem ixN2_1 : ixN 2 1 = some 1 := rfl
theorem ixN1_0 : ixN 1 0 = some 0 := rfl
theorem slR_t {lo hi : Option Int} : slR (.tup xs) lo hi h Q = Q (.tup (cutD xs lo hi)) h := rfl
theorem slR_f {lo hi : Option Int} : slR (.fl xs) lo hi h Q = Q (.ref h.length) (h ++ [.lst (cutD xs lo hi)]) := rfl
theorem slR_r {lo hi : Option Int} : slR (.ref n) lo hi h Q = onLst h[n]? fun xs => Q (.ref h.length) (h ++ [.lst (cutD xs lo hi)]) := by
  unfold slR onLst listOf
  simp only
  cases h[n]? with
  | none => rfl
  | some c => cases c <;> rfl
theorem slR_s {lo hi : Option Int} : slR (.str x) lo hi h Q = (x.length ≤ 16777216 ∧ Q (.str (cutS x lo hi)) h) := rfl
theorem oSo_i {t : E3} {Q : Option Int → Sto → Prop} : oSo t ρ h Q = t ρ h fun d h1 => match d with | .int i => Q (some i) h1 | _ => False := rfl
theorem lenR_s : lenR [.str x] h Q = (x.length ≤ 16777216 ∧ Q (.int x.length) h) := rfl
theorem lenR_t : lenR [.tup xs] h Q = Q (.int xs.length) h := rfl
theorem lenR_f : lenR [.fl xs] h Q = Q (.int xs.length) h := rfl
theorem lenR_r : lenR [.ref n] h Q = onLst h[n]? fun xs => Q (.int xs.length) h := by
  unfold lenR onLst itemsOf
  simp only
  cases h[n]? with
  | none => rfl
  | some c => cases c <;> rfl
theorem minR_ii : minR [.int i, .int j] h Q = Q (.int (if j < i then j else i)) h := rfl
theorem maxR_ii : maxR [.int i, .int j] h Q = Q (.int (if j > i then j else i)) h := rfl
theorem absR_i : absR [.int i] h Q = Q (.int (if i < 0 then -i else i)) h := rfl
theorem intR_i : intR [.int i] h Q = Q (.int i) h := rfl
theorem intR_b : intR [.bl a] h Q = Q (.int (if a then 1 else 0)) h := rfl
/-- isinstance, by the names of the classes -/
def isB (o : Option String) (T : String) (k : Bool → Prop) : Prop := match o with
  | some a => k (isT a T)
  | none => False
theorem isB_some {s T : String} {k : Bool → Prop} : isB (some s) T k = k (isT s T) := rfl
theorem isiR_gen {T : String} (hT : T ∈ ["int", "bool", "str", "tuple", "list", "dict"]) : isiR [d, .ty T] h Q = isB (tyN d h) T fun b => Q (.bl b) h := by
  have e : isiR [d, .ty T] h Q = (T ∈ ["int", "bool", "str", "tuple", "list", "dict"] ∧ isB (tyN d h) T fun b => Q (.bl b) h) := rfl
  rw [e]
  exact propext ⟨fun q => q.2, fun q => ⟨hT, q⟩⟩
theorem isiR_int : isiR [d, .ty "int"] h Q = isB (tyN d h) "int" fun b => Q (.bl b) h := isiR_gen (by decide)
theorem isiR_bool : isiR [d, .ty "bool"] h Q = isB (tyN d h) "bool" fun b => Q (.bl b) h := isiR_gen (by decide)
theorem isiR_str : isiR [d, .ty "str"] h Q = isB (tyN d h) "str" fun b => Q (.bl b) h := isiR_gen (by decide)
theorem isiR_tuple : isiR [d, .ty "tuple"] h Q = isB (tyN d h) "tuple" fun b => Q (.bl b) h := isiR_gen (by decide)
theorem isiR_list : isiR [d, .ty "list"] h Q = isB (tyN d h) "list" fun b => Q (.bl b) h := isiR_gen (by decide)
theorem isiR_dict : isiR [d, .ty "dict"] h Q = isB (tyN d h) "dict" fun b => Q (.bl b) h := isiR_gen (by decide)
theorem tyN_non : tyN .non h = some "NoneType" := rfl
theorem tyN_bl : tyN (.bl a) h = some "bool" := rfl
theorem tyN_int : tyN (.int i) h = some "int" := rfl
theorem tyN_str : tyN (.str x) h = some "str" := rfl
theorem tyN_tup : tyN (.tup xs) h = some "tuple" := rfl
theorem tyN_fl : tyN (.fl xs) h = some "list" := rfl
theorem tyN_r (e : h[n]? = some (.lst xs)) : tyN (.ref n) h = some "list" := by unfold tyN; simp only [e]
theorem isT_1 : isT "bool" "int" = true := by decide
theorem isT_2 : isT "bool" "bool" = true := by decide
theorem isT_3 : isT "int" "int" = true := by decide
theorem isT_4 : isT "int" "bool" = false := by decide
theorem isT_5 : isT "tuple" "tuple" = true := by decide
theorem isT_6 : isT "list" "list" = true := by decide
theorem isT_7 : isT "str" "str" = true := by decide
theorem isT_8 : isT "tuple" "list" = false := by decide
theorem isT_9 : isT "list" "tuple" = false := by decide
theorem isT_10 : isT "tuple" "int" = false := by decide
theorem isT_11 : isT "list" "int" = false := by decide
theorem isT_12 : isT "str" "int" = false := by decide
theorem isT_13 : isT "NoneType" "int" = false := by decide
theorem isT_14 : isT "int" "tuple" = false := by decide
theorem isT_15 : isT "bool" "tuple" = false := by decide
theorem isT_16 : isT "str" "tuple" = false := by decide
theorem isT_17 : isT "NoneType" "tuple" = false := by decide
theorem isT_18 : isT "int" "list" = false := by decide
theorem isT_19 : isT "bool" "list" = false := by decide
theorem isT_20 : isT "str" "list" = false := by decide
theorem isT_21 : isT "NoneType" "list" = false := by decide
theorem isT_22 : isT "tuple" "bool" = false := by decide
theorem isT_23 : isT "list" "bool" = false := by decide
theorem isT_24 : isT "str" "bool" = false := by decide
theorem isT_25 : isT "NoneType" "bool" = false := by decide
theorem isT_26 : isT "int" "str" = false := by decide
theorem isT_27 : isT "bool" "str" = false := by decide
theorem isT_28 : isT "tuple" "str" = false := by decide
theorem isT_29 : isT "list" "str" = false := by decide
theorem isT_30 : isT "NoneType" "str" = false := by decide
theorem onL_f {r : N3} : onL r [.fl xs] h Q = r xs h Q := rfl
theorem onL_r {r : N3} : onL r [.ref n] h Q = onLst h[n]? fun xs => r xs h Q := by
  unfold onL onLst listOf
  simp only
  cases h[n]? with
  | none => rfl
  | some c => cases c <;> rfl
theorem tupR_t : tupR [.tup xs] h Q = Q (.tup xs) h := rfl
theorem tupR_f : tupR [.fl xs] h Q = Q (.tup xs) h := rfl
theorem tupR_r : tupR [.ref n] h Q = onLst h[n]? fun xs => Q (.tup xs) h := by
  unfold tupR onLst listOf
  simp only
  cases h[n]? with
  | none => rfl
  | some c => cases c <;> rfl
theorem lstM_t {Q : List D → Sto → Prop} : lstM [.tup xs] h Q = Q xs h := rfl
theorem lstM_f {Q : List D → Sto → Prop} : lstM [.fl xs] h Q = Q xs h := rfl
theorem lstM_r {Q : List D → Sto → Prop} : lstM [.ref n] h Q = onLst h[n]? fun xs => Q xs h := by
  unfold lstM onLst itemsOf
  simp only
  cases h[n]? with
  | none => rfl
  | some c => cases c <;> rfl
theorem onLM_f {r : M3} {Q : List D → Sto → Prop} : onLM r [.fl xs] h Q = r xs h Q := rfl
theorem onLM_r {r : M3} {Q : List D → Sto → Prop} : onLM r [.ref n] h Q = onLst h[n]? fun xs => r xs h Q := by
  unfold onLM onLst listOf
  simp only
  cases h[n]? with
  | none => rfl
  | some c => cases c <;> rfl
/-! ### truths -/
def ifB (d : D) (A B : Prop) : Prop := match d with
  | .bl true => A
  | .bl false => B
  | _ => False
theorem ifB_b {A B : Prop} : ifB (.bl a) A B = (if a = true then A else B) := by cases a <;> simp [ifB]
theorem tAndE_eq {ta tb : E3} : tAndE ta tb ρ h Q = ta ρ h fun x h1 => ifB x (tb ρ h1 Q) (Q (.bl false) h1) := rfl
theorem tOrE_eq {ta tb : E3} : tOrE ta tb ρ h Q = ta ρ h fun x h1 => ifB x (Q (.bl true) h1) (tb ρ h1 Q) := rfl
theorem tCh_eq {r r' : R3} {ta tb tc : E3} : tCh r r' ta tb tc ρ h Q = ta ρ h fun x h1 => tb ρ h1 fun y h2 => r x y h2 fun z h3 => ifB z (tc ρ h3 fun w h4 => r' y w h4 Q) (Q (.bl false) h3) := rfl
/-! ### walked things -/
def iSeqD (d : D) (h : Sto) (Q : List D → (Sto → Prop) → Sto → Prop) : Prop := match d with
  | .tup xs => Q xs (fun _ => True) h
  | .fl xs => Q xs (fun _ => True) h
  | .ref n => onLst h[n]? fun xs => Q xs (fun h' => h'[n]? = some (.lst xs)) h
  | _ => False
theorem iSeq_eq {t : E3} {Q : List D → (Sto → Prop) → Sto → Prop} : iSeq t ρ h Q = t ρ h fun d h1 => iSeqD d h1 Q := by
  have : (fun (d : D) (h1 : Sto) => iSeqD d h1 Q) = fun d h1 => match d with
      | .tup xs => Q xs (fun _ => True) h1
      | .fl xs => Q xs (fun _ => True) h1
      | .ref n => match h1[n]? with
        | some (.lst xs) => Q xs (fun h' => h'[n]? = some (.lst xs)) h1
        | _ => False
      | _ => False := by
    funext d h1
    unfold iSeqD onLst
    cases d <;> rfl
  rw [this]
  rfl
theorem iSeqD_t {Q : List D → (Sto → Prop) → Sto → Prop} : iSeqD (.tup xs) h Q = Q xs (fun _ => True) h := rfl
theorem iSeqD_f {Q : List D → (Sto → Prop) → Sto → Prop} : iSeqD (.fl xs) h Q = Q xs (fun _ => True) h := rfl
theorem iSeqD_r {Q : List D → (Sto → Prop) → Sto → Prop} : iSeqD (.ref n) h Q = onLst h[n]? fun xs => Q xs (fun h' => h'[n]? = some (.lst xs)) h := rfl
def rngD (vs : List D) (h : Sto) (Q : List D → (Sto → Prop) → Sto → Prop) : Prop := match vs with
  | [.int j] => (-(2 ^ 62) ≤ j ∧ j < 2 ^ 62) ∧ Q ((List.range j.toNat).map fun (k : Nat) => D.int k) (fun _ => True) h
  | [.int i, .int j] => (-(2 ^ 62) ≤ i ∧ i < 2 ^ 62 ∧ -(2 ^ 62) ≤ j ∧ j < 2 ^ 62) ∧ Q ((List.range (j - i).toNat).map fun (k : Nat) => D.int (i + k)) (fun _ => True) h
  | _ => False
theorem iRng_eq {ta : A3} {Q : List D → (Sto → Prop) → Sto → Prop} : iRng ta ρ h Q = ta ρ h fun vs h1 => rngD vs h1 Q := rfl
theorem rngD_1 {Q : List D → (Sto → Prop) → Sto → Prop} : rngD [.int j] h Q = ((-(2 ^ 62) ≤ j ∧ j < 2 ^ 62) ∧ Q ((List.range j.toNat).map fun (k : Nat) => D.int k) (fun _ => True) h) := rfl
theorem rngD_2 {Q : List D → (Sto → Prop) → Sto → Prop} : rngD [.int i, .int j] h Q = ((-(2 ^ 62) ≤ i ∧ i < 2 ^ 62 ∧ -(2 ^ 62) ≤ j ∧ j < 2 ^ 62) ∧ Q ((List.range (j - i).toNat).map fun (k : Nat) => D.int (i + k)) (fun _ => True) h) := rfl
theorem seqOf_f {Q : List D → (Sto → Prop) → Prop} : seqOf (.fl xs) h Q = Q xs fun _ => True := rfl
theorem seqOf_r {Q : List D → (Sto → Prop) → Prop} : seqOf (.ref n) h Q = onLst h[n]? fun xs => Q xs fun h' => h'[n]? = some (.lst xs) := rfl
def zipD (vs : List D) (h : Sto) (Q : List D → (Sto → Prop) → Sto → Prop) : Prop := match vs with
  | [.tup xs, .tup ys] => Q (List.zipWith (fun x y => D.tup [x, y]) xs ys) (fun _ => True) h
  | [x, y] => seqOf x h fun xs s1 => seqOf y h fun ys s2 => Q (List.zipWith (fun x y => D.tup [x, y]) xs ys) (fun h => s1 h ∧ s2 h) h
  | _ => False
theorem iZip3_eq {ta : A3} {Q : List D → (Sto → Prop) → Sto → Prop} : iZip3 ta ρ h Q = ta ρ h fun vs h1 => zipD vs h1 Q := rfl
theorem zipD_tt {Q : List D → (Sto → Prop) → Sto → Prop} : zipD [.tup xs, .tup ys] h Q = Q (List.zipWith (fun x y => D.tup [x, y]) xs ys) (fun _ => True) h := rfl
theorem zipD_rr {Q : List D → (Sto → Prop) → Sto → Prop} : zipD [.ref n, .ref m] h Q = seqOf (.ref n) h fun xs s1 => seqOf (.ref m) h fun ys s2 => Q (List.zipWith (fun x y => D.tup [x, y]) xs ys) (fun h => s1 h ∧ s2 h) h := rfl
end
end F3
/-! FK: list(range(..)), list(reversed(..)). -/
namespace F3
open PySem PySem.Spec PyProof.Rows L2

def xRg (i j : Int) (h : Sto) (Q : List D → Sto → Prop) : Prop := (-(2 ^ 62) ≤ i ∧ i < 2 ^ 62 ∧ -(2 ^ 62) ≤ j ∧ j < 2 ^ 62 ∧ (j - i).toNat ≤ 2 ^ 24) ∧ Q ((List.range (j - i).toNat).map fun (k : Nat) => D.int (i + k)) h
def xRg1 (t : E3) : A3 := fun ρ h Q => t ρ h fun d h1 => match d with
  | .int n => xRg 0 n h1 Q
  | _ => False
def xRg2 (t u : E3) : A3 := fun ρ h Q => t ρ h fun d h1 => u ρ h1 fun e h2 => match d, e with
  | .int i, .int j => xRg i j h2 Q
  | _, _ => False
section
variable {X : Cx}
theorem rel_rg {K : PySem.W.Frag} {m : List Addr} {H : Hp} (i : Int) : ∀ ks : List Nat, RelDs K m H (ks.map fun (k : Nat) => D.int (i + k)) (ks.map fun (k : Nat) => V.int (i + k))
  | [] => .nil
  | _ :: r => .cons (.int _) (rel_rg i r)
theorem x3_rg1 {a : Expr} {t : E3} {p pos p2 pos2 : Pos} (hc : X.calm = true) (hm : X.mg "list" = none) (hm2 : X.mg "range" = none) (ha : PE3 X a t) (hg : Gl X "list" := by rfl) (hg2 : Gl X "range" := by rfl)
    (na : starEach [a] X.env = (false, eval a X.env) :: starEach [] X.env := by rfl) (na2 : starEach [.Call (.Name "range" p2) [a] [] pos2] X.env = (false, eval (.Call (.Name "range" p2) [a] [] pos2) X.env) :: starEach [] X.env := by rfl) :
    PX3 X (.Call (.Name "list" p) [.Call (.Name "range" p2) [a] [] pos2] [] pos) (xRg1 t) := by
  refine ⟨PE.weak (pe_listRg hc hg hm (prg_1 hg2 hm2 ha.pe na) na2) fun σ H Q ⟨m, h, ρ, R, S, q⟩ => ?_, fun ρ h Q Q' w q => ha.mono _ _ _ _ (fun d h1 q1 => ?_) q⟩
  · refine LE.bind ha.mono R S q fun m1 H1 v x h1 s1 R1 rx S1 q1 => ?_
    cases rx with
    | int n => exact ⟨n, rfl, q1.1, UpX.laid R1 (rel_rg 0 _) (UpX.step s1 R1 q1.2)⟩
    | _ => exact q1.elim
  · cases d with
    | int n => exact ⟨q1.1, w _ _ q1.2⟩
    | _ => exact q1
theorem x3_rg2 {a b : Expr} {t u : E3} {p pos p2 pos2 : Pos} (hc : X.calm = true) (hm : X.mg "list" = none) (hm2 : X.mg "range" = none) (ha : PE3 X a t) (hb : PE3 X b u) (hg : Gl X "list" := by rfl) (hg2 : Gl X "range" := by rfl)
    (na : starEach [a, b] X.env = (false, eval a X.env) :: starEach [b] X.env := by rfl) (nb : starEach [b] X.env = (false, eval b X.env) :: starEach [] X.env := by rfl) (hp : (backTo pos2 (starEach [b] X.env)).any (·.1) = false := by rfl)
    (na2 : starEach [.Call (.Name "range" p2) [a, b] [] pos2] X.env = (false, eval (.Call (.Name "range" p2) [a, b] [] pos2) X.env) :: starEach [] X.env := by rfl) :
    PX3 X (.Call (.Name "list" p) [.Call (.Name "range" p2) [a, b] [] pos2] [] pos) (xRg2 t u) := by
  refine ⟨PE.weak (pe_listRg hc hg hm (prg_2 hg2 hm2 ha.pe hb.pe na nb hp) na2) fun σ H Q ⟨m, h, ρ, R, S, q⟩ => ?_, fun ρ h Q Q' w q => ha.mono _ _ _ _ (fun d h1 q1 => hb.mono _ _ _ _ (fun e h2 q2 => ?_) q1) q⟩
  · refine LE.bind ha.mono R S q fun m1 H1 v x h1 s1 R1 rx S1 q1 => ?_
    refine LE.bind hb.mono R1 S1 q1 fun m2 H2 v2 y h2 s2 R2 ry S2 q2 => ?_
    cases rx with
    | int i =>
      cases ry with
      | int j => exact ⟨i, j, rfl, rfl, q2.1, UpX.laid R2 (rel_rg i _) (UpX.step (s1.trans s2) R2 q2.2)⟩
      | _ => exact q2.elim
    | _ => exact q2.elim
  · cases d with
    | int i =>
      cases e with
      | int j => exact ⟨q2.1, w _ _ q2.2⟩
      | _ => exact q2
    | _ => exact q2
end
/-! ### the store made smaller, in use -/
theorem cl_ints {n : Nat} : ∀ ns : List Int, ClDs n (ns.map .int)
  | [] => by simp only [List.map_nil, ClDs]
  | _ :: r => by simp only [List.map_cons, ClDs, ClD, true_and]; exact cl_ints r
theorem ClS.set {n : Nat} {h : Sto} (hs : ClS n h) (a : Nat) {c : Cell} (hc : ClC n c) : ClS n (h.set a c) := fun c' hm => by
  rcases List.mem_or_eq_of_mem_set hm with z | z
  · exact hs c' z
  · rw [z]; exact hc
theorem cl_draw {n : Nat} {c s : Int} : ClC n (.lst [.int c, .int s]) := by simp only [ClC, ClDs, ClD, and_self]
theorem gq_one {h g : Sto} {k n : Nat} {xs : List D} {Q : DK} (hn : n = h.length) (hk : g[k]? = some (.lst xs)) (hx : ClDs h.length xs) (hs : ClS h.length h) (q : Q (.ref h.length) (h ++ [.lst xs])) : GQ n Q (.ref (h.length + k)) (h ++ g) := by
  subst hn
  exact .inr ⟨_, _, Gc.one hk hx hs, q⟩
theorem gq_tail {h g : Sto} {n : Nat} {d : D} {Q : DK} (hn : n = h.length) (hd : ClD h.length d) (hs : ClS h.length h) (q : Q d h) : GQ n Q d (h ++ g) := by
  subst hn
  exact .inr ⟨_, _, Gc.tail hd hs, q⟩
theorem ClDs.all {n : Nat} : ∀ {xs : List D}, (∀ x ∈ xs, ClD n x) → ClDs n xs
  | [], _ => by simp only [ClDs]
  | x :: r, h => by simp only [ClDs]; exact ⟨h x List.mem_cons_self, ClDs.all fun y hy => h y (List.mem_cons_of_mem _ hy)⟩
theorem ClDs.mem {n : Nat} : ∀ {xs : List D}, ClDs n xs → ∀ x ∈ xs, ClD n x
  | _ :: _, h, x, hx => by
    simp only [ClDs] at h
    rcases List.mem_cons.mp hx with e | e
    · rw [e]; exact h.1
    · exact ClDs.mem h.2 x e
theorem get_app {h g : Sto} {k : Nat} : (h ++ g)[h.length + k]? = g[k]? := by rw [List.getElem?_append_right (by omega)]; congr 1; omega
theorem get_app0 {h : Sto} {c : Cell} {g : Sto} : (h ++ c :: g)[h.length]? = some c := by rw [List.getElem?_append_right (by omega)]; simp
theorem set_app0 {h : Sto} {c c' : Cell} {g : Sto} : (h ++ c :: g).set h.length c' = h ++ c' :: g := by rw [List.set_append]; simp
/-- one turn of a for; what follows the turn has a name -/
theorem forI_step {g : G3} {b : C3} {st : Sto → Prop} {E : Ends3} {x : D} {r : List D} {ρ : S3} {h : Sto} (hs : st h) (q : ∀ F : S3 → Sto → Prop, F = forI g b st E r → g x ρ h fun ρ' h' => b { E with nx := F, ct := F, bk := E.nx } ρ' h') : forI g b st E (x :: r) ρ h := ⟨hs, q _ rfl⟩
end F3
/-! FL: sorted(set(xs)) of a list of ints. -/
namespace F3
open PySem PySem.Spec PyProof.Rows L2

/-- the new set that a call of set lays, empty -/
abbrev bareSet (w : World) : Obj := { cls := .type "set", dict := none, data := .set #[] 0 (.fresh 0 0 (!w.params.followText "set-order")) }
section
variable {P : Program} {w : World} {A : Around} {E : Value → Shared → Prop} {s : Shared}
set_option maxHeartbeats 6400000 in
/-- set(xs), xs a list of ints: what stands then, told by SetR -/
theorem set_of_lst {l : Addr} {items : Array Value} (ns : List Int) {Q : Value → Shared → Prop} (hh : A.handled = none) (hl : s.heap.IsList l items) (hit : IntsAre items.toList ns) (hb : ns.length + 1 < scanBound)
    (q : ∀ (h' : Heap) (tk c : Nat), SetR w h' s.heap.objs.size (fun j => decide (j ∈ ns)) c → c ≤ ns.length → (∀ b o, s.heap.get? b = some o → h'.get? b = some o) → Q (.ref s.heap.objs.size) { s with heap := h', toks := tk }) :
    wpAny (model P w) A (call (.type "set") [.ref l]) Q E s := by
  have hz : items.size = ns.length := by have e := IntsAre.length hit; rwa [Array.length_toList] at e
  obtain ⟨_, _, mro⟩ := PySem.F.called_set.mro
  have f1 := PySem.F.called_set.made; have f2 := PySem.F.called_set.sub
  refine wpAny_call (codeAny_of_tree (?_ : wpAny _ _ (callAny (.type "set") _) _ _ _))
  refine wpAny_pure ⟨Code.quiet_builtin _ (by decide +kernel), codeAny_builtin PySem.F.entry_type_call ?_⟩
  rw [Around.under_plain (weight_type_call_type "set" [.ref l] []) rfl]
  have f3 := PySem.F.called_set.notType; have f4 := PySem.F.called_set.canCreate; have f5 := PySem.F.typeCall_set_1 (.ref l)
  repeat (any_goals (first | assumption | wp_step))
  -- the object itself
  refine codeAny_mono (code_set_led1 (.ref l) (E := E) (Q₁ := fun x t => x = .ref s.heap.objs.size ∧ t = { s with heap := s.heap.push (bareSet w) }) ⟨rfl, rfl⟩) fun r t hr => ?_
  match r, hr with
  | .error _, hr => exact hr
  | .ok .next, hr => exact hr.elim
  | .ok .brk, hr => exact hr.elim
  | .ok .cont, hr => exact hr.elim
  | .ok (.ret x), hr =>
    obtain ⟨rfl, rfl⟩ := hr
    have g0 : (s.heap.push (bareSet w)).get? s.heap.objs.size = some (bareSet w) := Heap.get?_push_size _ rfl
    have ty : Shared.TypeIs { s with heap := s.heap.push (bareSet w) } (.ref s.heap.objs.size) "set" := ⟨_, g0, rfl⟩
    have f6 := PySem.F.called_set.init.lookup; have f7 := PySem.F.called_set.init.bind (.ref s.heap.objs.size)
    repeat (any_goals (first | assumption | wp_step))
    -- its items, one by one
    refine codeAny_mono (codeAny_call_builtin (R := wants (fun r t => r = .none ∧ ∃ h' tk c, t = { s with heap := h', toks := tk } ∧ SetR w h' s.heap.objs.size (fun j => decide (j ∈ ns)) c ∧ c ≤ ns.length ∧ ∀ b o, s.heap.get? b = some o → h'.get? b = some o) E)
      PySem.F.called_set.init.plain PySem.F.entry_set_init (check_set_init_1 ty ?_)) fun r t hr => ?_
    · obtain ⟨⟨oc, od, oa, os⟩, g1, k1, nl, k2⟩ := hl
      simp only at k1 k2
      subst k1; subst k2
      have lt : l < s.heap.objs.size := Heap.lt_size g1
      have g2 : (s.heap.push (bareSet w)).get? l = some { cls := .type "list", dict := od, data := .seq items nl, slots := os } := Heap.get?_push_of_some _ g1
      have isl : (s.heap.push (bareSet w)).IsList l items := ⟨_, g2, rfl, nl, rfl⟩
      have f8 := PySem.F.sub_list_set; have f9 := PySem.F.sub_list_frozenset
      have f10 : (Value.type "list" == Value.type "dict") = false := by decide
      unfold Builtin.«set.__init__» noKeywords Builtin.Frozenset.updateFrom
      generalize eIt : pyIter = it
      wp_walk
      subst eIt
      refine wpAny_pyIter_list isl (wpAny_bind (wpAny_runValue ?_))
      have sz : (s.heap.push (bareSet w)).objs.size = s.heap.objs.size + 1 := Heap.size_push ..
      have n1 : l ≠ (s.heap.push (bareSet w)).objs.size := by rw [sz]; exact Nat.ne_of_lt (Nat.lt_succ_of_lt lt)
      have n2 : s.heap.objs.size ∉ [(s.heap.push (bareSet w)).objs.size, l] := by
        rw [sz]; simp only [List.mem_cons, List.not_mem_nil, or_false, not_or]; exact ⟨Nat.ne_of_lt (Nat.lt_succ_self _), Nat.ne_of_gt lt⟩
      refine set_update_ints ((Walks.list (show A.in1.in1.in1.handled = none by simp [hh]) _ l n1 items).toS) s.heap.objs.size n2 ns hz hb (fun i v hv => ?_) (items.size - 0) 0 _ (by omega) (Nat.zero_le _)
        ⟨⟨_, Heap.get?_push_size _ rfl, rfl, rfl⟩, isl.push _⟩ ⟨0, Nat.le_refl 0, setR_new_at (Heap.get?_push_of_some _ g0)⟩ fun t c mv hc R => ?_
      · have hi : i < ns.length := by rw [← hz]; exact (Array.getElem?_eq_some_iff.mp hv).1
        obtain ⟨tk, e⟩ := PyProof.Rows.IntsAre.int_at hit i v (by rw [Array.getElem?_toList]; exact hv)
        exact ⟨ns[i], tk, List.getElem?_eq_getElem hi, by rw [e, List.getD_eq_getElem?_getD, List.getElem?_eq_getElem hi]; rfl⟩
      · obtain ⟨h', g', d', tk', o'⟩ := t
        cases (show g' = s.gens from mv.gens); cases (show d' = s.drawn from mv.drawn); cases (show o' = s.os from mv.os)
        refine wpAny_pure (?_ : wpAny _ _ (ret Value.none) _ _ _)
        refine wpAny_pure ⟨rfl, h', tk', c, rfl, R, by omega, fun b o e => mv.heap b o ?_ (Heap.get?_push_of_some _ (Heap.get?_push_of_some _ e))⟩
        have lb := Heap.lt_size e
        rw [sz]; simp only [List.mem_cons, List.not_mem_nil, or_false, not_or]; exact ⟨Nat.ne_of_lt lb, Nat.ne_of_lt (Nat.lt_succ_of_lt lb)⟩
    · match r, hr with
      | .error _, hr => exact hr
      | .ok .next, hr => exact hr.elim
      | .ok .brk, hr => exact hr.elim
      | .ok .cont, hr => exact hr.elim
      | .ok (.ret _), hr =>
        obtain ⟨rfl, h', tk, c, rfl, R, hc, kp⟩ := hr
        repeat (any_goals (first | assumption | wp_step))
        exact q _ _ _ R hc kp
end
/-- a list's items -/
def onLst' (d : D) (h : Sto) (k : List D → Prop) : Prop := match listOf d h with
  | some xs => k xs
  | none => False
theorem onLst'_mono {d : D} {h : Sto} {k k' : List D → Prop} (w : ∀ xs, k xs → k' xs) (q : onLst' d h k) : onLst' d h k' := by
  unfold onLst' at q ⊢
  split at q
  · exact w _ q
  · exact q
theorem onLst'_some {d : D} {h : Sto} {k : List D → Prop} (q : onLst' d h k) : ∃ xs, listOf d h = some xs ∧ k xs := by
  unfold onLst' at q
  split at q
  next xs e => exact ⟨xs, e, q⟩
  next => exact q.elim
theorem onLst'_r {n : Nat} {h : Sto} {k : List D → Prop} : onLst' (.ref n) h k = onLst h[n]? k := by
  unfold onLst' onLst listOf
  simp only
  cases h[n]? with
  | none => rfl
  | some c => cases c <;> rfl
theorem onLst'_f {xs : List D} {h : Sto} {k : List D → Prop} : onLst' (.fl xs) h k = k xs := rfl
section
variable {X : Cx}
def rSetL (K : PySem.W.Frag) (w : World) : List V → Hp → VK → Prop := fun vs H Q => ∃ (l : Addr) (ns : List Int), vs = [.ref l] ∧ SqL K H l (ns.map V.int) ∧ ns.length < 64 ∧ ∀ a c, H a = none → c ≤ ns.length → Q (.ref a) (upd H a (SetO w a (fun j => decide (j ∈ ns)) c))
theorem cr_setL (hc : X.calm = true) : CallR X (.type "set") (rSetL X.K X.w) := by
  intro pins s σ H xs us Q I r h
  obtain ⟨l, ns, rfl, hs, hn, q⟩ := h
  rw [Vals.ref1 r]
  obtain ⟨its, rv, pl, hz⟩ := I.list hs
  refine set_of_lst ns (I.ok.hd hc) pl.isList ?_ (by unfold scanBound; omega) fun h' tk c R hcl kp => ?_
  · rw [List.toList_toArray]
    exact Vals.ints rv
  · exact ⟨.ref s.heap.objs.size, _, I.laid (t' := tk) kp (Nat.le_refl _) (setO_new R), rfl, q _ c (I.hok.fresh (Nat.le_refl _)) hcl⟩
def tSSet (t : A3) : A3 := fun ρ h Q => t ρ h fun xs h1 => match intsOf xs with
  | some ns => ns.length < 64 ∧ ∀ ms : List Int, ms.Pairwise (· < ·) → (∀ k, k ∈ ms ↔ k ∈ ns) → Q (ms.map .int) h1
  | none => False
theorem MonoA.sset {t : A3} (mt : MonoA t) : MonoA (tSSet t) := fun ρ h Q Q' w q => mt _ _ _ _ (fun xs h1 q1 => by
  split at q1
  · exact ⟨q1.1, fun ms h1 h2 => w _ _ (q1.2 ms h1 h2)⟩
  · exact q1) q
theorem sset_core {K : PySem.W.Frag} {w : World} {m m1 : List Addr} {H H1 : Hp} {h1 : Sto} {l : Addr} {xs : List D} {vs : List V} {Q : VK} (s1 : Step m H m1 H1) (R1 : Rep K m1 h1 H1) (sq : SqL K H1 l vs) (rs : RelDs K m1 H1 xs vs)
    (q : match intsOf xs with
      | some ns => ns.length < 64 ∧ ∀ ms : List Int, ms.Pairwise (· < ·) → (∀ k, k ∈ ms ↔ k ∈ ns) → UpX K m H Q (ms.map .int) h1
      | none => False) : rSetL K w [.ref l] H1 fun x H2 => rSortedSet w [x] H2 Q := by
  split at q
  next ns e =>
    have e1 := intsOf_eq e
    subst e1
    refine ⟨l, ns, rfl, by rw [← rs.ints]; exact sq, q.1, fun a c ha hcl => ⟨a, _, c, rfl, upd_same, by omega, fun ms p h1' h2 h3 hp => ?_⟩⟩
    refine UpX.laid (R1.lay ha) (srt_ints ms) ?_ p hp
    exact UpX.step (s1.trans (Step.lay ha)) (R1.lay ha) (q.2 ms h1' fun k => by rw [h2 k]; exact decide_eq_true_iff)
  next => exact q.elim
theorem x3_ssetx {e : Expr} {t : A3} {p pos p2 pos2 : Pos} (hc : X.calm = true) (hm : X.mg "sorted" = none) (hm2 : X.mg "set" = none) (ha : PX3 X e t) (hg : Gl X "sorted" := by rfl) (hg2 : Gl X "set" := by rfl)
    (he : starEach [e] X.env = (false, eval e X.env) :: starEach [] X.env := by rfl) (hpl : (backTo pos2 (starEach [] X.env)).any (·.1) = false := by rfl)
    (he2 : starEach [.Call (.Name "set" p2) [e] [] pos2] X.env = (false, eval (.Call (.Name "set" p2) [e] [] pos2) X.env) :: starEach [] X.env := by rfl) (hpl2 : (backTo pos (starEach [] X.env)).any (·.1) = false := by rfl) :
    PX3 X (.Call (.Name "sorted" p) [.Call (.Name "set" p2) [e] [] pos2] [] pos) (tSSet t) := by
  refine ⟨PE.weak (pe_callB (cr_sortedSet hc) hg hm (by decide +kernel) (pa_cons (pe_callTy (cr_setL hc) hg2 hm2 (by decide +kernel) (pa_cons ha.pe pa_nil he) (by decide) (by decide) he hpl) pa_nil he2) (by decide) (by decide) he2 hpl2) fun σ H Q ⟨m, h, ρ, R, S, q⟩ => ?_, .sset ha.mono⟩
  refine LX.bind ha.mono R S q fun m1 H1 a vs xs h1 s1 R1 ea na hm rs S1 q1 => ?_
  exact sset_core s1 R1 (.inl (.inl ea)) rs q1
theorem x3_sset {e : Expr} {t : E3} {p pos p2 pos2 : Pos} (hc : X.calm = true) (hm : X.mg "sorted" = none) (hm2 : X.mg "set" = none) (ha : PE3 X e t) (hg : Gl X "sorted" := by rfl) (hg2 : Gl X "set" := by rfl)
    (he : starEach [e] X.env = (false, eval e X.env) :: starEach [] X.env := by rfl) (hpl : (backTo pos2 (starEach [] X.env)).any (·.1) = false := by rfl)
    (he2 : starEach [.Call (.Name "set" p2) [e] [] pos2] X.env = (false, eval (.Call (.Name "set" p2) [e] [] pos2) X.env) :: starEach [] X.env := by rfl) (hpl2 : (backTo pos (starEach [] X.env)).any (·.1) = false := by rfl) :
    PX3 X (.Call (.Name "sorted" p) [.Call (.Name "set" p2) [e] [] pos2] [] pos) (tSSet fun ρ h Q => t ρ h fun d h1 => onLst' d h1 fun xs => Q xs h1) := by
  have mo : MonoA (fun ρ h Q => t ρ h fun d h1 => onLst' d h1 fun xs => Q xs h1) := fun ρ h Q Q' w q => ha.mono _ _ _ _ (fun d h1 q1 => onLst'_mono (fun xs q => w _ _ q) q1) q
  refine ⟨PE.weak (pe_callB (cr_sortedSet hc) hg hm (by decide +kernel) (pa_cons (pe_callTy (cr_setL hc) hg2 hm2 (by decide +kernel) (pa_cons ha.pe pa_nil he) (by decide) (by decide) he hpl) pa_nil he2) (by decide) (by decide) he2 hpl2) fun σ H Q ⟨m, h, ρ, R, S, q⟩ => ?_, .sset mo⟩
  refine LE.bind ha.mono R S q fun m1 H1 v d h1 s1 R1 rd S1 q1 => ?_
  obtain ⟨xs, e, q2⟩ := onLst'_some q1
  obtain ⟨a, vs, rfl, sq, rs⟩ := listOf_lift R1 rd e
  exact sset_core s1 R1 sq rs q2
end
end F3
set_option maxHeartbeats 1000000
/-! FM: sorted of a tuple of ints; sorted(set(xs)) of a list of pairs of ints. -/
namespace F3
open PySem PySem.Spec PyProof.Rows L2

section
variable {prog : Program} {w : World} {A : Around} {E : Value → Shared → Prop} {s : Shared}
theorem collect_tup {l : Addr} {vs : List Value} {Q : List Value → Shared → Prop} (hl : IsTup s.heap l vs.toArray)
    (h : Q vs { s with heap := (s.heap.push (seqObj "list" #[] 0)).update s.heap.objs.size (Obj.mapSeq (· ++ vs.toArray)) }) (hsz : vs.length ≤ sizeLine) :
    wpAny (model prog w) A (collect (.ref l)) Q E s := by
  obtain ⟨o, ho, hc, n, hd⟩ := id hl
  unfold collect
  refine wpAny_bind (wpAny_runValue (codeAny_builtin entry_proto_collect' ?_))
  refine wpAny_bind (wpAny_newList (wpAny_pure ⟨Code.quiet_builtin _ (by decide +kernel), codeAny_builtin entry_list_iadd' ?_⟩))
  show wpAny _ _ (Builtin.List.listExtendWith (.ref s.heap.objs.size) (.ref l) (.ref s.heap.objs.size)) _ _ { s with heap := s.heap.push (seqObj "list" #[] 0) }
  unfold Builtin.List.listExtendWith
  have ho' : (s.heap.push (seqObj "list" #[] 0)).get? l = some o := Heap.get?_push_of_some _ ho
  refine wpAny_bind (wpAny_typeOf (T := "tuple") ⟨o, ho', hc⟩ ?_)
  have ht : (Value.type "tuple" == Value.type "tuple") = true := by rfl
  rw [if_pos (by rw [ht]; simp)]
  refine wpAny_bind (listItems_at ho' hd ?_)
  refine wpAny_bind (listItems_at (xs := #[]) (n := 0) (Heap.get?_push_size _ rfl) rfl ?_)
  rw [if_neg (by simp)]
  refine wpAny_bind (listUpdate_at (xs := #[]) (n := 0) (Heap.get?_push_size _ rfl) rfl ?_ (Nat.zero_le _) (by show (#[] ++ vs.toArray).size ≤ sizeLine + 1; simp only [Array.size_append, List.size_toArray, List.length_nil]; omega))
  refine wpAny_pure ?_
  refine wpAny_bind (wpAny_load (get?_update_seq (Heap.get?_push_size _ rfl) _) ?_)
  show wpAny _ _ (pure ((#[] : Array Value) ++ vs.toArray).toList) Q E _
  rw [show ((#[] : Array Value) ++ vs.toArray).toList = vs by simp]
  exact wpAny_pure h
open SrtO in
theorem sorted_tup {l : Addr} {vs : List Value} {ltv : Value → Value → Bool} {Q : Value → Shared → Prop} (O : Swo ltv) (hl : IsTup s.heap l vs.toArray) (hz : vs.length ≤ sizeLine)
    (hS : 2 ≤ vs.length → ∀ (h₁ : Heap) (a : Addr), h₁.get? a = some (seqObj "list" vs.toArray 0) → (∀ b o, s.heap.get? b = some o → b ≠ a ∧ h₁.get? b = some o) → SortableO prog w A.in1.in1 { s with heap := h₁ } a vs ltv)
    (h : ∀ out : List Value, Srtd ltv out → Stb ltv out vs → Q (.ref (s.heap.objs.size + 1)) { s with heap := sortedAll s.heap vs out.toArray }) :
    wpAny (model prog w) A (call (.builtin "sorted") [.ref l]) Q E s := by
  refine Calls.call_function_entry kind_sorted plain_sorted entry_sorted (args_sorted1 _) ?_
  unfold Builtin.«sorted»
  refine wpAny_bind (m := checkCount "sorted" 1 1 _) (wpAny_pure ?_)
  refine wpAny_bind (collect_tup hl ?_ hz)
  refine wpAny_bind (wpAny_newList ?_ hz)
  have hsz : ((s.heap.push (seqObj "list" #[] 0)).update s.heap.objs.size (Obj.mapSeq (· ++ vs.toArray))).objs.size = s.heap.objs.size + 1 := by
    rw [Heap.size_update, size_push']
  have hoL : (((s.heap.push (seqObj "list" #[] 0)).update s.heap.objs.size (Obj.mapSeq (· ++ vs.toArray))).push (seqObj "list" vs.toArray 0)).get? (s.heap.objs.size + 1) = some (seqObj "list" vs.toArray 0) := by
    rw [← hsz]; exact Heap.get?_push_size _ rfl
  have keep : ∀ b o, s.heap.get? b = some o → b ≠ s.heap.objs.size + 1 ∧ (((s.heap.push (seqObj "list" #[] 0)).update s.heap.objs.size (Obj.mapSeq (· ++ vs.toArray))).push (seqObj "list" vs.toArray 0)).get? b = some o := fun b o q => by
    have hlt : b < s.heap.objs.size := Heap.lt_size q
    refine ⟨Nat.ne_of_lt (Nat.lt_succ_of_lt hlt), Heap.get?_push_of_some _ ?_⟩
    rw [Heap.get?_update_ne _ _ _ _ (Nat.ne_of_lt hlt)]
    exact Heap.get?_push_of_some _ q
  show wpAny _ _ _ _ _ { s with heap := ((s.heap.push (seqObj "list" #[] 0)).update s.heap.objs.size (Obj.mapSeq (· ++ vs.toArray))).push (seqObj "list" vs.toArray 0) }
  rw [hsz]
  refine wpAny_bind (wpAny_holding (wpAny_call_entry slot_list_sort ⟨_, hoL, rfl⟩ entry_list_sort (list_sort_ord O hoL hz (fun h2 => hS h2 _ _ hoL keep) fun out hs hb => ⟨_, rfl, ?_⟩) (args_list_sort _)))
  exact wpAny_pure ⟨_, rfl, h out hs hb⟩
end
section
variable {X : Cx}
def rSortedIT (K : PySem.W.Frag) : List V → Hp → VK → Prop := fun vs H Q => ∃ (a : Addr) (ns : List Int), vs = [V.ref a] ∧ SqT K H a (ns.map V.int) ∧
  ∀ (ns' : List Int) (p : Addr), ns'.Perm ns → ns'.Pairwise (· ≤ ·) → H p = none → Q (.ref p) (upd H p (.lst (ns'.map V.int)))
theorem cr_sortedIT : CallR X (.builtin "sorted") (rSortedIT X.K) := by
  intro pins s σ H vs us Q I r h
  obtain ⟨a, ns, rfl, hs, q⟩ := h
  obtain ⟨its, rv, hl, hz⟩ := I.tuple hs
  rw [Vals.ref1 r]
  have hi := rv.ints
  refine sorted_tup SrtO.swo_int hl (by rw [← rv.length]; exact hz) (fun h2 h₁ a' _ _ => SrtO.ints_sortable hi h2) fun out h1 h2 => ?_
  obtain ⟨k1, k2, k3⟩ := SrtO.ints_out hi h1 h2
  obtain ⟨ep, he'⟩ := PyProof.Rows.sortedAll_at s.heap its out.toArray
  have hlen : ((out.map SrtO.iv).map V.int).length ≤ sizeLine := by
    rw [List.length_map, k2.length_eq]
    rw [List.length_map] at hz
    exact hz
  exact ⟨.ref _, upd H (s.heap.objs.size + 1) (.lst ((out.map SrtO.iv).map V.int)), I.laid (t' := s.toks) (fun _ _ => PyProof.Rows.sortedAll_old) (Nat.le_succ _) ⟨hlen, out, ep, vals_of_ints k1, he'⟩, rfl, q _ _ k2 k3 (I.hok.fresh (Nat.le_succ _))⟩
/-- of a tuple -/
def onTM (r : M3) : M3 := fun xs h Q => match xs with
  | [.tup ys] => r ys h Q
  | _ => False
theorem onTM_t {r : M3} {ys : List D} {h : Sto} {Q : List D → Sto → Prop} : onTM r [.tup ys] h Q = r ys h Q := rfl
theorem kl_sortedT : CallL3 X (.builtin "sorted") (onTM srtX) := by
  refine ⟨fun xs h Q Q' w q => ?_, _, cr_sortedIT, fun m h H xs vs Q R rs q => ?_⟩
  · unfold onTM at q ⊢
    split at q
    · unfold srtX at q ⊢
      split at q
      · exact fun ns' h1 h2 => w _ _ (q ns' h1 h2)
      · exact q.elim
    · exact q.elim
  · unfold onTM at q
    split at q
    · match vs, rs with
      | [_], .cons (.tup sq rr) .nil =>
        unfold srtX at q
        split at q
        next ns e =>
          have e1 := intsOf_eq e
          subst e1
          exact ⟨_, ns, rfl, by rw [← rr.ints]; exact TH sq, fun ns' p h1 h2 hp => UpX.laid R (srt_ints ns') (q ns' h1 h2) p hp⟩
        next => exact q.elim
    · exact q.elim
/-! ### pairs -/
def prD (p : Int × Int) : D := .tup [.int p.1, .int p.2]
def prsOf : List D → Option (List (Int × Int))
  | [] => some []
  | .tup [.int x, .int y] :: r => (prsOf r).map ((x, y) :: ·)
  | _ :: _ => none
theorem prsOf_map : ∀ ns : List (Int × Int), prsOf (ns.map prD) = some ns
  | [] => rfl
  | p :: r => by
    rw [List.map_cons]
    unfold prD
    simp only [prsOf]
    have := prsOf_map r
    unfold prD at this
    rw [this]
    rfl
theorem prsOf_eq : ∀ {xs : List D} {ns : List (Int × Int)}, prsOf xs = some ns → xs = ns.map prD := by
  intro xs
  induction xs with
  | nil => intro ns e; simp [prsOf] at e; subst e; rfl
  | cons x r ih =>
    intro ns e
    unfold prsOf at e
    split at e
    next => simp_all
    next z1 a b r' ez =>
      injection ez with e1 e2
      subst e1 e2
      simp only [Option.map_eq_some_iff] at e
      obtain ⟨ms, e, rfl⟩ := e
      rw [ih e]
      rfl
    next => cases e
def pkey (p : Int × Int) : Int := p.1 * 10000000000000000000000000000000000000000000000000000000000000000000000 + p.2
def PB (p : Int × Int) : Prop := 0 ≤ p.1 ∧ p.1 < 10000000000000000000000000000000000000000000000000000000000000000000000 ∧ 0 ≤ p.2 ∧ p.2 < 10000000000000000000000000000000000000000000000000000000000000000000000
def tSSet2 (t : A3) : A3 := fun ρ h Q => t ρ h fun xs h1 => match prsOf xs with
  | some ns => ns.length < 64 ∧ (∀ p ∈ ns, PB p) ∧ ∀ ms : List (Int × Int), ms.Pairwise (fun p q => pkey p < pkey q) → (∀ p, p ∈ ms ↔ p ∈ ns) → Q (ms.map prD) h1
  | none => False
theorem MonoA.sset2 {t : A3} (mt : MonoA t) : MonoA (tSSet2 t) := fun ρ h Q Q' w q => mt _ _ _ _ (fun xs h1 q1 => by
  split at q1
  · exact ⟨q1.1, q1.2.1, fun ms h1 h2 => w _ _ (q1.2.2 ms h1 h2)⟩
  · exact q1) q
theorem rel_prs {K : PySem.W.Frag} {m : List Addr} {H : Hp} : ∀ {ns : List (Int × Int)} {vs : List V}, RelDs K m H (ns.map prD) vs → ∃ ks : List (Addr × List Int), vs = ks.map (fun p => V.ref p.1) ∧ ks.map (·.2) = ns.map (fun p => [p.1, p.2]) ∧ ∀ p ∈ ks, TupA H p.1 (p.2.map V.int)
  | [], _, .nil => ⟨[], rfl, rfl, fun _ h => nomatch h⟩
  | p :: ns, _, .cons (.tup (a := a) sq rr) t => by
    obtain ⟨ks, e1, e2, e3⟩ := rel_prs t
    have e4 := RelDs.ints (ns := [p.1, p.2]) rr
    refine ⟨(a, [p.1, p.2]) :: ks, by rw [e1]; rfl, by rw [List.map_cons, List.map_cons, e2], fun q hq => ?_⟩
    rcases List.mem_cons.mp hq with rfl | hq
    · rw [← e4]; exact sq
    · exact e3 q hq
theorem code128 (x y : Int) : TS.code 10000000000000000000000000000000000000000000000000000000000000000000000 [x, y] = x * 10000000000000000000000000000000000000000000000000000000000000000000000 + y := by
  have e1 : (10000000000000000000000000000000000000000000000000000000000000000000000 : Int) ^ 1 = 10000000000000000000000000000000000000000000000000000000000000000000000 := by rw [Int.pow_succ, Int.pow_zero, Int.one_mul]
  have e0 : (10000000000000000000000000000000000000000000000000000000000000000000000 : Int) ^ 0 = 1 := Int.pow_zero _
  show x * 10000000000000000000000000000000000000000000000000000000000000000000000 ^ 1 + (y * 10000000000000000000000000000000000000000000000000000000000000000000000 ^ 0 + 0) = x * 10000000000000000000000000000000000000000000000000000000000000000000000 + y
  rw [e1, e0, Int.mul_one, Int.add_zero]
def tp : List Int → Int × Int
  | [x, y] => (x, y)
  | _ => (0, 0)
theorem rel_tp {K : PySem.W.Frag} {m : List Addr} {H : Hp} : ∀ (L : List (Addr × List Int)), (∀ q ∈ L, TupA H q.1 (q.2.map V.int) ∧ ∃ x y, q.2 = [x, y]) → RelDs K m H ((L.map fun q => tp q.2).map prD) (L.map fun q => V.ref q.1)
  | [], _ => .nil
  | q :: L, h => by
    obtain ⟨sq, x, y, e⟩ := h q List.mem_cons_self
    refine .cons ?_ (rel_tp L fun q hq => h q (List.mem_cons_of_mem _ hq))
    show RelD K m H (prD (tp q.2)) (V.ref q.1)
    rw [e] at sq ⊢
    exact .tup sq (.cons (.int x) (.cons (.int y) .nil))
theorem sset2_core {K : PySem.W.Frag} {P : Program} {w : World} {m m1 : List Addr} {H H1 : Hp} {h1 : Sto} {l : Addr} {xs : List D} {vs : List V} {Q : VK} (s1 : Step m H m1 H1) (R1 : Rep K m1 h1 H1) (sq : SqL K H1 l vs) (rs : RelDs K m1 H1 xs vs)
    (q : match prsOf xs with
      | some ns => ns.length < 64 ∧ (∀ p ∈ ns, PB p) ∧ ∀ ms : List (Int × Int), ms.Pairwise (fun p q => pkey p < pkey q) → (∀ p, p ∈ ms ↔ p ∈ ns) → UpX K m H Q (ms.map prD) h1
      | none => False) : rSetOfT K P w [.ref l] H1 fun x H2 => rSortedT K P w [x] H2 Q := by
  split at q
  next ns e =>
    have e1 := prsOf_eq e
    subst e1
    obtain ⟨ks, ek, en, hk⟩ := rel_prs rs
    have hpr : ∀ p ∈ ks, ∃ x y, p.2 = [x, y] ∧ (x, y) ∈ ns := fun p hp => by
      have : p.2 ∈ ns.map (fun p => [p.1, p.2]) := by rw [← en]; exact List.mem_map_of_mem hp
      obtain ⟨r, hr, er⟩ := List.mem_map.mp this
      exact ⟨r.1, r.2, er.symm, hr⟩
    have hback : ∀ r ∈ ns, ∃ p ∈ ks, p.2 = [r.1, r.2] := fun r hr => by
      have : [r.1, r.2] ∈ ks.map (·.2) := by rw [en]; exact List.mem_map_of_mem (f := fun p : Int × Int => [p.1, p.2]) hr
      obtain ⟨p, hp, ep⟩ := List.mem_map.mp this
      exact ⟨p, hp, ep⟩
    have hlen : ks.length = ns.length := by have := congrArg List.length en; simpa using this
    refine ⟨l, ks, rfl, by rw [← ek]; exact sq, fun p hp => TH (hk p hp), by rw [hlen]; exact q.1, fun a L ha h1' h2 => ⟨a, L, 2, 10000000000000000000000000000000000000000000000000000000000000000000000, rfl, upd_same, fun p hp => SqT.step R1 (Step.lay ha) (TH (hk p (h1' p hp))), by decide, fun p hp => ?_, fun L' p pm nd _ pw hp => ?_⟩⟩
    · obtain ⟨x, y, exy, hm⟩ := hpr p (h1' p hp)
      have b := q.2.1 _ hm
      unfold PB at b
      refine ⟨by rw [exy]; rfl, ?_⟩
      rw [exy]
      intro z hz
      rcases List.mem_cons.mp hz with rfl | hz
      · exact ⟨b.1, b.2.1⟩
      · rw [List.mem_singleton.mp hz]; exact ⟨b.2.2.1, b.2.2.2⟩
    · have hin : ∀ r ∈ L', r ∈ ks := fun r hr => h1' r (pm.mem_iff.mp hr)
      refine UpX.laid (R1.lay ha) (rel_tp L' fun r hr => ?_) ?_ p hp
      · obtain ⟨x, y, exy, _⟩ := hpr r (hin r hr)
        exact ⟨TupA.step R1 (Step.lay ha) (hk r (hin r hr)), x, y, exy⟩
      · refine UpX.step (s1.trans (Step.lay ha)) (R1.lay ha) (q.2.2 _ ?_ fun r => ?_)
        · rw [List.pairwise_map]
          have nd' : L'.Pairwise (fun a b => a.2 ≠ b.2) := List.pairwise_map.mp nd
          refine (pw.and nd').imp_of_mem fun {u v} hu hv ⟨h3, h4⟩ => ?_
          obtain ⟨x, y, exy, hm⟩ := hpr u (hin u hu)
          obtain ⟨x', y', exy', hm'⟩ := hpr v (hin v hv)
          rw [exy, exy', code128, code128] at h3
          rw [exy, exy'] at h4 ⊢
          have b := q.2.1 _ hm
          have b' := q.2.1 _ hm'
          simp only [PB] at b b'
          simp only [tp, pkey]
          rcases Int.lt_or_eq_of_le h3 with h3 | h3
          · exact h3
          · exfalso
            apply h4
            have e1 : x = x' := by omega
            have e2 : y = y' := by omega
            rw [e1, e2]
        · constructor
          · intro hr
            obtain ⟨u, hu, rfl⟩ := List.mem_map.mp hr
            obtain ⟨x, y, exy, hm⟩ := hpr u (hin u hu)
            rw [exy]
            exact hm
          · intro hr
            obtain ⟨u, hu, eu⟩ := hback r hr
            obtain ⟨v, hv, ev⟩ := List.mem_map.mp (h2 u hu)
            refine List.mem_map.mpr ⟨v, pm.mem_iff.mpr hv, ?_⟩
            rw [ev, eu]
            rfl
  next => exact q.elim
theorem x3_sset2 {e : Expr} {t : A3} {p pos p2 pos2 : Pos} (hc : X.calm = true) (hu : X.A.units + 64 < cLine) (hm : X.mg "sorted" = none) (hm2 : X.mg "set" = none) (ha : PX3 X e t) (hg : Gl X "sorted" := by rfl) (hg2 : Gl X "set" := by rfl)
    (he : starEach [e] X.env = (false, eval e X.env) :: starEach [] X.env := by rfl) (hpl : (backTo pos2 (starEach [] X.env)).any (·.1) = false := by rfl)
    (he2 : starEach [.Call (.Name "set" p2) [e] [] pos2] X.env = (false, eval (.Call (.Name "set" p2) [e] [] pos2) X.env) :: starEach [] X.env := by rfl) (hpl2 : (backTo pos (starEach [] X.env)).any (·.1) = false := by rfl) :
    PX3 X (.Call (.Name "sorted" p) [.Call (.Name "set" p2) [e] [] pos2] [] pos) (tSSet2 t) := by
  refine ⟨PE.weak (pe_callB (cr_sortedT hc) hg hm (by decide +kernel) (pa_cons (pe_callTy (cr_setOfT hc hu) hg2 hm2 (by decide +kernel) (pa_cons ha.pe pa_nil he) (by decide) (by decide) he hpl) pa_nil he2) (by decide) (by decide) he2 hpl2) fun σ H Q ⟨m, h, ρ, R, S, q⟩ => ?_, .sset2 ha.mono⟩
  refine LX.bind ha.mono R S q fun m1 H1 a vs xs h1 s1 R1 ea na hm rs S1 q1 => ?_
  exact sset2_core s1 R1 (.inl (.inl ea)) rs q1
end
end F3
/-! LP: the laws' own helps: a cell of the script, a purse of draws, a digit taken. -/
namespace F3
open PySem PySem.Spec PyProof.Rows L2

theorem atI_get {α : Type} {xs : List α} {k : Int} (h0 : 0 ≤ k) (h1 : k < xs.length) : atI xs k = xs[k.toNat]? := by
  unfold atI ixN
  rw [if_pos h0, if_pos h1]; rfl
theorem atI_some {α : Type} {xs : List α} {k : Int} (h0 : 0 ≤ k) (h1 : k < xs.length) : ∃ x, atI xs k = some x ∧ xs[k.toNat]? = some x := by
  rw [atI_get h0 h1]
  have hl : k.toNat < xs.length := by omega
  exact ⟨xs[k.toNat], List.getElem?_eq_getElem hl, List.getElem?_eq_getElem hl⟩
theorem atI_map {α β : Type} (f : α → β) (xs : List α) (k : Int) : atI (xs.map f) k = (atI xs k).map f := by
  unfold atI
  rw [List.length_map]
  cases ixN xs.length k with
  | none => rfl
  | some j => simp

def t_cell_at : C3 :=
  (cSeq (cIf (tT (tO ltR (tV 1) (tB3 lenR (tC3 (tV 0) tN3)))) (cRet (tO ixR (tV 0) (tV 1))) cNext)
    (cRet (tK (.int 0))))

def sp_cell_at : Sp3 := spR (fun (a : List Int × Int) => [.fl (a.1.map .int), .int a.2]) (fun a _ => 0 ≤ a.2) (fun a h d h' => ∃ c : Int, .int c = d ∧ h = h')
theorem mono_cell_at : MonoS sp_cell_at := mono_spR
theorem len_cell_at : ∀ ds h Q E, sp_cell_at ds h Q E → ds.length = 2 := len_spR fun _ => rfl
theorem rd_cell_at : ∀ ds h Q E, ClS h.length h → ClDs h.length ds → sp_cell_at ds h Q E → t_cell_at (ends3 (GQ h.length Q)) (start3 2 ds) h := by
  rintro ds h Q E _ _ ⟨⟨ns, k⟩, rfl, hk, q⟩
  try simp only [tV, tK, tO, tT, tN3, tC3, cNext, cSeq, cRet, cIf, tB3, start3, ends3, ltR_ii, ixR_fi, lenR_f, List.getElem?_cons_zero, List.getElem?_cons_succ, List.map_cons, List.map_nil, List.cons_append, List.nil_append, List.length_cons, List.length_nil, List.replicate_zero, decide_eq_true_eq, Nat.reduceAdd, Nat.reduceSub, t_cell_at]
  split
  next hlt =>
    obtain ⟨x, e, _⟩ := atI_some (xs := ns) (k := k) hk (by simpa using hlt)
    rw [atD_of (by rw [atI_map, e]; rfl)]
    exact .inl (q _ _ ⟨x, rfl, rfl⟩)
  next => exact .inl (q _ _ ⟨0, rfl, rfl⟩)

/-- a purse of draws: a number and a seed -/
def DrawOk (c s : Int) : Prop := 0 ≤ c ∧ 0 ≤ s ∧ s < 2147483648
def draw (c s : Int) : Cell := .lst [.int c, .int s]
def b_purse_1 : C3 :=
  (cSeq (cAsg (tO addR (tO addR (tO mulR (tV 3) (tK (.int 48271))) (tO modR (tCall3 sp_cell_at (tC3 (tV 0) (tC3 (tO addR (tV 1) (tV 4)) tN3))) (tK (.int 2147483647)))) (tO mulR (tK (.int 131)) (tV 4))) (gN 3))
    (cAsg (tO modR (tV 3) (tK (.int 2147483629))) (gN 3)))
def r_purse_1 : C3 :=
  (cSeq (cAsg (tO addR (tO mulR (tK (.int 17)) (tV 1)) (tK (.int 5))) (gN 3))
    (cSeq (cFor (iRng (tC3 (tK (.int 9)) tN3)) (gN 4) b_purse_1)
    (cRet (tNew (tC3 (tK (.int 0)) (tC3 (tO addR (tV 3) (tK (.int 1))) tN3))))))
def t_purse : C3 :=
  (cSeq (cAsg (tCall3 sp_cell_at (tC3 (tV 0) (tC3 (tV 1) tN3))) (gN 2))
    (cSeq (cIf (tT (tO geR (tV 2) (tO powR (tK (.int 10)) (tK (.int 18))))) (cRet (tNew (tC3 (tV 2) (tC3 (tK (.int 0)) tN3)))) cNext)
    r_purse_1))

def sp_purse : Sp3 := spR (fun (a : List Int × Int) => [.fl (a.1.map .int), .int a.2]) (fun a _ => 0 ≤ a.2 ∧ a.2 < 1000) (fun a h d h' => ∃ c s : Int, DrawOk c s ∧ .ref h.length = d ∧ h' = h ++ [draw c s])
theorem mono_purse : MonoS sp_purse := mono_spR
theorem len_purse : ∀ ds h Q E, sp_purse ds h Q E → ds.length = 2 := len_spR fun _ => rfl
theorem purse_loop {E : Ends3} {ns : List Int} {k : Int} {o2 : Option D} {h : Sto} (hk : 0 ≤ k) : ∀ (xs : List D), (∀ x ∈ xs, ∃ j : Int, x = .int j ∧ 0 ≤ j) → ∀ (seed : Int) (o4 : Option D), 0 ≤ seed → seed < 2147483647 →
    (∀ (seed : Int) (o4 : Option D), 0 ≤ seed → seed < 2147483647 → E.nx [some (.fl (ns.map .int)), some (.int k), o2, some (.int seed), o4] h) →
    forI (gN 4) b_purse_1 (fun _ => True) E xs [some (.fl (ns.map .int)), some (.int k), o2, some (.int seed), o4] h := by
  intro xs
  induction xs with
  | nil => exact fun _ seed o4 h0 h1 q => ⟨trivial, q seed o4 h0 h1⟩
  | cons x r ih =>
    intro hx seed o4 h0 h1 q
    obtain ⟨j, rfl, hj⟩ := hx x List.mem_cons_self
    try simp only [tV, tK, tO, tN3, tC3, cSeq, cAsg, gN, tCall3, addR_ii, mulR_ii, List.getElem?_cons_zero, List.getElem?_cons_succ, List.set_cons_zero, List.set_cons_succ, true_and, forI, b_purse_1]
    refine ⟨mulOk_r (by decide), (ns, k + j), rfl, by show 0 ≤ k + j; omega, ?_⟩
    rintro _ _ ⟨c', rfl, rfl⟩
    try simp only [addR_ii, modR_ii]
    refine ⟨by decide, mulOk_l (by decide), by decide, ?_⟩
    exact ih (fun x hx' => hx x (List.mem_cons_of_mem _ hx')) _ _ (by omega) (by omega) q
theorem rd_purse : ∀ ds h Q E, ClS h.length h → ClDs h.length ds → sp_purse ds h Q E → t_purse (ends3 (GQ h.length Q)) (start3 5 ds) h := by
  rintro ds h Q E _ _ ⟨⟨ns, k⟩, rfl, hk, q⟩
  try simp only [tV, tK, tO, tT, tN3, tC3, tNew, cNext, cSeq, cRet, cIf, cAsg, gN, tCall3, start3, ends3, powR_ii, List.getElem?_cons_zero, List.getElem?_cons_succ, List.set_cons_zero, List.set_cons_succ, List.map_cons, List.map_nil, List.cons_append, List.nil_append, List.length_cons, List.length_nil, List.replicate_succ, List.replicate_zero, Nat.reduceAdd, Nat.reduceSub, t_purse]
  refine ⟨(ns, k), rfl, hk.1, ?_⟩
  rintro _ _ ⟨c, rfl, rfl⟩
  try simp only [geR_ii, decide_eq_true_eq]
  refine ⟨by decide, ?_⟩
  split
  next h18 =>
    have : (0 : Int) ≤ 10 ^ (Int.toNat 18) := by decide
    exact .inl (q _ _ ⟨c, 0, ⟨by omega, by decide, by decide⟩, rfl, rfl⟩)
  next =>
    refine ⟨mulOk_l (by decide), by decide, ?_⟩
    have hk' : 0 ≤ k ∧ k < 1000 := hk
    refine purse_loop hk'.1 _ (fun x hx => ?_) _ _ (by omega) (by omega) fun seed o4 h0 h1 => ?_
    · obtain ⟨j, hj, rfl⟩ := List.mem_map.mp hx
      have := List.mem_range.mp hj
      exact ⟨j, rfl, by omega⟩
    · try simp only [tV, tK, tO, tN3, tC3, tNew, cRet, addR_ii, List.getElem?_cons_zero, List.getElem?_cons_succ]
      exact .inl (q _ _ ⟨0, seed + 1, ⟨by decide, by omega, by omega⟩, rfl, rfl⟩)

def b_take_1 : C3 :=
  (cSeq (cAsg (tO modR (tO mulR (tO ixR (tV 0) (tK (.int 1))) (tK (.int 48271))) (tK (.int 2147483647))) (gSub3 (tV 0) (tK (.int 1))))
    (cAsg (tO addR (tO mulR (tV 3) (tK (.int 2147483647))) (tO modR (tO mulR (tO ixR (tV 0) (tK (.int 1))) (tO ixR (tV 0) (tK (.int 1)))) (tK (.int 2147483629)))) (gN 3)))
def r_take_1 : C3 :=
  (cSeq (cAsg (tK (.int 0)) (gN 3))
    (cSeq (cFor (iRng (tC3 (tO addR (tK (.int 1)) (tO divR (tBits3 (tV 1)) (tK (.int 28)))) tN3)) (gN 4) b_take_1)
    (cRet (tO modR (tO divR (tV 3) (tK (.int 7))) (tV 1)))))
def t_take : C3 :=
  (cSeq (cIf (tT (tO eqR (tO ixR (tV 0) (tK (.int 1))) (tK (.int 0)))) (cSeq (cAsg (tO modR (tO ixR (tV 0) (tK (.int 0))) (tV 1)) (gN 2))
    (cSeq (cAsg (tO divR (tO ixR (tV 0) (tK (.int 0))) (tV 1)) (gSub3 (tV 0) (tK (.int 0))))
    (cRet (tV 2)))) cNext)
    r_take_1)

def sp_take : Sp3 := spR (fun (a : Nat × Int × Int × Int) => [.ref a.1, .int a.2.2.2]) (fun a h => h[a.1]? = some (draw a.2.1 a.2.2.1) ∧ DrawOk a.2.1 a.2.2.1 ∧ 0 < a.2.2.2 ∧ a.2.2.2 < 2 ^ 2000)
  (fun a h d h' => ∃ c s r : Int, DrawOk c s ∧ 0 ≤ r ∧ r < a.2.2.2 ∧ .int r = d ∧ h' = h.set a.1 (draw c s))
theorem mono_take : MonoS sp_take := mono_spR
theorem len_take : ∀ ds h Q E, sp_take ds h Q E → ds.length = 2 := len_spR fun _ => rfl
theorem getElem?_set_of {α : Type} {h : List α} {n : Nat} {c c' : α} (e : h[n]? = some c) : (h.set n c')[n]? = some c' := List.getElem?_set_self (List.getElem?_eq_some_iff.mp e).1
theorem intBits_le {n : Int} (h0 : 0 < n) (h : n < 2 ^ 2000) : Builtin.Int.intBits n ≤ 2001 := by
  unfold Builtin.Int.intBits
  split
  · omega
  · have : n.natAbs < 2 ^ 2000 := by omega
    have := PySem.Flt.log2_lt_of (by decide) this
    omega
theorem set_same {α : Type} {h : List α} {n : Nat} {c : α} (e : h[n]? = some c) : h.set n c = h := by
  apply List.ext_getElem?
  intro i
  by_cases hi : n = i
  · subst hi
    rw [getElem?_set_of e, e]
  · rw [List.getElem?_set_ne hi]
theorem take_loop {E : Ends3} {a : Nat} {c n : Int} {o2 : Option D} : ∀ (xs : List D) (h : Sto) (s found : Int) (o4 : Option D), h[a]? = some (draw c s) → 0 ≤ s → s < 2147483648 →
    (∀ (s found : Int) (o4 : Option D), 0 ≤ s → s < 2147483648 → E.nx [some (.ref a), some (.int n), o2, some (.int found), o4] (h.set a (draw c s))) →
    forI (gN 4) b_take_1 (fun _ => True) E xs [some (.ref a), some (.int n), o2, some (.int found), o4] h := by
  intro xs
  induction xs with
  | nil =>
    intro h s found o4 ha h0 h1 q
    have := q s found o4 h0 h1
    rw [set_same ha] at this
    exact ⟨trivial, this⟩
  | cons x r ih =>
    intro h s found o4 ha h0 h1 q
    have ha' : h[a]? = some (Cell.lst [.int c, .int s]) := ha
    have i1 : ∀ u v : D, atI [u, v] 1 = some v := fun _ _ => rfl
    have j1 : ixN 2 1 = some 1 := rfl
    try simp only [tV, tK, tO, cSeq, cAsg, gN, gSub3, onLst_some, mulR_ii, modR_ii, ixR_ri, atD_0, atD_1, setR_ri, List.getElem?_cons_zero, List.getElem?_cons_succ, List.set_cons_zero, List.set_cons_succ, List.length_cons, List.length_nil, Nat.reduceAdd, true_and, forI, b_take_1, ha', j1]
    refine ⟨mulOk_r (by decide), by decide, ?_⟩
    try simp only [onLst_some, addR_ii, mulR_ii, modR_ii, atD_0, atD_1, getElem?_set_of ha']
    refine ⟨mulOk_r (by decide), mulOk_l (by omega), by decide, ?_⟩
    refine ih _ (s * 48271 % 2147483647) _ _ (getElem?_set_of ha') (by omega) (by omega) fun s' f' o' g0 g1 => ?_
    rw [List.set_set]
    exact q s' f' o' g0 g1
theorem rd_take : ∀ ds h Q E, ClS h.length h → ClDs h.length ds → sp_take ds h Q E → t_take (ends3 (GQ h.length Q)) (start3 5 ds) h := by
  rintro ds h Q E _ _ ⟨⟨a, c, s, n⟩, rfl, ⟨ha, hd, hn0, hn1⟩, q⟩
  have ha' : h[a]? = some (Cell.lst [.int c, .int s]) := ha
  have hn0' : 0 < n := hn0
  have hn1' : n < 2 ^ 2000 := hn1
  have hd' : 0 ≤ c ∧ 0 ≤ s ∧ s < 2147483648 := hd
  have i1 : ∀ u v : D, atI [u, v] 1 = some v := fun _ _ => rfl
  have i0 : ∀ u v : D, atI [u, v] 0 = some u := fun _ _ => rfl
  have j0 : ixN 2 0 = some 0 := rfl
  have j1 : ixN 2 1 = some 1 := rfl
  have hdiv : divOk n := divOk_of hn0' (Int.lt_of_lt_of_le hn1' (by decide))
  try simp only [tV, tK, tO, tT, cNext, cSeq, cRet, cIf, cAsg, gN, gSub3, start3, ends3, onLst_some, divR_ii, modR_ii, eqR_ii, ixR_ri, atD_0, atD_1, setR_ri, ixN2_0, List.getElem?_cons_zero, List.getElem?_cons_succ, List.set_cons_zero, List.set_cons_succ, List.map_cons, List.map_nil, List.cons_append, List.nil_append, List.length_cons, List.length_nil, List.replicate_succ, List.replicate_zero, decide_eq_true_eq, Nat.reduceAdd, Nat.reduceSub, t_take, ha']
  split
  next hs =>
    refine ⟨hn0', hdiv, ?_⟩
    exact .inl (q _ _ ⟨c / n, s, c % n, ⟨Int.ediv_nonneg hd'.1 (by omega), hd'.2⟩, Int.emod_nonneg _ (by omega), Int.emod_lt_of_pos _ hn0', rfl, rfl⟩)
  next hs =>
    have hb := intBits_le hn0' hn1'
    refine ⟨⟨by decide, by decide⟩, ⟨by omega, by omega⟩, ?_⟩
    refine take_loop _ h s 0 _ ha hd'.2.1 hd'.2.2 fun s found o4 h0 h1 => ?_
    try simp only [tV, tK, tO, cRet, divR_ii, modR_ii, List.getElem?_cons_zero, List.getElem?_cons_succ]
    refine ⟨⟨by decide, by decide⟩, hn0', .inl (q _ _ ⟨c, s, found / 7 % n, ⟨hd'.1, h0, h1⟩, Int.emod_nonneg _ (by omega), Int.emod_lt_of_pos _ hn0', rfl, rfl⟩)⟩
end F3
/-! LQ: sizes and pairings drawn. -/
namespace F3
open PySem PySem.Spec PyProof.Rows L2

/-- a draw more from the purse at a -/
theorem take_at {a : Nat} {c s n : Int} {h : Sto} {Q : DK} {E : X3} (ha : h[a]? = some (draw c s)) (hd : DrawOk c s) (h0 : 0 < n) (h1 : n < 2 ^ 2000)
    (q : ∀ c s r : Int, DrawOk c s → 0 ≤ r → r < n → Q (.int r) (h.set a (draw c s))) : sp_take [.ref a, .int n] h Q E :=
  ⟨(a, c, s, n), rfl, ⟨ha, hd, h0, h1⟩, by
    rintro _ _ ⟨c, s, r, hd, h0, h1, rfl, rfl⟩
    exact q c s r hd h0 h1⟩
theorem atI3 {α : Type} {xs : List α} {r : Int} (h0 : 0 ≤ r) (h1 : r < xs.length) : ∃ x, x ∈ xs ∧ atI xs r = some x := by
  obtain ⟨x, e1, e2⟩ := atI_some (xs := xs) h0 h1
  exact ⟨x, List.mem_of_getElem? e2, e1⟩

def t_size : C3 :=
  (cRet (tCall3 sp_take (tC3 (tV 0) (tC3 (tIxX (tC3 (tK (.int 4)) (tC3 (tK (.int 12)) (tC3 (tK (.int 40)) (tC3 (tO powR (tK (.int 10)) (tK (.int 6))) (tC3 (tO powR (tK (.int 10)) (tK (.int 30))) (tC3 (tO powR (tK (.int 10)) (tK (.int 60))) tN3)))))) (tCall3 sp_take (tC3 (tV 0) (tC3 (tK (.int 6)) tN3)))) tN3))))

def sp_size : Sp3 := spR (fun (a : Nat × Int × Int) => [.ref a.1]) (fun a h => h[a.1]? = some (draw a.2.1 a.2.2) ∧ DrawOk a.2.1 a.2.2)
  (fun a h d h' => ∃ c s r : Int, DrawOk c s ∧ 0 ≤ r ∧ r < 10 ^ 60 ∧ .int r = d ∧ h' = h.set a.1 (draw c s))
theorem mono_size : MonoS sp_size := mono_spR
theorem len_size : ∀ ds h Q E, sp_size ds h Q E → ds.length = 1 := len_spR fun _ => rfl
theorem rd_size : ∀ ds h Q E, ClS h.length h → ClDs h.length ds → sp_size ds h Q E → t_size (ends3 (GQ h.length Q)) (start3 1 ds) h := by
  rintro ds h Q E _ _ ⟨⟨a, c, s⟩, rfl, ⟨ha, hd⟩, q⟩
  try simp only [tV, tK, tO, tN3, tC3, cRet, tCall3, tIxX, start3, ends3, powR_ii, List.getElem?_cons_zero, List.map_cons, List.map_nil, List.cons_append, List.nil_append, List.length_cons, List.length_nil, List.replicate_zero, Nat.reduceAdd, Nat.reduceSub, t_size]
  refine ⟨by decide, by decide, by decide, take_at ha hd (by decide) (by decide) fun c s r hd h0 h1 => ?_⟩
  refine atD_all h0 h1 fun x hx => ?_
  have hx : ∃ n : Int, x = .int n ∧ 0 < n ∧ n ≤ 10 ^ 60 := by
    simp only [List.mem_cons, List.not_mem_nil, or_false] at hx
    rcases hx with rfl | rfl | rfl | rfl | rfl | rfl <;> exact ⟨_, rfl, by decide, by decide⟩
  obtain ⟨n, rfl, hn0, hn1⟩ := hx
  refine take_at (getElem?_set_of ha) hd hn0 (Int.lt_of_le_of_lt hn1 (by decide)) fun c s r hd h0 h1 => ?_
  rw [List.set_set]
  exact .inl (q _ _ ⟨c, s, r, hd, h0, by omega, rfl, rfl⟩)
theorem size_at {a : Nat} {c s : Int} {h : Sto} {Q : DK} {E : X3} (ha : h[a]? = some (draw c s)) (hd : DrawOk c s)
    (q : ∀ c s r : Int, DrawOk c s → 0 ≤ r → r < 10 ^ 60 → Q (.int r) (h.set a (draw c s))) : sp_size [.ref a] h Q E :=
  ⟨(a, c, s), rfl, ⟨ha, hd⟩, by
    rintro _ _ ⟨c, s, r, hd, h0, h1, rfl, rfl⟩
    exact q c s r hd h0 h1⟩
/-- a pairing as a value -/
def pr (low high long : Int) (t : Bool) : D := .tup [.int low, .int high, .int long, .bl t]
def r_pairing_1 : C3 :=
  (cRet (tTup3 (tC3 (tV 1) (tC3 (tO addR (tV 1) (tV 4)) (tC3 (tV 2) (tC3 (tO eqR (tCall3 sp_take (tC3 (tV 0) (tC3 (tK (.int 2)) tN3))) (tK (.int 1))) tN3))))))
def t_pairing : C3 :=
  (cSeq (cAsg (tCall3 sp_size (tC3 (tV 0) tN3)) (gN 1))
    (cSeq (cAsg (tO addR (tK (.int 1)) (tCall3 sp_size (tC3 (tV 0) tN3))) (gN 2))
    (cSeq (cAsg (tCall3 sp_take (tC3 (tV 0) (tC3 (tK (.int 6)) tN3))) (gN 3))
    (cSeq (cAsg (tCall3 sp_size (tC3 (tV 0) tN3)) (gN 4))
    (cSeq (cIf (tT (tO ltR (tV 3) (tK (.int 4)))) (cAsg (tIxX (tC3 (tK (.int 0)) (tC3 (tO modR (tV 4) (tV 2)) (tC3 (tV 2) (tC3 (tO addR (tV 2) (tV 4)) tN3)))) (tV 3)) (gN 4)) cNext)
    r_pairing_1)))))

def sp_pairing : Sp3 := spR (fun (a : Nat × Int × Int) => [.ref a.1]) (fun a h => h[a.1]? = some (draw a.2.1 a.2.2) ∧ DrawOk a.2.1 a.2.2)
  (fun a h d h' => ∃ c s low gap long : Int, ∃ t : Bool, DrawOk c s ∧ 0 ≤ low ∧ 0 ≤ gap ∧ 1 ≤ long ∧ low < 10 ^ 60 ∧ gap ≤ 2 * 10 ^ 60 ∧ long ≤ 10 ^ 60 ∧ pr low (low + gap) long t = d ∧ h' = h.set a.1 (draw c s))
theorem mono_pairing : MonoS sp_pairing := mono_spR
theorem len_pairing : ∀ ds h Q E, sp_pairing ds h Q E → ds.length = 1 := len_spR fun _ => rfl
theorem rd_pairing : ∀ ds h Q E, ClS h.length h → ClDs h.length ds → sp_pairing ds h Q E → t_pairing (ends3 (GQ h.length Q)) (start3 5 ds) h := by
  rintro ds h Q E _ _ ⟨⟨a, c, s⟩, rfl, ⟨ha, hd⟩, q⟩
  try simp only [tV, tK, tO, tT, tN3, tC3, cNext, cSeq, cIf, cAsg, gN, tCall3, tIxX, start3, ends3, List.getElem?_cons_zero, List.getElem?_cons_succ, List.set_cons_zero, List.set_cons_succ, List.map_cons, List.map_nil, List.cons_append, List.nil_append, List.length_cons, List.length_nil, List.replicate_succ, List.replicate_zero, Nat.reduceAdd, Nat.reduceSub, t_pairing]
  refine size_at ha hd fun c s low hd l0 l1 => ?_
  have ha := getElem?_set_of (c' := draw c s) ha
  refine size_at ha hd fun c s long hd g0 g1 => ?_
  have ha := getElem?_set_of (c' := draw c s) ha
  try simp only [addR_ii]
  refine take_at ha hd (by decide) (by decide) fun c s way hd w0 w1 => ?_
  have ha := getElem?_set_of (c' := draw c s) ha
  refine size_at ha hd fun c s gap hd p0 p1 => ?_
  have ha := getElem?_set_of (c' := draw c s) ha
  try simp only [addR_ii, modR_ii, ltR_ii, decide_eq_true_eq, List.set_set]
  try simp only [List.set_set] at ha
  have fin : ∀ gap : Int, 0 ≤ gap → gap ≤ 2 * 10 ^ 60 → r_pairing_1 (ends3 (GQ h.length Q)) [some (.ref a), some (.int low), some (.int (1 + long)), some (.int way), some (.int gap)] (h.set a (draw c s)) := fun gap q0 q1 => by
    try simp only [tV, tK, tO, tN3, tC3, tTup3, cRet, tCall3, ends3, addR_ii, List.getElem?_cons_zero, List.getElem?_cons_succ, r_pairing_1]
    refine take_at ha hd (by decide) (by decide) fun c s r hd h0 h1 => ?_
    try simp only [eqR_ii, List.set_set]
    exact .inl (q _ _ ⟨c, s, low, gap, 1 + long, decide (r = 1), hd, l0, q0, by omega, l1, q1, by omega, rfl, rfl⟩)
  split
  next hw =>
    refine ⟨by omega, ?_⟩
    refine atD_all w0 hw fun x hx => ?_
    have hx : ∃ n : Int, x = .int n ∧ 0 ≤ n ∧ n ≤ 2 * 10 ^ 60 := by
      have m0 := Int.emod_nonneg gap (show (1 + long) ≠ 0 by omega)
      have m1 := Int.emod_lt_of_pos gap (show 0 < 1 + long by omega)
      simp only [List.mem_cons, List.not_mem_nil, or_false] at hx
      rcases hx with rfl | rfl | rfl | rfl <;> exact ⟨_, rfl, by omega, by omega⟩
    obtain ⟨n, rfl, hn0, hn1⟩ := hx
    exact fin n hn0 hn1
  next hw => exact fin gap p0 (by omega)
theorem pairing_at {a : Nat} {c s : Int} {h : Sto} {Q : DK} {E : X3} (ha : h[a]? = some (draw c s)) (hd : DrawOk c s)
    (q : ∀ c s low gap long t, DrawOk c s → 0 ≤ low → 0 ≤ gap → 1 ≤ long → low < 10 ^ 60 → gap ≤ 2 * 10 ^ 60 → long ≤ 10 ^ 60 → Q (pr low (low + gap) long t) (h.set a (draw c s))) : sp_pairing [.ref a] h Q E :=
  ⟨(a, c, s), rfl, ⟨ha, hd⟩, by
    rintro _ _ ⟨c, s, low, gap, long, t, hd, h0, h1, h2, h3, h4, h5, rfl, rfl⟩
    exact q c s low gap long t hd h0 h1 h2 h3 h4 h5⟩
end F3
/-! LR: pairings of the program: is_whole, is_pairing, paired, partner, forth, back, is_turn. -/
namespace F3
open PySem PySem.Spec PyProof.Rows L2

def isW : D → Bool
  | .int _ => true
  | _ => false
/-- a thing whose class is known -/
def Kn (h : Sto) (d : D) : Prop := ∃ a, tyN d h = some a
def t_is_whole : C3 :=
  (cRet (tAndE (tB3 isiR (tC3 (tV 0) (tC3 (tK (.ty "int")) tN3))) (tNotE (tB3 isiR (tC3 (tV 0) (tC3 (tK (.ty "bool")) tN3))))))

def sp_is_whole : Sp3 := spD (fun (d : D) => [d]) (fun d h => Kn h d) (fun d _ => .bl (isW d)) (fun _ h => h)
theorem mono_is_whole : MonoS sp_is_whole := mono_spD
theorem len_is_whole : ∀ ds h Q E, sp_is_whole ds h Q E → ds.length = 1 := len_spD fun _ => rfl
theorem tyN_w {d : D} {h : Sto} {a : String} (e : tyN d h = some a) : (isT a "int" && !isT a "bool") = isW d ∧ (isT a "bool" = true → ∃ b, d = .bl b) ∧ (isT a "tuple" = true → ∃ xs, d = .tup xs) := by
  have no : ∀ {a T : String}, isT a T = false → isT a T = true → False := fun h1 h2 => by rw [h1] at h2; cases h2
  have nob : ∀ {a : String} {d : D}, isT a "int" = false → isT a "bool" = false → isT a "tuple" = false → isW d = false → (isT a "int" && !isT a "bool") = isW d ∧ (isT a "bool" = true → ∃ b, d = .bl b) ∧ (isT a "tuple" = true → ∃ xs, d = .tup xs) := fun h1 h2 h3 h4 =>
    ⟨by rw [h1, h4]; rfl, fun h => (no h2 h).elim, fun h => (no h3 h).elim⟩
  cases d with
  | ref n =>
    simp only [tyN] at e
    split at e <;> first | (cases e; exact nob (by decide) (by decide) (by decide) rfl) | (cases e)
  | non => cases e; exact nob (by decide) (by decide) (by decide) rfl
  | bl b => cases e; exact ⟨rfl, fun _ => ⟨b, rfl⟩, fun h => (no (by decide) h).elim⟩
  | int b => cases e; exact ⟨rfl, fun h => (no (by decide) h).elim, fun h => (no (by decide) h).elim⟩
  | str b => cases e; exact nob (by decide) (by decide) (by decide) rfl
  | tup b => cases e; exact ⟨rfl, fun h => (no (by decide) h).elim, fun _ => ⟨b, rfl⟩⟩
  | fl b => cases e; exact nob (by decide) (by decide) (by decide) rfl
  | ty b => cases e
  | adr b => cases e
theorem rd_is_whole : ∀ ds h Q E, ClS h.length h → ClDs h.length ds → sp_is_whole ds h Q E → t_is_whole (ends3 (GQ h.length Q)) (start3 1 ds) h := by
  rintro ds h Q E _ _ ⟨d, rfl, ⟨a, e⟩, q⟩
  try simp only [tV, tK, tNotE, tN3, tC3, cRet, tB3, start3, ends3, isB_some, isiR_int, isiR_bool, ifB_b, tAndE_eq, List.getElem?_cons_zero, List.map_cons, List.map_nil, List.cons_append, List.nil_append, List.length_cons, List.length_nil, List.replicate_zero, Nat.reduceAdd, Nat.reduceSub, t_is_whole, e]
  have e2 := (tyN_w e).1
  have q' : Q (.bl (isW d)) h := q
  rw [← e2] at q'
  cases h1 : isT a "int" <;> cases h2 : isT a "bool" <;> simp only [h1, h2, Bool.not_true, Bool.not_false, Bool.and_true, Bool.and_false, Bool.true_and, Bool.false_and, if_true, if_false, Bool.false_eq_true] at q' ⊢ <;> exact .inl q'
theorem whole_at {d : D} {h : Sto} {Q : DK} {E : X3} (hk : Kn h d) (q : Q (.bl (isW d)) h) : sp_is_whole [d] h Q E := ⟨d, rfl, hk, q⟩
theorem kn_int {h : Sto} {i : Int} : Kn h (.int i) := ⟨_, rfl⟩
theorem kn_bl {h : Sto} {i : Bool} : Kn h (.bl i) := ⟨_, rfl⟩
theorem kn_tup {h : Sto} {i : List D} : Kn h (.tup i) := ⟨_, rfl⟩
theorem kn_str {h : Sto} {i : Str} : Kn h (.str i) := ⟨_, rfl⟩
theorem kn_non {h : Sto} : Kn h .non := ⟨_, rfl⟩
theorem kn_lst {h : Sto} {n : Nat} {xs : List D} (e : h[n]? = some (.lst xs)) : Kn h (.ref n) := ⟨_, tyN_r e⟩

def isPairing : D → Bool
  | .tup [.int low, .int high, .int long, .bl _] => decide (0 ≤ low) && (decide (low ≤ high) && decide (1 ≤ long))
  | _ => false
def r_is_pairing_2 : C3 :=
  (cRet (tAndE (tCh leR leR (tK (.int 0)) (tV 1) (tV 2)) (tO geR (tV 3) (tK (.int 1)))))
def r_is_pairing_1 : C3 :=
  (cSeq (cAsg (tV 0) (gTup3 4 (gCons3 (gN 1) (gCons3 (gN 2) (gCons3 (gN 3) (gCons3 (gN 4) gNil3))))))
    (cSeq (cIf (tOr3 (tNot3 (tT (tCall3 sp_is_whole (tC3 (tV 1) tN3)))) (tOr3 (tNot3 (tT (tCall3 sp_is_whole (tC3 (tV 2) tN3)))) (tOr3 (tNot3 (tT (tCall3 sp_is_whole (tC3 (tV 3) tN3)))) (tNot3 (tT (tB3 isiR (tC3 (tV 4) (tC3 (tK (.ty "bool")) tN3)))))))) (cRet (tK (.bl false))) cNext)
    r_is_pairing_2))
def t_is_pairing : C3 :=
  (cSeq (cIf (tOr3 (tNot3 (tT (tB3 isiR (tC3 (tV 0) (tC3 (tK (.ty "tuple")) tN3))))) (tT (tO neR (tB3 lenR (tC3 (tV 0) tN3)) (tK (.int 4))))) (cRet (tK (.bl false))) cNext)
    r_is_pairing_1)

def sp_is_pairing : Sp3 := spD (fun (d : D) => [d]) (fun d h => Kn h d ∧ ∀ xs, d = .tup xs → ∀ x ∈ xs, Kn h x) (fun d _ => .bl (isPairing d)) (fun _ h => h)
theorem mono_is_pairing : MonoS sp_is_pairing := mono_spD
theorem len_is_pairing : ∀ ds h Q E, sp_is_pairing ds h Q E → ds.length = 1 := len_spD fun _ => rfl
theorem isW_int {d : D} (h : isW d = true) : ∃ i, d = .int i := by
  cases d <;> first | exact ⟨_, rfl⟩ | cases h
theorem not_pairing {d : D} (h : ∀ xs, d = .tup xs → xs.length ≠ 4) : isPairing d = false := by
  unfold isPairing
  split
  · exact absurd rfl (h _ rfl)
  · rfl
theorem not_pairing4 {a b c t : D} (h : isW a = false ∨ isW b = false ∨ isW c = false ∨ ∀ x, t ≠ .bl x) : isPairing (.tup [a, b, c, t]) = false := by
  unfold isPairing
  split
  next e =>
    cases e
    rcases h with h | h | h | h
    · cases h
    · cases h
    · cases h
    · exact absurd rfl (h _)
  · rfl
theorem rd_is_pairing : ∀ ds h Q E, ClS h.length h → ClDs h.length ds → sp_is_pairing ds h Q E → t_is_pairing (ends3 (GQ h.length Q)) (start3 5 ds) h := by
  rintro ds h Q E _ _ ⟨d, rfl, ⟨⟨ty, e⟩, hk⟩, q⟩
  have q' : Q (.bl (isPairing d)) h := q
  try simp only [tV, tK, tO, tT, tOr3, tNot3, tN3, tC3, cNext, cSeq, cRet, cIf, tB3, start3, ends3, isB_some, isiR_tuple, List.getElem?_cons_zero, List.map_cons, List.map_nil, List.cons_append, List.nil_append, List.length_cons, List.length_nil, List.replicate_succ, List.replicate_zero, Bool.not_eq_true', Nat.reduceAdd, Nat.reduceSub, if_true, t_is_pairing, e]
  cases ht : isT ty "tuple" with
  | false =>
    try simp only [if_true]
    rw [not_pairing] at q'
    · exact .inl q'
    · rintro xs rfl
      cases e
      exact absurd ht (by decide)
  | true =>
    obtain ⟨xs, rfl⟩ := (tyN_w e).2.2 ht
    try simp only [neR_ii, lenR_t, Bool.not_eq_true', decide_eq_false_iff_not, Bool.true_eq_false, if_false]
    by_cases hl : (xs.length : Int) = 4
    · match xs, hl, hk xs rfl, q' with
      | [a, b, c, t], _, hk, q' =>
        have ka := hk a (by simp)
        have kb := hk b (by simp)
        have kc := hk c (by simp)
        obtain ⟨tt, et⟩ := hk t (by simp)
        try simp only [tV, tK, tT, tOr3, tNot3, tN3, tC3, cNext, cSeq, cRet, cIf, cAsg, gN, gNil3, gCons3, gTup3, tCall3, tB3, isiR_bool, List.getElem?_cons_zero, List.getElem?_cons_succ, List.set_cons_zero, List.set_cons_succ, List.length_cons, List.length_nil, Bool.not_eq_true', Nat.reduceAdd, true_and, if_true, r_is_pairing_1]
        refine whole_at ka ?_
        cases wa : isW a with
        | false => try simp only [if_true]; rw [not_pairing4 (.inl wa)] at q'; exact .inl q'
        | true =>
          try simp only [Bool.true_eq_false, if_false]
          refine whole_at kb ?_
          cases wb : isW b with
          | false => try simp only [if_true]; rw [not_pairing4 (.inr (.inl wb))] at q'; exact .inl q'
          | true =>
            try simp only [Bool.true_eq_false, if_false]
            refine whole_at kc ?_
            cases wc : isW c with
            | false => try simp only [if_true]; rw [not_pairing4 (.inr (.inr (.inl wc)))] at q'; exact .inl q'
            | true =>
              try simp only [isB_some, Bool.true_eq_false, if_false, et]
              cases wt : isT tt "bool" with
              | false =>
                try simp only [if_true]
                rw [not_pairing4 (.inr (.inr (.inr ?_)))] at q'
                · exact .inl q'
                · rintro x rfl
                  cases et
                  exact absurd wt (by decide)
              | true =>
                obtain ⟨x, rfl⟩ := (tyN_w et).2.1 wt
                obtain ⟨low, rfl⟩ := isW_int wa
                obtain ⟨high, rfl⟩ := isW_int wb
                obtain ⟨long, rfl⟩ := isW_int wc
                try simp only [tV, tK, tO, cRet, leR_ii, geR_ii, ifB_b, tAndE_eq, tCh_eq, List.getElem?_cons_zero, List.getElem?_cons_succ, decide_eq_true_eq, Bool.true_eq_false, Bool.false_eq_true, if_false, r_is_pairing_2]
                have q2 : Q (.bl (decide (0 ≤ low) && (decide (low ≤ high) && decide (1 ≤ long)))) h := q'
                by_cases h1 : 0 ≤ low <;> by_cases h2 : low ≤ high <;> by_cases h3 : 1 ≤ long <;> simp only [h1, h2, h3, decide_true, decide_false, Bool.and_true, Bool.and_false, Bool.true_and, Bool.false_and, if_true, if_false, Bool.false_eq_true] at q2 ⊢ <;> exact .inl q2
    · simp only [hl, decide_false, Bool.not_false, if_true]
      rw [not_pairing] at q'
      · exact .inl q'
      · rintro ys e2 hl'
        cases e2
        exact hl (by omega)
theorem pairing_is {d : D} {h : Sto} {Q : DK} {E : X3} (hk : Kn h d) (hk2 : ∀ xs, d = .tup xs → ∀ x ∈ xs, Kn h x) (q : Q (.bl (isPairing d)) h) : sp_is_pairing [d] h Q E := ⟨d, rfl, ⟨hk, hk2⟩, q⟩
theorem pairing_is4 {a b c : Int} {t : Bool} {h : Sto} {Q : DK} {E : X3} (q : Q (.bl (isPairing (pr a b c t))) h) : sp_is_pairing [pr a b c t] h Q E :=
  pairing_is ⟨_, rfl⟩ (fun xs e x hx => by
    cases e
    simp only [List.mem_cons, List.not_mem_nil, or_false] at hx
    rcases hx with rfl | rfl | rfl | rfl
    · exact kn_int
    · exact kn_int
    · exact kn_int
    · exact kn_bl) q

def t_paired : C3 :=
  (cRet (tTup3 (tC3 (tB3 minR (tC3 (tV 0) (tC3 (tV 1) tN3))) (tC3 (tB3 maxR (tC3 (tV 0) (tC3 (tV 1) tN3))) (tC3 (tV 2) (tC3 (tV 3) tN3))))))

def mn (a b : Int) : Int := if b < a then b else a
def mx (a b : Int) : Int := if b > a then b else a
def sp_paired : Sp3 := spD (fun (a : Int × Int × Int × Bool) => [.int a.1, .int a.2.1, .int a.2.2.1, .bl a.2.2.2]) (fun _ _ => True) (fun a _ => pr (mn a.1 a.2.1) (mx a.1 a.2.1) a.2.2.1 a.2.2.2) (fun _ h => h)
theorem mono_paired : MonoS sp_paired := mono_spD
theorem len_paired : ∀ ds h Q E, sp_paired ds h Q E → ds.length = 4 := len_spD fun _ => rfl
theorem rd_paired : ∀ ds h Q E, ClS h.length h → ClDs h.length ds → sp_paired ds h Q E → t_paired (ends3 (GQ h.length Q)) (start3 4 ds) h := by
  rintro ds h Q E _ _ ⟨⟨a, b, c, t⟩, rfl, _, q⟩
  try simp only [tV, tN3, tC3, tTup3, cRet, tB3, start3, ends3, minR_ii, maxR_ii, List.getElem?_cons_zero, List.getElem?_cons_succ, List.map_cons, List.map_nil, List.cons_append, List.nil_append, List.length_cons, List.length_nil, List.replicate_zero, Nat.reduceAdd, Nat.reduceSub, t_paired]
  exact .inl q

/-- to where a place is led -/
def partnerV (b g l : Int) (t : Bool) (p : Int) : Option Int := if b ≤ p ∧ p < b + l then some (if t = true then g + b + l - 1 - p else g + p - b) else none
def optD : Option Int → D
  | some i => .int i
  | none => .non
def r_partner_2 : C3 :=
  (cRet (tO subR (tO addR (tV 1) (tV 4)) (tV 0)))
def r_partner_1 : C3 :=
  (cSeq (cIf (tT (tV 3)) (cRet (tO subR (tO subR (tO addR (tO addR (tV 1) (tV 0)) (tV 2)) (tK (.int 1))) (tV 4))) cNext)
    r_partner_2)
def t_partner : C3 :=
  (cSeq (cIf (tNot3 (tT (tCh leR ltR (tV 0) (tV 4) (tO addR (tV 0) (tV 2))))) (cRet (tK .non)) cNext)
    r_partner_1)

def sp_partner : Sp3 := spD (fun (a : Int × Int × Int × Bool × Int) => [.int a.1, .int a.2.1, .int a.2.2.1, .bl a.2.2.2.1, .int a.2.2.2.2]) (fun _ _ => True) (fun a _ => optD (partnerV a.1 a.2.1 a.2.2.1 a.2.2.2.1 a.2.2.2.2)) (fun _ h => h)
theorem mono_partner : MonoS sp_partner := mono_spD
theorem len_partner : ∀ ds h Q E, sp_partner ds h Q E → ds.length = 5 := len_spD fun _ => rfl
theorem rd_partner : ∀ ds h Q E, ClS h.length h → ClDs h.length ds → sp_partner ds h Q E → t_partner (ends3 (GQ h.length Q)) (start3 5 ds) h := by
  rintro ds h Q E _ _ ⟨⟨b, g, l, t, p⟩, rfl, _, q⟩
  have q' : Q (optD (if b ≤ p ∧ p < b + l then some (if t = true then g + b + l - 1 - p else g + p - b) else none)) h := q
  try simp only [tV, tK, tO, tT, tNot3, cNext, cSeq, cRet, cIf, start3, ends3, addR_ii, ltR_ii, leR_ii, ifB_b, tCh_eq, List.getElem?_cons_zero, List.getElem?_cons_succ, List.map_cons, List.map_nil, List.cons_append, List.nil_append, List.length_cons, List.length_nil, List.replicate_zero, decide_eq_true_eq, Bool.not_eq_true', decide_eq_false_iff_not, Nat.reduceAdd, Nat.reduceSub, if_true, t_partner]
  by_cases h1 : b ≤ p
  · by_cases h2 : p < b + l
    · simp only [h1, h2, and_self, if_true, optD] at q'
      simp only [h1, h2, if_true, decide_true, Bool.not_true, Bool.false_eq_true, if_false]
      try simp only [tV, tK, tO, tT, cNext, cSeq, cRet, cIf, addR_ii, subR_ii, List.getElem?_cons_zero, List.getElem?_cons_succ, if_false, not_true_eq_false, r_partner_1, r_partner_2]
      cases t
      · exact .inl q'
      · exact .inl q'
    · simp only [h2, and_false, if_false, optD] at q'
      simp only [h1, h2, if_true, decide_false, Bool.not_false]
      exact .inl q'
  · simp only [h1, false_and, if_false, optD] at q'
    simp only [h1, if_false, Bool.not_false, if_true]
    exact .inl q'
def t_forth : C3 :=
  (cSeq (cAsg (tV 0) (gTup3 4 (gCons3 (gN 2) (gCons3 (gN 3) (gCons3 (gN 4) (gCons3 (gN 5) gNil3))))))
    (cRet (tCall3 sp_partner (tC3 (tV 2) (tC3 (tV 3) (tC3 (tV 4) (tC3 (tV 5) (tC3 (tV 1) tN3))))))))

def t_back : C3 :=
  (cSeq (cAsg (tV 0) (gTup3 4 (gCons3 (gN 2) (gCons3 (gN 3) (gCons3 (gN 4) (gCons3 (gN 5) gNil3))))))
    (cRet (tCall3 sp_partner (tC3 (tV 3) (tC3 (tV 2) (tC3 (tV 4) (tC3 (tV 5) (tC3 (tV 1) tN3))))))))

def sp_forth : Sp3 := spD (fun (a : Int × Int × Int × Bool × Int) => [pr a.1 a.2.1 a.2.2.1 a.2.2.2.1, .int a.2.2.2.2]) (fun _ _ => True) (fun a _ => optD (partnerV a.1 a.2.1 a.2.2.1 a.2.2.2.1 a.2.2.2.2)) (fun _ h => h)
theorem mono_forth : MonoS sp_forth := mono_spD
theorem len_forth : ∀ ds h Q E, sp_forth ds h Q E → ds.length = 2 := len_spD fun _ => rfl
theorem rd_forth : ∀ ds h Q E, ClS h.length h → ClDs h.length ds → sp_forth ds h Q E → t_forth (ends3 (GQ h.length Q)) (start3 6 ds) h := by
  rintro ds h Q E _ _ ⟨⟨b, g, l, t, p⟩, rfl, _, q⟩
  try simp only [tV, tN3, tC3, cSeq, cRet, cAsg, gN, gNil3, gCons3, gTup3, tCall3, start3, ends3, List.getElem?_cons_zero, List.getElem?_cons_succ, List.set_cons_zero, List.set_cons_succ, List.map_cons, List.map_nil, List.cons_append, List.nil_append, List.length_cons, List.length_nil, List.replicate_succ, List.replicate_zero, Nat.reduceAdd, Nat.reduceSub, true_and, t_forth, pr]
  exact ⟨(b, g, l, t, p), rfl, trivial, .inl q⟩
def sp_back : Sp3 := spD (fun (a : Int × Int × Int × Bool × Int) => [pr a.1 a.2.1 a.2.2.1 a.2.2.2.1, .int a.2.2.2.2]) (fun _ _ => True) (fun a _ => optD (partnerV a.2.1 a.1 a.2.2.1 a.2.2.2.1 a.2.2.2.2)) (fun _ h => h)
theorem mono_back : MonoS sp_back := mono_spD
theorem len_back : ∀ ds h Q E, sp_back ds h Q E → ds.length = 2 := len_spD fun _ => rfl
theorem rd_back : ∀ ds h Q E, ClS h.length h → ClDs h.length ds → sp_back ds h Q E → t_back (ends3 (GQ h.length Q)) (start3 6 ds) h := by
  rintro ds h Q E _ _ ⟨⟨b, g, l, t, p⟩, rfl, _, q⟩
  try simp only [tV, tN3, tC3, cSeq, cRet, cAsg, gN, gNil3, gCons3, gTup3, tCall3, start3, ends3, List.getElem?_cons_zero, List.getElem?_cons_succ, List.set_cons_zero, List.set_cons_succ, List.map_cons, List.map_nil, List.cons_append, List.nil_append, List.length_cons, List.length_nil, List.replicate_succ, List.replicate_zero, Nat.reduceAdd, Nat.reduceSub, true_and, t_back, pr]
  exact ⟨(g, b, l, t, p), rfl, trivial, .inl q⟩
theorem forth_at {b g l p : Int} {t : Bool} {h : Sto} {Q : DK} {E : X3} (q : Q (optD (partnerV b g l t p)) h) : sp_forth [pr b g l t, .int p] h Q E := ⟨(b, g, l, t, p), rfl, trivial, q⟩
theorem back_at {b g l p : Int} {t : Bool} {h : Sto} {Q : DK} {E : X3} (q : Q (optD (partnerV g b l t p)) h) : sp_back [pr b g l t, .int p] h Q E := ⟨(b, g, l, t, p), rfl, trivial, q⟩
theorem paired_at {a b l : Int} {t : Bool} {h : Sto} {Q : DK} {E : X3} (q : Q (pr (mn a b) (mx a b) l t) h) : sp_paired [.int a, .int b, .int l, .bl t] h Q E := ⟨(a, b, l, t), rfl, trivial, q⟩
theorem purse_at {ns : List Int} {k : Int} {h : Sto} {Q : DK} {E : X3} (h0 : 0 ≤ k) (h1 : k < 1000) (q : ∀ c s, DrawOk c s → Q (.ref h.length) (h ++ [draw c s])) : sp_purse [.fl (ns.map .int), .int k] h Q E :=
  ⟨(ns, k), rfl, ⟨h0, h1⟩, by
    rintro _ _ ⟨c, s, hd, rfl, rfl⟩
    exact q c s hd⟩
end F3
/-! LS: the laws' helps about pairings: tiny ones, a place's mate, places to ask. -/
namespace F3
open PySem PySem.Spec PyProof.Rows L2

/-- a law's walk: the cells asked -/
theorem cells_range {n : Int} (hn : n ≤ 1000) : ∀ x ∈ (List.range n.toNat).map fun (k : Nat) => D.int k, ∃ j : Int, x = .int j ∧ 0 ≤ j ∧ j < 1000 := fun x hx => by
  obtain ⟨j, hj, rfl⟩ := List.mem_map.mp hx
  have := List.mem_range.mp hj
  exact ⟨j, rfl, by omega, by omega⟩
theorem min_len {n m : Int} {ns : List Int} (h0 : 0 ≤ n) (h1 : n ≤ 500) : -(2 ^ 62) ≤ (1 + if ((ns.map D.int).length : Int) < n then ((ns.map D.int).length : Int) else n) ∧ (1 + if ((ns.map D.int).length : Int) < n then ((ns.map D.int).length : Int) else n) < 2 ^ 62 ∧ (1 + if ((ns.map D.int).length : Int) < n then ((ns.map D.int).length : Int) else n) ≤ 1000 := by
  split <;> omega

def t_tiny : C3 :=
  (cSeq (cAsg (tO addR (tK (.int 1)) (tCall3 sp_take (tC3 (tV 0) (tC3 (tK (.int 20)) tN3)))) (gN 1))
    (cSeq (cAsg (tCall3 sp_take (tC3 (tV 0) (tC3 (tK (.int 20)) tN3))) (gN 2))
    (cSeq (cAsg (tIxX (tC3 (tK (.int 0)) (tC3 (tCall3 sp_take (tC3 (tV 0) (tC3 (tV 1) tN3))) (tC3 (tV 1) (tC3 (tCall3 sp_take (tC3 (tV 0) (tC3 (tK (.int 40)) tN3))) tN3)))) (tCall3 sp_take (tC3 (tV 0) (tC3 (tK (.int 4)) tN3)))) (gN 3))
    (cRet (tTup3 (tC3 (tV 2) (tC3 (tO addR (tV 2) (tV 3)) (tC3 (tV 1) (tC3 (tO eqR (tCall3 sp_take (tC3 (tV 0) (tC3 (tK (.int 2)) tN3))) (tK (.int 1))) tN3)))))))))

def sp_tiny : Sp3 := spR (fun (a : Nat × Int × Int) => [.ref a.1]) (fun a h => h[a.1]? = some (draw a.2.1 a.2.2) ∧ DrawOk a.2.1 a.2.2)
  (fun a h d h' => ∃ c s low gap long : Int, ∃ t : Bool, DrawOk c s ∧ 0 ≤ low ∧ 0 ≤ gap ∧ 1 ≤ long ∧ low < 20 ∧ gap < 40 ∧ long ≤ 20 ∧ pr low (low + gap) long t = d ∧ h' = h.set a.1 (draw c s))
theorem mono_tiny : MonoS sp_tiny := mono_spR
theorem len_tiny : ∀ ds h Q E, sp_tiny ds h Q E → ds.length = 1 := len_spR fun _ => rfl
theorem rd_tiny : ∀ ds h Q E, ClS h.length h → ClDs h.length ds → sp_tiny ds h Q E → t_tiny (ends3 (GQ h.length Q)) (start3 4 ds) h := by
  rintro ds h Q E _ _ ⟨⟨a, c, s⟩, rfl, ⟨ha, hd⟩, q⟩
  try simp only [tV, tK, tO, tN3, tC3, tTup3, cSeq, cRet, cAsg, gN, tCall3, tIxX, start3, ends3, List.getElem?_cons_zero, List.getElem?_cons_succ, List.set_cons_zero, List.set_cons_succ, List.map_cons, List.map_nil, List.cons_append, List.nil_append, List.length_cons, List.length_nil, List.replicate_succ, List.replicate_zero, Nat.reduceAdd, Nat.reduceSub, t_tiny]
  refine take_at ha hd (by decide) (by decide) fun c s long hd l0 l1 => ?_
  have ha := getElem?_set_of (c' := draw c s) ha
  try simp only [addR_ii]
  refine take_at ha hd (by decide) (by decide) fun c s low hd m0 m1 => ?_
  have ha := getElem?_set_of (c' := draw c s) ha
  skip
  refine take_at ha hd (by omega) (by omega) fun c s g1 hd g0 g1' => ?_
  have ha := getElem?_set_of (c' := draw c s) ha
  skip
  refine take_at ha hd (by decide) (by decide) fun c s g2 hd k0 k1 => ?_
  have ha := getElem?_set_of (c' := draw c s) ha
  skip
  refine take_at ha hd (by decide) (by decide) fun c s way hd w0 w1 => ?_
  have ha := getElem?_set_of (c' := draw c s) ha
  refine atD_all w0 w1 fun x hx => ?_
  have hx : ∃ n : Int, x = .int n ∧ 0 ≤ n ∧ n < 40 := by
    simp only [List.mem_cons, List.not_mem_nil, or_false] at hx
    rcases hx with rfl | rfl | rfl | rfl <;> exact ⟨_, rfl, by omega, by omega⟩
  obtain ⟨gap, rfl, hn0, hn1⟩ := hx
  try simp only [addR_ii]
  refine take_at ha hd (by decide) (by decide) fun c s r hd h0 h1 => ?_
  try simp only [eqR_ii, List.set_set]
  exact .inl (q _ _ ⟨c, s, low, gap, 1 + long, decide (r = 1), hd, m0, hn0, by omega, m1, hn1, by omega, rfl, rfl⟩)
theorem tiny_at {a : Nat} {c s : Int} {h : Sto} {Q : DK} {E : X3} (ha : h[a]? = some (draw c s)) (hd : DrawOk c s)
    (q : ∀ c s low gap long t, DrawOk c s → 0 ≤ low → 0 ≤ gap → 1 ≤ long → low < 20 → gap < 40 → long ≤ 20 → Q (pr low (low + gap) long t) (h.set a (draw c s))) : sp_tiny [.ref a] h Q E :=
  ⟨(a, c, s), rfl, ⟨ha, hd⟩, by
    rintro _ _ ⟨c, s, low, gap, long, t, hd, h0, h1, h2, h3, h4, h5, rfl, rfl⟩
    exact q c s low gap long t hd h0 h1 h2 h3 h4 h5⟩
def r_mate_1 : C3 :=
  (cRet (tO addR (tV 3) (tV 1)))
def t_mate : C3 :=
  (cSeq (cAsg (tV 0) (gTup3 4 (gCons3 (gN 2) (gCons3 (gN 3) (gCons3 (gN 4) (gCons3 (gN 5) gNil3))))))
    (cSeq (cIf (tT (tV 5)) (cRet (tO subR (tO subR (tO addR (tV 3) (tV 4)) (tK (.int 1))) (tV 1))) cNext)
    r_mate_1))

def mate (high long : Int) (t : Bool) (i : Int) : Int := if t = true then high + long - 1 - i else high + i
def sp_mate : Sp3 := spD (fun (a : Int × Int × Int × Bool × Int) => [pr a.1 a.2.1 a.2.2.1 a.2.2.2.1, .int a.2.2.2.2]) (fun _ _ => True) (fun a _ => .int (mate a.2.1 a.2.2.1 a.2.2.2.1 a.2.2.2.2)) (fun _ h => h)
theorem mono_mate : MonoS sp_mate := mono_spD
theorem len_mate : ∀ ds h Q E, sp_mate ds h Q E → ds.length = 2 := len_spD fun _ => rfl
theorem rd_mate : ∀ ds h Q E, ClS h.length h → ClDs h.length ds → sp_mate ds h Q E → t_mate (ends3 (GQ h.length Q)) (start3 6 ds) h := by
  rintro ds h Q E _ _ ⟨⟨b, g, l, t, p⟩, rfl, _, q⟩
  try simp only [tV, tK, tO, tT, cNext, cSeq, cRet, cIf, cAsg, gN, gNil3, gCons3, gTup3, start3, ends3, addR_ii, subR_ii, List.getElem?_cons_zero, List.getElem?_cons_succ, List.set_cons_zero, List.set_cons_succ, List.map_cons, List.map_nil, List.cons_append, List.nil_append, List.length_cons, List.length_nil, List.replicate_succ, List.replicate_zero, Nat.reduceAdd, Nat.reduceSub, true_and, t_mate, pr, r_mate_1]
  cases t
  · exact .inl q
  · exact .inl q
theorem mate_at {b g l p : Int} {t : Bool} {h : Sto} {Q : DK} {E : X3} (q : Q (.int (mate g l t p)) h) : sp_mate [pr b g l t, .int p] h Q E := ⟨(b, g, l, t, p), rfl, trivial, q⟩
def t_whole : C3 :=
  (cRet (tAndE (tB3 isiR (tC3 (tV 0) (tC3 (tK (.ty "int")) tN3))) (tNotE (tB3 isiR (tC3 (tV 0) (tC3 (tK (.ty "bool")) tN3))))))

def sp_whole : Sp3 := sp_is_whole
theorem mono_whole : MonoS sp_whole := mono_spD
theorem len_whole : ∀ ds h Q E, sp_whole ds h Q E → ds.length = 1 := len_is_whole
theorem rd_whole : ∀ ds h Q E, ClS h.length h → ClDs h.length ds → sp_whole ds h Q E → t_whole (ends3 (GQ h.length Q)) (start3 1 ds) h := rd_is_whole
theorem whole_at' {d : D} {h : Sto} {Q : DK} {E : X3} (hk : Kn h d) (q : Q (.bl (isW d)) h) : sp_whole [d] h Q E := ⟨d, rfl, hk, q⟩
def b_numbers_1 : C3 :=
  (cDrop (tLM appT (tV 2) (tC3 (tCall3 sp_take (tC3 (tV 0) (tC3 (tV 1) tN3))) tN3)))
def r_numbers_1 : C3 :=
  (cSeq (cAsg (tNew (tC3 (tK (.int 0)) (tC3 (tK (.int 1)) (tC3 (tO subR (tV 1) (tK (.int 2))) (tC3 (tO subR (tV 1) (tK (.int 1))) tN3))))) (gN 2))
    (cSeq (cFor (iRng (tC3 (tK (.int 8)) tN3)) (gN 3) b_numbers_1)
    (cRet (tV 2))))
def t_numbers : C3 :=
  (cSeq (cIf (tT (tO ltR (tV 1) (tK (.int 21)))) (cRet (tNew (xRg1 (tV 1)))) cNext)
    r_numbers_1)

def sp_numbers : Sp3 := spR (fun (a : Nat × Int × Int × Int) => [.ref a.1, .int a.2.2.2]) (fun a h => h[a.1]? = some (draw a.2.1 a.2.2.1) ∧ DrawOk a.2.1 a.2.2.1 ∧ 1 ≤ a.2.2.2 ∧ a.2.2.2 < 2 ^ 2000)
  (fun a h d h' => ∃ c s : Int, ∃ ns : List Int, DrawOk c s ∧ (∀ n ∈ ns, 0 ≤ n ∧ n < a.2.2.2) ∧ .ref h.length = d ∧ h' = h.set a.1 (draw c s) ++ [.lst (ns.map .int)])
theorem mono_numbers : MonoS sp_numbers := mono_spR
theorem len_numbers : ∀ ds h Q E, sp_numbers ds h Q E → ds.length = 2 := len_spR fun _ => rfl
theorem numbers_loop {E : Ends3} {a : Nat} {long : Int} {h : Sto} (hl : 1 ≤ long ∧ long < 2 ^ 2000) (hal : a < h.length) : ∀ (xs : List D) (c s : Int) (ns : List Int) (o3 : Option D), DrawOk c s → (∀ n ∈ ns, 0 ≤ n ∧ n < long) → ns.length + xs.length ≤ 100 →
    (∀ (c s : Int) (ns : List Int) (o3 : Option D), DrawOk c s → (∀ n ∈ ns, 0 ≤ n ∧ n < long) → E.nx [some (.ref a), some (.int long), some (.ref h.length), o3] (h.set a (draw c s) ++ [.lst (ns.map .int)])) →
    forI (gN 3) b_numbers_1 (fun _ => True) E xs [some (.ref a), some (.int long), some (.ref h.length), o3] (h.set a (draw c s) ++ [.lst (ns.map .int)]) := by
  intro xs
  induction xs with
  | nil => exact fun c s ns o3 hd hn _ q => ⟨trivial, q c s ns o3 hd hn⟩
  | cons x r ih =>
    intro c s ns o3 hd hn hz q
    have e1 : (h.set a (draw c s) ++ [Cell.lst (ns.map .int)])[h.length]? = some (.lst (ns.map .int)) := by
      rw [List.getElem?_append_right (by simp)]; simp
    have e2 : (h.set a (draw c s) ++ [Cell.lst (ns.map .int)])[a]? = some (draw c s) := by
      rw [List.getElem?_append_left (by simpa using hal)]
      exact List.getElem?_set_self hal
    try simp only [tV, tN3, tC3, cDrop, gN, tCall3, tLM, appT, List.getElem?_cons_zero, List.getElem?_cons_succ, List.set_cons_zero, List.set_cons_succ, true_and, forI, b_numbers_1, e1]
    refine take_at e2 hd (by omega) hl.2 fun c' s' r' hd' r0 r1 => ?_
    have e3 : (h.set a (draw c s) ++ [Cell.lst (ns.map .int)]).set a (draw c' s') = h.set a (draw c' s') ++ [.lst (ns.map .int)] := by
      rw [List.set_append, if_pos (by simpa using hal), List.set_set]
    have e4 : (h.set a (draw c' s') ++ [Cell.lst (ns.map .int)])[h.length]? = some (.lst (ns.map .int)) := by
      rw [List.getElem?_append_right (by simp)]; simp
    try simp only [e3, e4]
    refine ⟨by simp; simp at hz; omega, ?_⟩
    have e5 : (h.set a (draw c' s') ++ [Cell.lst (ns.map .int)]).set h.length (.lst (ns.map .int ++ [.int r'])) = h.set a (draw c' s') ++ [.lst ((ns ++ [r']).map .int)] := by
      rw [List.set_append, if_neg (by simp)]
      simp
    rw [e5]
    refine ih c' s' (ns ++ [r']) _ hd' (fun n hm => ?_) (by simp at hz ⊢; omega) q
    rcases List.mem_append.mp hm with z | z
    · exact hn n z
    · rw [List.mem_singleton.mp z]; exact ⟨r0, r1⟩
theorem rd_numbers : ∀ ds h Q E, ClS h.length h → ClDs h.length ds → sp_numbers ds h Q E → t_numbers (ends3 (GQ h.length Q)) (start3 4 ds) h := by
  rintro ds h Q E _ _ ⟨⟨a, c, s, long⟩, rfl, ⟨ha, hd, hl0, hl1⟩, q⟩
  have hl0' : 1 ≤ long := hl0
  have hl1' : long < 2 ^ 2000 := hl1
  have hal : a < h.length := (List.getElem?_eq_some_iff.mp ha).1
  have same : h.set a (draw c s) = h := set_same ha
  try simp only [tV, tK, tO, tT, tNew, cNext, cSeq, cRet, cIf, start3, ends3, ltR_ii, List.getElem?_cons_zero, List.getElem?_cons_succ, List.map_cons, List.map_nil, List.cons_append, List.nil_append, List.length_cons, List.length_nil, List.replicate_succ, List.replicate_zero, decide_eq_true_eq, Nat.reduceAdd, Nat.reduceSub, t_numbers]
  split
  next hlt =>
    refine ⟨by omega, .inl (q _ _ ⟨c, s, (List.range (long - 0).toNat).map fun (k : Nat) => 0 + (k : Int), hd, fun n hm => ?_, rfl, ?_⟩)⟩
    · obtain ⟨k, hk, rfl⟩ := List.mem_map.mp hm
      have := List.mem_range.mp hk
      show 0 ≤ 0 + (k : Int) ∧ 0 + (k : Int) < long
      omega
    · show _ = h.set a (draw c s) ++ _
      rw [same, List.map_map]
      rfl
  next hlt =>
    try simp only [tV, tK, tO, tN3, tC3, tNew, cSeq, cAsg, gN, cFor, subR_ii, iRng_eq, rngD_1, List.getElem?_cons_zero, List.getElem?_cons_succ, List.set_cons_zero, List.set_cons_succ, r_numbers_1]
    refine ⟨by decide, ?_⟩
    have := numbers_loop (E := { nx := cRet (tV 2) { nx := fun x h_1 => GQ h.length Q D.non h_1, rt := GQ h.length Q, bk := fun x x_1 => False, ct := fun x x_1 => False }, rt := GQ h.length Q, bk := fun x x_1 => False, ct := fun x x_1 => False }) (a := a) (h := h) ⟨hl0', hl1'⟩ hal ((List.range (Int.toNat 8)).map fun (k : Nat) => D.int k) c s [0, 1, long - 2, long - 1] none hd (fun n hm => by
      simp only [List.mem_cons, List.not_mem_nil, or_false] at hm
      omega) (by simp) (fun c s ns o3 hd hn => by
      try simp only [tV, cRet, List.getElem?_cons_zero, List.getElem?_cons_succ]
      exact .inl (q _ _ ⟨c, s, ns, hd, hn, rfl, rfl⟩))
    rw [same] at this
    exact this
theorem numbers_at {a : Nat} {c s long : Int} {h : Sto} {Q : DK} {E : X3} (ha : h[a]? = some (draw c s)) (hd : DrawOk c s) (h0 : 1 ≤ long) (h1 : long < 2 ^ 2000)
    (q : ∀ (c s : Int) (ns : List Int), DrawOk c s → (∀ n ∈ ns, 0 ≤ n ∧ n < long) → Q (.ref h.length) (h.set a (draw c s) ++ [.lst (ns.map .int)])) : sp_numbers [.ref a, .int long] h Q E :=
  ⟨(a, c, s, long), rfl, ⟨ha, hd, h0, h1⟩, by
    rintro _ _ ⟨c, s, ns, hd, hn, rfl, rfl⟩
    exact q c s ns hd hn⟩
def t_beside : C3 :=
  (cSeq (cAsg (tNew (tC3 (tO addR (tV 0) (tV 1)) (tC3 (tO addR (tO addR (tV 0) (tV 1)) (tK (.int 1))) (tC3 (tO addR (tO addR (tV 0) (tO mulR (tK (.int 2)) (tV 1))) (tK (.int 7))) tN3)))) (gN 2))
    (cSeq (cIf (tT (tO gtR (tV 0) (tK (.int 0)))) (cAsg (tO addR (tV 2) (tNew (tC3 (tO subR (tV 0) (tK (.int 1))) (tC3 (tK (.int 0)) tN3)))) (gN 2)) cNext)
    (cRet (tV 2))))

def sp_beside : Sp3 := spR (fun (a : Int × Int) => [.int a.1, .int a.2]) (fun a h => 0 ≤ a.1 ∧ 1 ≤ a.2)
  (fun a h d h' => ∃ ns : List Int, (∀ n ∈ ns, n < a.1 ∨ a.1 + a.2 ≤ n) ∧ ns.length ≤ 5 ∧ .ref h.length = d ∧ h' = h ++ [.lst (ns.map .int)])
theorem mono_beside : MonoS sp_beside := mono_spR
theorem len_beside : ∀ ds h Q E, sp_beside ds h Q E → ds.length = 2 := len_spR fun _ => rfl
theorem rd_beside : ∀ ds h Q E, ClS h.length h → ClDs h.length ds → sp_beside ds h Q E → t_beside (ends3 (GQ h.length Q)) (start3 3 ds) h := by
  rintro ds h Q E hcl _ ⟨⟨b, l⟩, rfl, ⟨hb, hl⟩, q⟩
  have hb' : 0 ≤ b := hb
  have hl' : 1 ≤ l := hl
  try simp only [tV, tK, tO, tT, tN3, tC3, tNew, cNext, cSeq, cRet, cIf, cAsg, gN, start3, ends3, addR_ii, addR_rr, subR_ii, mulR_ii, gtR_ii, List.getElem?_cons_zero, List.getElem?_cons_succ, List.set_cons_zero, List.set_cons_succ, List.map_cons, List.map_nil, List.cons_append, List.nil_append, List.length_cons, List.length_nil, List.replicate_succ, List.replicate_zero, decide_eq_true_eq, Nat.reduceAdd, Nat.reduceSub, t_beside]
  refine ⟨mulOk_l (by decide), ?_⟩
  split
  next hlt =>
    have e1 : ∀ (h : Sto) (c d : Cell), (h ++ [c] ++ [d])[h.length]? = some c := fun h c d => by
      rw [List.append_assoc]; exact get_app0
    have e2 : ∀ (h : Sto) (c d : Cell), (h ++ [c] ++ [d])[(h ++ [c]).length]? = some d := fun h c d => by simp
    try simp only [onLst_some, List.cons_append, List.nil_append, List.length_cons, List.length_nil, Nat.reduceAdd, Nat.reduceLeDiff, true_and, e1, e2]
    have : GQ h.length Q (.ref (h.length + 2)) (h ++ [.lst [.int (b + l), .int (b + l + 1), .int (b + 2 * l + 7)], .lst [.int (b - 1), .int 0], .lst [.int (b + l), .int (b + l + 1), .int (b + 2 * l + 7), .int (b - 1), .int 0]]) := by
      refine gq_one rfl (xs := [b + l, b + l + 1, b + 2 * l + 7, b - 1, 0].map .int) rfl (cl_ints _) hcl (q _ _ ⟨[b + l, b + l + 1, b + 2 * l + 7, b - 1, 0], fun n hm => ?_, by simp, rfl, rfl⟩)
      show n < b ∨ b + l ≤ n
      simp only [List.mem_cons, List.not_mem_nil, or_false] at hm
      omega
    simpa using this
  next hlt =>
    refine .inl (q _ _ ⟨[b + l, b + l + 1, b + 2 * l + 7], fun n hm => ?_, by simp, rfl, rfl⟩)
    show n < b ∨ b + l ≤ n
    simp only [List.mem_cons, List.not_mem_nil, or_false] at hm
    omega
theorem beside_at {b l : Int} {h : Sto} {Q : DK} {E : X3} (h0 : 0 ≤ b) (h1 : 1 ≤ l)
    (q : ∀ ns : List Int, (∀ n ∈ ns, n < b ∨ b + l ≤ n) → ns.length ≤ 5 → Q (.ref h.length) (h ++ [.lst (ns.map .int)])) : sp_beside [.int b, .int l] h Q E :=
  ⟨(b, l), rfl, ⟨h0, h1⟩, by
    rintro _ _ ⟨ns, hn, hl, rfl, rfl⟩
    exact q ns hn hl⟩
end F3
/-! LT: partners of a place. -/
namespace F3
open PySem PySem.Spec PyProof.Rows L2

/-- rising lists with the same members are one -/
theorem rising_ext : ∀ {ms ns : List Int}, ms.Pairwise (· < ·) → ns.Pairwise (· < ·) → (∀ k, k ∈ ms ↔ k ∈ ns) → ms = ns
  | [], [], _, _, _ => rfl
  | [], n :: r, _, _, h => by have := (h n).mpr List.mem_cons_self; cases this
  | m :: r, [], _, _, h => by have := (h m).mp List.mem_cons_self; cases this
  | m :: r, n :: q, h1, h2, h => by
    have a1 := List.pairwise_cons.mp h1
    have a2 := List.pairwise_cons.mp h2
    have e : m = n := by
      rcases List.mem_cons.mp ((h m).mp List.mem_cons_self) with e | e
      · exact e
      · rcases List.mem_cons.mp ((h n).mpr List.mem_cons_self) with e' | e'
        · exact e'.symm
        · have x := a1.1 n e'
          have y := a2.1 m e
          omega
    subst e
    rw [rising_ext a1.2 a2.2 fun k => ?_]
    have hk := h k
    constructor
    · intro hm
      rcases List.mem_cons.mp (hk.mp (List.mem_cons_of_mem _ hm)) with e | e
      · have := a1.1 k hm
        omega
      · exact e
    · intro hm
      rcases List.mem_cons.mp (hk.mpr (List.mem_cons_of_mem _ hm)) with e | e
      · have := a2.1 k hm
        omega
      · exact e
/-- k is one of the partners -/
def IsPartner (low high long : Int) (t : Bool) (p k : Int) : Prop := partnerV low high long t p = some k ∨ partnerV high low long t p = some k
def e_partners_1 : E3 :=
  (tV 3)
def t_partners : C3 :=
  (cSeq (cAsg (tNew (tC3 (tCall3 sp_forth (tC3 (tV 0) (tC3 (tV 1) tN3))) (tC3 (tCall3 sp_back (tC3 (tV 0) (tC3 (tV 1) tN3))) tN3))) (gN 2))
    (cRet (tNew (tSSet (tLc3 (iSeq (tV 2)) (gN 3) (tT (tO isnR (tV 3) (tK .non))) e_partners_1 [3])))))

def sp_partners : Sp3 := spR (fun (a : Int × Int × Int × Bool × Int) => [pr a.1 a.2.1 a.2.2.1 a.2.2.2.1, .int a.2.2.2.2]) (fun _ _ => True)
  (fun a h d h' => ∃ ms : List Int, ms.Pairwise (· < ·) ∧ (∀ k, k ∈ ms ↔ IsPartner a.1 a.2.1 a.2.2.1 a.2.2.2.1 a.2.2.2.2 k) ∧ .ref h.length = d ∧ h' = h ++ [.lst (ms.map .int)])
theorem mono_partners : MonoS sp_partners := mono_spR
theorem len_partners : ∀ ds h Q E, sp_partners ds h Q E → ds.length = 2 := len_spR fun _ => rfl
theorem rd_partners : ∀ ds h Q E, ClS h.length h → ClDs h.length ds → sp_partners ds h Q E → t_partners (ends3 (GQ h.length Q)) (start3 4 ds) h := by
  rintro ds h Q E hcl _ ⟨⟨b, g, l, t, p⟩, rfl, _, q⟩
  try simp only [tV, tN3, tC3, tNew, cSeq, cRet, cAsg, gN, iSeq_eq, tLc3, tCall3, start3, ends3, wipe3, tSSet, iSeqD_r, List.getElem?_cons_zero, List.getElem?_cons_succ, List.set_cons_zero, List.set_cons_succ, List.map_cons, List.map_nil, List.cons_append, List.nil_append, List.length_cons, List.length_nil, List.replicate_succ, List.replicate_zero, Nat.reduceAdd, Nat.reduceSub, t_partners]
  refine forth_at (back_at ?_)
  have e1 : ∀ c : Cell, (h ++ [c])[h.length]? = some c := fun c => by simp
  try simp only [onLst_some, List.length_cons, List.length_nil, Nat.reduceAdd, Nat.reduceLeDiff, true_and, e1]
  refine ⟨by simp, ?_⟩
  have fin : ∀ ns : List Int, ns.length < 64 → (∀ k, k ∈ ns ↔ IsPartner b g l t p k) → ∀ c : Cell, ns.length < 64 ∧ ∀ ms : List Int, ms.Pairwise (· < ·) → (∀ k, k ∈ ms ↔ k ∈ ns) → GQ h.length Q (.ref (h ++ [c]).length) (h ++ [c] ++ [.lst (ms.map .int)]) := fun ns hl hn c => ⟨hl, fun ms h1 h2 => by
    have : GQ h.length Q (.ref (h.length + 1)) (h ++ [c, .lst (ms.map .int)]) := gq_one rfl rfl (cl_ints ms) hcl (q _ _ ⟨ms, h1, fun k => (h2 k).trans (hn k), rfl, rfl⟩)
    simpa using this⟩
  cases e2 : partnerV b g l t p with
  | none =>
    cases e3 : partnerV g b l t p with
    | none =>
      try simp only [tV, tK, tO, tT, gN, isnR_n, isN_non, List.getElem?_cons_zero, List.getElem?_cons_succ, List.set_cons_zero, List.set_cons_succ, List.cons_append, List.nil_append, true_and, Bool.false_eq_true, if_false, Bool.not_true, optD, lcI, e_partners_1, e1]
      exact fin [] (by decide) (fun k => by simp [IsPartner, e2, e3]) _
    | some j =>
      try simp only [tV, tK, tO, tT, gN, isnR_n, isN_non, isN_int, List.getElem?_cons_zero, List.getElem?_cons_succ, List.set_cons_zero, List.set_cons_succ, List.cons_append, List.nil_append, true_and, Bool.false_eq_true, if_true, if_false, Bool.not_true, Bool.not_false, optD, lcI, e_partners_1, e1]
      exact fin [j] (by simp) (fun k => by simp [IsPartner, e2, e3]; exact eq_comm) _
  | some i =>
    cases e3 : partnerV g b l t p with
    | none =>
      try simp only [tV, tK, tO, tT, gN, isnR_n, isN_non, isN_int, List.getElem?_cons_zero, List.getElem?_cons_succ, List.set_cons_zero, List.set_cons_succ, List.cons_append, List.nil_append, true_and, Bool.false_eq_true, if_true, if_false, Bool.not_true, Bool.not_false, optD, lcI, e_partners_1, e1]
      exact fin [i] (by simp) (fun k => by simp [IsPartner, e2, e3]; exact eq_comm) _
    | some j =>
      try simp only [tV, tK, tO, tT, gN, isnR_n, isN_int, List.getElem?_cons_zero, List.getElem?_cons_succ, List.set_cons_zero, List.set_cons_succ, List.cons_append, List.nil_append, true_and, if_true, Bool.not_false, optD, lcI, e_partners_1, e1]
      exact fin [i, j] (by simp) (fun k => by simp [IsPartner, e2, e3]; constructor <;> (rintro (h | h) <;> simp [h])) _
theorem partners_at {b g l p : Int} {t : Bool} {h : Sto} {Q : DK} {E : X3} (q : ∀ ms : List Int, ms.Pairwise (· < ·) → (∀ k, k ∈ ms ↔ IsPartner b g l t p k) → Q (.ref h.length) (h ++ [.lst (ms.map .int)])) : sp_partners [pr b g l t, .int p] h Q E :=
  ⟨(b, g, l, t, p), rfl, trivial, by
    rintro _ _ ⟨ms, h1, h2, rfl, rfl⟩
    exact q ms h1 h2⟩
/-- data of lists of ints -/
theorem mapM_of {α : Type} {F : D → Option PyData} {f : α → D} {g : α → PyData} : ∀ {xs : List α}, (∀ x ∈ xs, F (f x) = some (g x)) → (xs.map f).mapM F = some (xs.map g)
  | [], _ => by simp
  | x :: r, h => by
    rw [List.map_cons, List.mapM_cons, h x List.mem_cons_self, mapM_of fun y hy => h y (List.mem_cons_of_mem _ hy)]
    rfl
theorem toP_ints {h : Sto} {k : Nat} (ns : List Int) : (ns.map D.int).mapM (toP h (k + 1)) = some (ns.map PyData.int) := mapM_of fun _ _ => rfl
theorem eqv_ints : ∀ ns ms : List Int, PyData.eqvAll (ns.map .int) (ms.map .int) = decide (ns = ms)
  | [], [] => by simp [PyData.eqvAll]
  | [], _ :: _ => by simp [PyData.eqvAll]
  | _ :: _, [] => by simp [PyData.eqvAll]
  | n :: r, m :: q => by
    simp only [List.map_cons, PyData.eqvAll, PyData.eqv, eqv_ints r q, List.cons.injEq, Bool.decide_and]
    rw [Bool.beq_eq_decide_eq]
theorem toP_lst {h : Sto} {n k : Nat} {xs : List D} {ps : List PyData} (e : h[n]? = some (.lst xs)) (e2 : xs.mapM (toP h k) = some ps) : toP h (k + 1) (.ref n) = some (.list ps) := by
  simp only [toP, e, e2, Option.map_some]
theorem toP_tup {h : Sto} {k : Nat} {xs : List D} {ps : List PyData} (e2 : xs.mapM (toP h k) = some ps) : toP h (k + 1) (.tup xs) = some (.tuple ps) := by
  simp only [toP, e2, Option.map_some]
theorem toP_refI {h : Sto} {n k : Nat} {ns : List Int} (e : h[n]? = some (.lst (ns.map .int))) : toP h (k + 2) (.ref n) = some (.list (ns.map .int)) := toP_lst e (toP_ints ns)
theorem eqv_listI {ns ms : List Int} : PyData.eqv (.list (ns.map .int)) (.list (ms.map .int)) = decide (ns = ms) := by
  simp only [PyData.eqv, eqv_ints]
end F3
set_option maxHeartbeats 200000
namespace F3
open PySem PySem.Spec PyProof.Rows L2
def r_short_1 : C3 :=
  (cRet (tCall3 sp_paired (tC3 (tO addR (tV 3) (tV 1)) (tC3 (tV 7) (tC3 (tV 2) (tC3 (tV 6) tN3))))))
def t_short : C3 :=
  (cSeq (cAsg (tV 0) (gTup3 4 (gCons3 (gN 3) (gCons3 (gN 4) (gCons3 (gN 5) (gCons3 (gN 6) gNil3))))))
    (cSeq (cAsg (tO addR (tV 4) (tV 1)) (gN 7))
    (cSeq (cIf (tT (tV 6)) (cAsg (tO subR (tO subR (tO addR (tV 4) (tV 5)) (tV 1)) (tV 2)) (gN 7)) cNext)
    r_short_1)))

def b_pairs_1 : C3 :=
  (cDrop (tLM appT (tV 5) (tC3 (tTup3 (tC3 (tO addR (tV 1) (tV 6)) (tC3 (tIxX (tC3 (tO addR (tV 2) (tV 6)) (tC3 (tO subR (tO subR (tO addR (tV 2) (tV 3)) (tK (.int 1))) (tV 6)) tN3)) (tB3 intR (tC3 (tV 4) tN3))) tN3))) tN3)))
def t_pairs : C3 :=
  (cSeq (cAsg (tV 0) (gTup3 4 (gCons3 (gN 1) (gCons3 (gN 2) (gCons3 (gN 3) (gCons3 (gN 4) gNil3))))))
    (cSeq (cAsg (tNew tN3) (gN 5))
    (cSeq (cFor (iRng (tC3 (tV 3) tN3)) (gN 6) b_pairs_1)
    (cRet (tV 5)))))

def sbeg (high long : Int) (t : Bool) (skip many : Int) : Int := if t = true then high + long - skip - many else high + skip
def sp_short : Sp3 := spD (fun (a : (Int × Int × Int × Bool) × Int × Int) => [pr a.1.1 a.1.2.1 a.1.2.2.1 a.1.2.2.2, .int a.2.1, .int a.2.2]) (fun _ _ => True)
  (fun a _ => pr (mn (a.1.1 + a.2.1) (sbeg a.1.2.1 a.1.2.2.1 a.1.2.2.2 a.2.1 a.2.2)) (mx (a.1.1 + a.2.1) (sbeg a.1.2.1 a.1.2.2.1 a.1.2.2.2 a.2.1 a.2.2)) a.2.2 a.1.2.2.2) (fun _ h => h)
theorem mono_short : MonoS sp_short := mono_spD
theorem len_short : ∀ ds h Q E, sp_short ds h Q E → ds.length = 3 := len_spD fun _ => rfl
theorem rd_short : ∀ ds h Q E, ClS h.length h → ClDs h.length ds → sp_short ds h Q E → t_short (ends3 (GQ h.length Q)) (start3 8 ds) h := by
  rintro ds h Q E _ _ ⟨⟨⟨low, high, long, t⟩, skip, many⟩, rfl, _, q⟩
  have epr : pr low high long t = .tup [.int low, .int high, .int long, .bl t] := rfl
  cases t
  · try simp only [tV, tO, tT, cNext, cSeq, cIf, cAsg, gN, gNil3, gCons3, gTup3, start3, ends3, addR_ii, subR_ii, List.getElem?_cons_zero, List.getElem?_cons_succ, List.set_cons_zero, List.set_cons_succ, List.map_cons, List.map_nil, List.cons_append, List.nil_append, List.length_cons, List.length_nil, List.replicate_succ, List.replicate_zero, Nat.reduceAdd, Nat.reduceSub, true_and, Bool.false_eq_true, if_false, t_short, epr]
    try simp only [tV, tO, tN3, tC3, cRet, tCall3, addR_ii, List.getElem?_cons_zero, List.getElem?_cons_succ, r_short_1]
    exact paired_at (.inl q)
  · try simp only [tV, tO, tT, cNext, cSeq, cIf, cAsg, gN, gNil3, gCons3, gTup3, start3, ends3, addR_ii, subR_ii, List.getElem?_cons_zero, List.getElem?_cons_succ, List.set_cons_zero, List.set_cons_succ, List.map_cons, List.map_nil, List.cons_append, List.nil_append, List.length_cons, List.length_nil, List.replicate_succ, List.replicate_zero, Nat.reduceAdd, Nat.reduceSub, true_and, if_true, t_short, epr]
    try simp only [tV, tO, tN3, tC3, cRet, tCall3, addR_ii, List.getElem?_cons_zero, List.getElem?_cons_succ, r_short_1]
    exact paired_at (.inl q)
theorem short_at {low high long skip many : Int} {t : Bool} {h : Sto} {Q : DK} {E : X3} (q : Q (pr (mn (low + skip) (sbeg high long t skip many)) (mx (low + skip) (sbeg high long t skip many)) many t) h) : sp_short [pr low high long t, .int skip, .int many] h Q E :=
  ⟨((low, high, long, t), skip, many), rfl, trivial, q⟩
/-- the pairs of a pairing -/
def prs (low high long : Int) (t : Bool) : List (Int × Int) := (List.range long.toNat).map fun (i : Nat) => (low + i, mate high long t i)
theorem mem_prs {low high long : Int} {t : Bool} {p : Int × Int} : p ∈ prs low high long t ↔ ∃ i : Int, 0 ≤ i ∧ i < long ∧ p = (low + i, mate high long t i) := by
  unfold prs
  rw [List.mem_map]
  constructor
  · rintro ⟨i, hi, rfl⟩
    have := List.mem_range.mp hi
    exact ⟨i, by omega, by omega, rfl⟩
  · rintro ⟨i, h0, h1, rfl⟩
    refine ⟨i.toNat, List.mem_range.mpr (by omega), ?_⟩
    have : ((i.toNat : Nat) : Int) = i := by omega
    rw [this]
theorem len_prs {low high long : Int} {t : Bool} : (prs low high long t).length = long.toNat := by simp [prs]
def sp_pairs : Sp3 := spD (fun (a : Int × Int × Int × Bool) => [pr a.1 a.2.1 a.2.2.1 a.2.2.2]) (fun a _ => 0 ≤ a.2.2.1 ∧ a.2.2.1 ≤ 20)
  (fun a h => .ref h.length) (fun a h => h ++ [.lst ((prs a.1 a.2.1 a.2.2.1 a.2.2.2).map prD)])
theorem mono_pairs : MonoS sp_pairs := mono_spD
theorem len_pairs : ∀ ds h Q E, sp_pairs ds h Q E → ds.length = 1 := len_spD fun _ => rfl
theorem pairs_loop {E : Ends3} {low high long : Int} {t : Bool} {h : Sto} {o0 : Option D} : ∀ (xs : List Nat) (acc : List (Int × Int)) (o6 : Option D), acc.length + xs.length ≤ 1000 →
    (∀ o6 : Option D, E.nx [o0, some (.int low), some (.int high), some (.int long), some (.bl t), some (.ref h.length), o6] (h ++ [.lst ((acc ++ xs.map fun (i : Nat) => (low + (i : Int), mate high long t i)).map prD)])) →
    forI (gN 6) b_pairs_1 (fun _ => True) E (xs.map fun (k : Nat) => D.int k) [o0, some (.int low), some (.int high), some (.int long), some (.bl t), some (.ref h.length), o6] (h ++ [.lst (acc.map prD)]) := by
  intro xs
  induction xs with
  | nil =>
    intro acc o6 _ q
    have := q o6
    rw [List.map_nil, List.append_nil] at this
    exact ⟨trivial, this⟩
  | cons i r ih =>
    intro acc o6 hl q
    have e1 : ∀ c : Cell, (h ++ [c])[h.length]? = some c := fun c => by simp
    have e2 : ∀ c c' : Cell, (h ++ [c]).set h.length c' = h ++ [c'] := fun c c' => set_app0
    simp only [List.length_cons] at hl
    refine forI_step trivial fun F hF => ?_
    have q' := ih (acc ++ [(low + (i : Int), mate high long t i)]) (some (.int i)) (by simp; omega) fun o6 => by
      have := q o6
      rw [List.map_cons] at this
      rw [List.append_assoc, List.singleton_append]
      exact this
    rw [← hF, List.map_append] at q'
    cases t
    · try simp only [tV, tK, tO, tN3, tC3, tTup3, cDrop, gN, tB3, tIxX, tLM, appT, addR_ii, subR_ii, atD_0, intR_b, List.getElem?_cons_zero, List.getElem?_cons_succ, List.set_cons_zero, List.set_cons_succ, true_and, Bool.false_eq_true, if_false, b_pairs_1, e1, e2]
      refine ⟨by simp; omega, ?_⟩
      exact q'
    · try simp only [tV, tK, tO, tN3, tC3, tTup3, cDrop, gN, tB3, tIxX, tLM, appT, addR_ii, subR_ii, atD_0, atD_1, intR_b, List.getElem?_cons_zero, List.getElem?_cons_succ, List.set_cons_zero, List.set_cons_succ, true_and, if_true, b_pairs_1, e1, e2]
      refine ⟨by simp; omega, ?_⟩
      exact q'
theorem rd_pairs : ∀ ds h Q E, ClS h.length h → ClDs h.length ds → sp_pairs ds h Q E → t_pairs (ends3 (GQ h.length Q)) (start3 7 ds) h := by
  rintro ds h Q E _ _ ⟨⟨low, high, long, t⟩, rfl, hl, q⟩
  have hl' : 0 ≤ long ∧ long ≤ 20 := hl
  have epr : pr low high long t = .tup [.int low, .int high, .int long, .bl t] := rfl
  have st : ∀ (B : C3), ((-(2 ^ 62) ≤ long ∧ long < 2 ^ 62) ∧ forI (gN 6) B (fun _ => True) { ends3 (GQ h.length Q) with nx := cRet (tV 5) (ends3 (GQ h.length Q)) } ((List.range long.toNat).map fun (k : Nat) => D.int k) [some (pr low high long t), some (.int low), some (.int high), some (.int long), some (.bl t), some (.ref h.length), none] (h ++ [.lst []])) →
    (cSeq (cAsg (tV 0) (gTup3 4 (gCons3 (gN 1) (gCons3 (gN 2) (gCons3 (gN 3) (gCons3 (gN 4) gNil3))))))
    (cSeq (cAsg (tNew tN3) (gN 5))
    (cSeq (cFor (iRng (tC3 (tV 3) tN3)) (gN 6) B)
    (cRet (tV 5))))) (ends3 (GQ h.length Q)) (start3 7 [pr low high long t]) h := fun B q => by
      try simp only [ends3, epr] at q
      try simp only [tV, tN3, tC3, tNew, cSeq, cAsg, gN, gNil3, gCons3, gTup3, cFor, start3, ends3, iRng_eq, rngD_1, List.getElem?_cons_zero, List.getElem?_cons_succ, List.set_cons_zero, List.set_cons_succ, List.map_cons, List.map_nil, List.cons_append, List.nil_append, List.length_cons, List.length_nil, List.replicate_succ, List.replicate_zero, Nat.reduceAdd, Nat.reduceSub, true_and, epr]
      exact q
  refine st b_pairs_1 ⟨⟨by omega, by omega⟩, ?_⟩
  · have := pairs_loop (E := { ends3 (GQ h.length Q) with nx := cRet (tV 5) (ends3 (GQ h.length Q)) }) (low := low) (high := high) (long := long) (t := t) (h := h) (o0 := some (pr low high long t)) (List.range long.toNat) [] none (by simp; omega) fun o6 => by
      rw [List.nil_append]
      exact .inl q
    exact this
theorem pairs_at {low high long : Int} {t : Bool} {h : Sto} {Q : DK} {E : X3} (h0 : 0 ≤ long) (hl : long ≤ 20) (q : Q (.ref h.length) (h ++ [.lst ((prs low high long t).map prD)])) : sp_pairs [pr low high long t] h Q E :=
  ⟨(low, high, long, t), rfl, ⟨h0, hl⟩, q⟩
/-! ### sorted pairs, sets of them -/
def srt (p : Int × Int) : Int × Int := (mn p.1 p.2, mx p.1 p.2)
theorem sort2 {x y : Int} {ns : List Int} (hp : ns.Perm [x, y]) (hs : ns.Pairwise (· ≤ ·)) : ns = [mn x y, mx x y] := by
  have hl := hp.length_eq
  match ns, hl, hp, hs with
  | [a, b], _, hp, hs =>
    have hab : a ≤ b := (List.pairwise_cons.mp hs).1 b (by simp)
    have h1 : ([a, b] : List Int).Perm [x, y] := hp
    have ma : a = x ∨ a = y := by have := hp.mem_iff.mp (List.mem_cons_self (a := a) (l := [b])); simpa using this
    have : (a = x ∧ b = y) ∨ (a = y ∧ b = x) := by
      rcases ma with rfl | rfl
      · left
        have := (List.perm_cons a).mp h1
        exact ⟨rfl, by simpa using this⟩
      · right
        have h2 := h1.trans (List.Perm.swap a x [])
        have := (List.perm_cons a).mp h2
        exact ⟨rfl, by simpa using this⟩
    unfold mn mx
    rcases this with ⟨rfl, rfl⟩ | ⟨rfl, rfl⟩
    · by_cases hc : a < b
      · simp [hc]; try omega
      · have : a = b := by omega
        subst this; simp
    · by_cases hc : a < b
      · have : ¬ b < a := by omega
        simp [hc, this]; try omega
      · have : a = b := by omega
        subst this; simp
theorem keys_ext : ∀ {ms ns : List (Int × Int)}, ms.Pairwise (fun p q => pkey p < pkey q) → ns.Pairwise (fun p q => pkey p < pkey q) → (∀ k, k ∈ ms ↔ k ∈ ns) → ms = ns
  | [], [], _, _, _ => rfl
  | [], n :: r, _, _, h => by have := (h n).mpr List.mem_cons_self; cases this
  | m :: r, [], _, _, h => by have := (h m).mp List.mem_cons_self; cases this
  | m :: r, n :: q, h1, h2, h => by
    have a1 := List.pairwise_cons.mp h1
    have a2 := List.pairwise_cons.mp h2
    have e : m = n := by
      rcases List.mem_cons.mp ((h m).mp List.mem_cons_self) with e | e
      · exact e
      · rcases List.mem_cons.mp ((h n).mpr List.mem_cons_self) with e' | e'
        · exact e'.symm
        · have x := a1.1 n e'
          have y := a2.1 m e
          omega
    subst e
    rw [keys_ext a1.2 a2.2 fun k => ?_]
    have hk := h k
    constructor
    · intro hm
      rcases List.mem_cons.mp (hk.mp (List.mem_cons_of_mem _ hm)) with e | e
      · have := a1.1 k hm
        rw [e] at this
        omega
      · exact e
    · intro hm
      rcases List.mem_cons.mp (hk.mpr (List.mem_cons_of_mem _ hm)) with e | e
      · have := a2.1 k hm
        rw [e] at this
        omega
      · exact e
/-- [tuple(sorted(pair)) for pair in pairs] -/
theorem lc_srt {g : G3} {e : E3} {ρ : S3} {h : Sto} {st : Sto → Prop} (hst : st h) (he : ∀ (p : Int × Int) (Q : DK), (∀ ns : List Int, ns.Perm [p.1, p.2] → ns.Pairwise (· ≤ ·) → Q (.tup (ns.map .int)) h) → g (prD p) ρ h fun ρ2 h2 => e ρ2 h2 Q) :
    ∀ (ps : List (Int × Int)) (acc : List D) (Q : List D → Sto → Prop), Q (acc ++ (ps.map srt).map prD) h → lcI g bYes e st ρ (ps.map prD) acc h Q := by
  intro ps
  induction ps with
  | nil =>
    intro acc Q q
    rw [List.map_nil, List.map_nil, List.append_nil] at q
    exact ⟨hst, q⟩
  | cons p r ih =>
    intro acc Q q
    try simp only [bYes, List.map_cons, if_true, lcI]
    refine ⟨hst, he p _ fun ns h1 h2 => ?_⟩
    rw [sort2 h1 h2]
    have := ih (acc ++ [prD (srt p)]) Q (by
      rw [List.append_assoc]
      exact q)
    exact this
theorem toP_prs {h : Sto} {n k : Nat} {ms : List (Int × Int)} (e : h[n]? = some (.lst (ms.map prD))) : toP h (k + 3) (.ref n) = some (.list (ms.map fun p => .tuple [.int p.1, .int p.2])) :=
  toP_lst e (mapM_of fun p _ => by
    unfold prD
    rw [toP_tup (ps := [.int p.1, .int p.2])]
    rfl)
theorem eqv_prs : ∀ ms : List (Int × Int), PyData.eqv (.list (ms.map fun p => .tuple [.int p.1, .int p.2])) (.list (ms.map fun p => .tuple [.int p.1, .int p.2])) = true := by
  intro ms
  simp only [PyData.eqv]
  induction ms with
  | nil => simp [PyData.eqvAll]
  | cons p r ih => simp [PyData.eqvAll, PyData.eqv, ih]
end F3
namespace F3
/-- a piece: how many places, their weights -/
abbrev Pc := Int × List Int
def lenP (w : List Pc) : Int := (w.map (·.1)).sum
def atP : List Pc → Int → List Int
  | [], _ => []
  | p :: r, i => if i < p.1 then p.2 else atP r (i - p.1)
def shStep (acc : List Pc) (p : Pc) : List Pc :=
  if 0 < p.1 then match acc.getLast? with
    | some q => if q.2 = p.2 then acc.dropLast ++ [(q.1 + p.1, p.2)] else acc ++ [p]
    | none => [p]
  else acc
def shp (ps : List Pc) : List Pc := ps.foldl shStep []
def NN (w : List Pc) : Prop := ∀ p ∈ w, 0 ≤ p.1
def Cn : List Pc → Prop
  | [] => True
  | [p] => 0 < p.1
  | p :: q :: r => 0 < p.1 ∧ p.2 ≠ q.2 ∧ Cn (q :: r)
theorem lenP_nil : lenP [] = 0 := rfl
theorem lenP_cons {p : Pc} {r : List Pc} : lenP (p :: r) = p.1 + lenP r := by simp [lenP]
theorem lenP_app {u v : List Pc} : lenP (u ++ v) = lenP u + lenP v := by simp [lenP]
theorem Cn.pos : ∀ {w : List Pc}, Cn w → ∀ p ∈ w, 0 < p.1
  | [p], h, q, hq => by
    have : q = p := by simpa using hq
    subst this; exact h
  | p :: q :: r, h, x, hx => by
    rcases List.mem_cons.mp hx with e | e
    · subst e; exact h.1
    · exact Cn.pos h.2.2 x e
theorem Cn.nn {w : List Pc} (h : Cn w) : NN w := fun p hp => by have := h.pos p hp; omega
theorem Cn.tail {p : Pc} {r : List Pc} (h : Cn (p :: r)) : Cn r := by
  cases r with
  | nil => trivial
  | cons q r => exact h.2.2
theorem lenP_nn : ∀ {w : List Pc}, NN w → 0 ≤ lenP w
  | [], _ => by simp [lenP]
  | p :: r, h => by
    rw [lenP_cons]
    have := h p List.mem_cons_self
    have := lenP_nn (w := r) fun q hq => h q (List.mem_cons_of_mem _ hq)
    omega
theorem Cn.len_pos {p : Pc} {r : List Pc} (h : Cn (p :: r)) : 0 < lenP (p :: r) := by
  rw [lenP_cons]
  have := h.pos p List.mem_cons_self
  have := lenP_nn h.tail.nn
  omega
theorem cn_snoc : ∀ {w : List Pc} {p : Pc}, Cn (w ++ [p]) ↔ Cn w ∧ 0 < p.1 ∧ ∀ q, w.getLast? = some q → q.2 ≠ p.2
  | [], p => by simp [Cn]
  | [q], p => by simp [Cn]; intro _; exact And.comm
  | q :: s :: r, p => by
    have ih := cn_snoc (w := s :: r) (p := p)
    simp only [List.cons_append] at ih ⊢
    simp only [Cn, ih, List.getLast?_cons_cons]
    constructor
    · rintro ⟨h1, h2, h3, h4, h5⟩; exact ⟨⟨h1, h2, h3⟩, h4, h5⟩
    · rintro ⟨⟨h1, h2, h3⟩, h4, h5⟩; exact ⟨h1, h2, h3, h4, h5⟩
theorem snoc_cases {α : Type} (w : List α) : w = [] ∨ ∃ u q, w = u ++ [q] := by
  rcases List.eq_nil_or_concat w with h | ⟨u, q, h⟩
  · exact .inl h
  · exact .inr ⟨u, q, by rw [h]; simp⟩
theorem shStep_nil {p : Pc} (h : 0 < p.1) : shStep [] p = [p] := by simp [shStep, h]
theorem shStep_same {u : List Pc} {q p : Pc} (h : 0 < p.1) (e : q.2 = p.2) : shStep (u ++ [q]) p = u ++ [(q.1 + p.1, p.2)] := by simp [shStep, h, e]
theorem shStep_new {u : List Pc} {q p : Pc} (h : 0 < p.1) (e : q.2 ≠ p.2) : shStep (u ++ [q]) p = u ++ [q] ++ [p] := by simp [shStep, h, e]
theorem shStep_none {u : List Pc} {p : Pc} (h : ¬ 0 < p.1) : shStep u p = u := by simp [shStep, h]
theorem cn_step {w : List Pc} {p : Pc} (h : Cn w) : Cn (shStep w p) := by
  by_cases hp : 0 < p.1
  · rcases snoc_cases w with rfl | ⟨u, q, rfl⟩
    · rw [shStep_nil hp]; exact hp
    · obtain ⟨h1, h2, h3⟩ := cn_snoc.mp h
      by_cases e : q.2 = p.2
      · rw [shStep_same hp e]
        exact cn_snoc.mpr ⟨h1, by show 0 < q.1 + p.1; omega, fun x hx => by rw [← e]; exact h3 x hx⟩
      · rw [shStep_new hp e]
        exact cn_snoc.mpr ⟨h, hp, fun x hx => by
          have : x = q := by simpa using hx.symm
          subst this; exact e⟩
  · rw [shStep_none hp]; exact h
theorem cn_fold : ∀ (ps : List Pc) {w : List Pc}, Cn w → Cn (ps.foldl shStep w)
  | [], _, h => h
  | p :: r, _, h => cn_fold r (cn_step h)
theorem cn_shp (ps : List Pc) : Cn (shp ps) := cn_fold ps trivial
theorem len_step {w : List Pc} {p : Pc} (hp : 0 ≤ p.1) : lenP (shStep w p) = lenP w + p.1 := by
  by_cases h : 0 < p.1
  · rcases snoc_cases w with rfl | ⟨u, q, rfl⟩
    · rw [shStep_nil h, lenP_cons]; simp [lenP]
    · by_cases e : q.2 = p.2
      · rw [shStep_same h e, lenP_app, lenP_app]; simp [lenP]; omega
      · rw [shStep_new h e, lenP_app (u := u ++ [q])]; simp [lenP]
  · rw [shStep_none h]; omega
theorem len_fold : ∀ (ps : List Pc) {w : List Pc}, NN ps → lenP (ps.foldl shStep w) = lenP w + lenP ps
  | [], _, _ => by simp [lenP]
  | p :: r, w, h => by
    rw [List.foldl_cons, len_fold r (fun q hq => h q (List.mem_cons_of_mem _ hq)), len_step (h p List.mem_cons_self), lenP_cons]
    omega
theorem len_shp {ps : List Pc} (h : NN ps) : lenP (shp ps) = lenP ps := by
  unfold shp
  rw [len_fold ps h, lenP_nil]; omega
theorem atP_app : ∀ {u v : List Pc} {i : Int}, NN u → 0 ≤ i → atP (u ++ v) i = if i < lenP u then atP u i else atP v (i - lenP u)
  | [], v, i, _, h => by rw [lenP_nil, if_neg (by omega)]; simp
  | p :: r, v, i, hn, h => by
    have h0 := hn p List.mem_cons_self
    have hr : NN r := fun q hq => hn q (List.mem_cons_of_mem _ hq)
    have hl := lenP_nn hr
    rw [List.cons_append, lenP_cons]
    simp only [atP]
    by_cases hi : i < p.1
    · rw [if_pos hi, if_pos (by omega), if_pos hi]
    · rw [if_neg hi, if_neg hi, atP_app hr (by omega)]
      by_cases hc : i - p.1 < lenP r
      · rw [if_pos hc, if_pos (by omega)]
      · rw [if_neg hc, if_neg (by omega)]
        congr 1; omega
theorem nn_app {u v : List Pc} : NN (u ++ v) ↔ NN u ∧ NN v := by
  constructor
  · exact fun h => ⟨fun p hp => h p (List.mem_append_left _ hp), fun p hp => h p (List.mem_append_right _ hp)⟩
  · rintro ⟨h1, h2⟩ p hp
    rcases List.mem_append.mp hp with e | e
    · exact h1 p e
    · exact h2 p e
theorem at_step {w : List Pc} {p : Pc} {i : Int} (hw : NN w) (hp : 0 ≤ p.1) (hi : 0 ≤ i) : atP (shStep w p) i = atP (w ++ [p]) i := by
  by_cases h : 0 < p.1
  · rcases snoc_cases w with rfl | ⟨u, q, rfl⟩
    · rw [shStep_nil h]; rfl
    · obtain ⟨h1, h2⟩ := nn_app.mp hw
      have hq : 0 ≤ q.1 := h2 q (by simp)
      by_cases e : q.2 = p.2
      · rw [shStep_same h e, List.append_assoc, atP_app h1 hi, atP_app h1 hi]
        split
        · rfl
        · simp only [List.singleton_append, atP]
          split <;> split <;> first | rfl | (try split) <;> first | omega | simp_all
      · rw [shStep_new h e]
  · rw [shStep_none h, atP_app hw hi]
    split
    · rfl
    · have : p.1 = 0 := by omega
      simp only [atP, this, ite_self]
      rw [if_neg (by omega)]
      -- both beyond
      have : ∀ {w : List Pc} {i : Int}, lenP w ≤ i → NN w → atP w i = [] := by
        intro w
        induction w with
        | nil => intros; rfl
        | cons a r ih =>
          intro i h1 h2
          rw [lenP_cons] at h1
          have hr : NN r := fun q hq => h2 q (List.mem_cons_of_mem _ hq)
          have := lenP_nn hr
          simp only [atP]
          rw [if_neg (by omega)]
          exact ih (by omega) hr
      exact this (by omega) hw
theorem nn_step {w : List Pc} {p : Pc} (hw : NN w) (hp : 0 ≤ p.1) : NN (shStep w p) := by
  by_cases h : 0 < p.1
  · rcases snoc_cases w with rfl | ⟨u, q, rfl⟩
    · rw [shStep_nil h]; intro x hx; have : x = p := by simpa using hx
      subst this; exact hp
    · obtain ⟨h1, h2⟩ := nn_app.mp hw
      have hq : 0 ≤ q.1 := h2 q (by simp)
      by_cases e : q.2 = p.2
      · rw [shStep_same h e]
        refine nn_app.mpr ⟨h1, fun x hx => ?_⟩
        have : x = (q.1 + p.1, p.2) := by simpa using hx
        subst this; show 0 ≤ q.1 + p.1; omega
      · rw [shStep_new h e]
        refine nn_app.mpr ⟨hw, fun x hx => ?_⟩
        have : x = p := by simpa using hx
        subst this; exact hp
  · rw [shStep_none h]; exact hw
theorem at_fold : ∀ (ps : List Pc) {w : List Pc} {i : Int}, NN w → NN ps → 0 ≤ i → atP (ps.foldl shStep w) i = atP (w ++ ps) i
  | [], w, i, _, _, _ => by simp
  | p :: r, w, i, hw, hp, hi => by
    have h0 := hp p List.mem_cons_self
    have hr : NN r := fun q hq => hp q (List.mem_cons_of_mem _ hq)
    have hs := nn_step hw h0
    rw [List.foldl_cons, at_fold r hs hr hi, atP_app hs hi, len_step h0, at_step hw h0 hi]
    have e : w ++ p :: r = (w ++ [p]) ++ r := by simp
    have hw1 : NN (w ++ [p]) := nn_app.mpr ⟨hw, fun x hx => by have : x = p := by simpa using hx
                                                               subst this; exact h0⟩
    rw [e, atP_app hw1 hi, lenP_app, show lenP [p] = p.1 by simp [lenP]]
theorem at_shp {ps : List Pc} {i : Int} (h : NN ps) (hi : 0 ≤ i) : atP (shp ps) i = atP ps i := by
  have := at_fold ps (w := []) (fun p hp => by cases hp) h hi
  simpa [shp] using this
theorem cn_ext : ∀ {w w' : List Pc}, Cn w → Cn w' → lenP w = lenP w' → (∀ i, 0 ≤ i → i < lenP w → atP w i = atP w' i) → w = w'
  | [], [], _, _, _, _ => rfl
  | [], p :: r, _, h, e, _ => by have := h.len_pos; rw [← e, lenP_nil] at this; omega
  | p :: r, [], h, _, e, _ => by have := h.len_pos; rw [e, lenP_nil] at this; omega
  | p :: r, q :: s, h1, h2, e, ha => by
    have p0 := h1.pos p List.mem_cons_self
    have q0 := h2.pos q List.mem_cons_self
    have lr := lenP_nn h1.tail.nn
    have ls := lenP_nn h2.tail.nn
    have e' := e
    rw [lenP_cons, lenP_cons] at e'
    have w0 : p.2 = q.2 := by
      have := ha 0 (by omega) (by rw [lenP_cons]; omega)
      simpa [atP, p0, q0] using this
    have m0 : p.1 = q.1 := by
      rcases Int.lt_trichotomy p.1 q.1 with h | h | h
      · exfalso
        cases r with
        | nil => rw [lenP_nil] at e'; omega
        | cons a t =>
          have a0 := h1.tail.pos a List.mem_cons_self
          have lt := lenP_nn h1.tail.tail.nn
          have := ha p.1 (by omega) (by rw [lenP_cons, lenP_cons]; omega)
          simp only [atP, if_pos h, if_neg (show ¬ p.1 < p.1 by omega)] at this
          rw [if_pos (by omega), ← w0] at this
          exact h1.2.1 this.symm
      · exact h
      · exfalso
        cases s with
        | nil => rw [lenP_nil] at e'; omega
        | cons a t =>
          have a0 := h2.tail.pos a List.mem_cons_self
          have lt := lenP_nn h2.tail.tail.nn
          have := ha q.1 (by omega) (by rw [e, lenP_cons, lenP_cons]; omega)
          simp only [atP, if_pos h, if_neg (show ¬ q.1 < q.1 by omega)] at this
          rw [if_pos (by omega), w0] at this
          exact h2.2.1 this
    have pq : p = q := Prod.ext m0 w0
    subst pq
    rw [cn_ext h1.tail h2.tail (by omega) fun i h0 hi => ?_]
    have := ha (i + p.1) (by omega) (by rw [lenP_cons]; omega)
    simp only [atP, if_neg (show ¬ i + p.1 < p.1 by omega)] at this
    rw [show i + p.1 - p.1 = i by omega] at this
    exact this
theorem shp_cn {w : List Pc} (h : Cn w) : shp w = w := cn_ext (cn_shp w) h (len_shp h.nn) fun i h0 _ => at_shp h.nn h0
theorem shp_shp (ps : List Pc) : shp (shp ps) = shp ps := shp_cn (cn_shp ps)
end F3
set_option maxHeartbeats 400000
/-! FO: loops by invariants, the store with a purse, data of pieces. -/
namespace F3
open PySem PySem.Spec PyProof.Rows L2
theorem forI_ind {g : G3} {b : C3} {st : Sto → Prop} {E : Ends3} (Inv : List D → S3 → Sto → Prop) {xs : List D} {ρ : S3} {h : Sto} (hi : Inv xs ρ h) (hs : ∀ xs ρ h, Inv xs ρ h → st h) (h0 : ∀ ρ h, Inv [] ρ h → E.nx ρ h)
    (h1 : ∀ x r ρ h (F : S3 → Sto → Prop), Inv (x :: r) ρ h → (∀ ρ' h', Inv r ρ' h' → F ρ' h') → g x ρ h fun ρ' h' => b { E with nx := F, ct := F, bk := E.nx } ρ' h') : forI g b st E xs ρ h := by
  induction xs generalizing ρ h with
  | nil => exact ⟨hs _ _ _ hi, h0 _ _ hi⟩
  | cons x r ih => exact ⟨hs _ _ _ hi, h1 x r ρ h _ hi fun ρ' h' hi' => ih hi'⟩
theorem lcI_ind {g : G3} {tt : B3} {te : E3} {st : Sto → Prop} {ρ : S3} {Q : List D → Sto → Prop} (Inv : List D → List D → Sto → Prop) {xs acc : List D} {h : Sto} (hi : Inv xs acc h) (hs : ∀ xs acc h, Inv xs acc h → st h) (h0 : ∀ acc h, Inv [] acc h → Q acc h)
    (h1 : ∀ x r acc h (F : List D → Sto → Prop), Inv (x :: r) acc h → (∀ acc' h', Inv r acc' h' → F acc' h') → g x ρ h fun ρ2 h2 => tt ρ2 h2 fun b h3 => if b = true then te ρ2 h3 fun y h4 => F (acc ++ [y]) h4 else F acc h3) : lcI g tt te st ρ xs acc h Q := by
  induction xs generalizing acc h with
  | nil => exact ⟨hs _ _ _ hi, h0 _ _ hi⟩
  | cons x r ih => exact ⟨hs _ _ _ hi, h1 x r acc h (fun acc' h' => lcI g tt te st ρ r acc' h' Q) hi fun acc' h' hi' => ih hi'⟩
theorem wh_ind {c : B3} {b : C3} {E : Ends3} (Inv : Nat → S3 → Sto → Prop) {n : Nat} {ρ : S3} {h : Sto} (hi : Inv n ρ h)
    (h1 : ∀ n ρ h (F : S3 → Sto → Prop), Inv n ρ h → (∀ k ρ' h', k < n → Inv k ρ' h' → F ρ' h') → c ρ h fun k h1 => if k = true then b { E with nx := F, ct := F, bk := E.nx } ρ h1 else E.nx ρ h1)
    (mc : MonoB c) (mb : MonoC b) : cWhile c b E ρ h := by
  have up : ∀ n m ρ h, n ≤ m → whN c b E n ρ h → whN c b E m ρ h := by
    intro n
    induction n with
    | zero => intro m ρ h _ q; exact q.elim
    | succ n ih =>
      intro m ρ h hm q
      cases m with
      | zero => omega
      | succ m =>
        refine mc _ _ _ _ (fun k h1 q1 => ?_) q
        cases k with
        | false => exact q1
        | true =>
          simp only [if_true] at q1 ⊢
          exact mb { E with nx := whN c b E n, ct := whN c b E n, bk := E.nx } { E with nx := whN c b E m, ct := whN c b E m, bk := E.nx } _ _ ⟨fun _ _ q => ih m _ _ (by omega) q, fun _ _ q => q, fun _ _ q => q, fun _ _ q => ih m _ _ (by omega) q⟩ q1
  have key : ∀ m n ρ h, n ≤ m → Inv n ρ h → whN c b E (m + 1) ρ h := by
    intro m
    induction m with
    | zero =>
      intro n ρ h hn i
      refine h1 n ρ h (whN c b E 0) i fun k ρ' h' hk i' => by omega
    | succ m ih =>
      intro n ρ h hn i
      exact h1 n ρ h (whN c b E (m + 1)) i fun k ρ' h' hk i' => ih k ρ' h' (by omega) i'
  exact ⟨n + 1, key n n ρ h (Nat.le_refl _) hi⟩
/-! ### the store with a purse at a, and cells behind -/
def W (h : Sto) (a : Nat) (c s : Int) (g : Sto) : Sto := h.set a (draw c s) ++ g
section
variable {h g k : Sto} {a : Nat} {c s c' s' : Int}
theorem W_len : (W h a c s g).length = h.length + g.length := by simp [W]
theorem W_app : W h a c s g ++ k = W h a c s (g ++ k) := by simp [W]
theorem W_getA (ha : a < h.length) : (W h a c s g)[a]? = some (draw c s) := by
  unfold W
  rw [List.getElem?_append_left (by simpa using ha)]
  exact List.getElem?_set_self ha
theorem W_setA (ha : a < h.length) : (W h a c s g).set a (draw c' s') = W h a c' s' g := by
  unfold W
  rw [List.set_append, if_pos (by simpa using ha), List.set_set]
theorem W_get0 : (W h a c s g)[h.length]? = g[0]? := by
  unfold W
  rw [List.getElem?_append_right (by simp)]; simp
theorem W_getk {n : Nat} : (W h a c s g)[h.length + n]? = g[n]? := by
  unfold W
  rw [List.getElem?_append_right (by simp)]; simp
theorem W_set0 {x : Cell} : (W h a c s g).set h.length x = W h a c s (g.set 0 x) := by
  unfold W
  rw [List.set_append, if_neg (by simp)]; simp
theorem W_setk {n : Nat} {x : Cell} : (W h a c s g).set (h.length + n) x = W h a c s (g.set n x) := by
  unfold W
  rw [List.set_append, if_neg (by simp)]; simp
theorem W_mk (e : h[a]? = some (draw c s)) : h = W h a c s [] := by
  unfold W
  rw [List.append_nil, set_same e]
theorem W_nil : W h a c s [] = h.set a (draw c s) := by simp [W]
theorem lt_of_get {α : Type} {xs : List α} {n : Nat} {x : α} (e : xs[n]? = some x) : n < xs.length := (List.getElem?_eq_some_iff.mp e).1
theorem cl_W (ha : a < h.length) (hs : ClS h.length h) : ClS (h.set a (draw c s)).length (h.set a (draw c s)) := by
  rw [List.length_set]
  exact hs.set a cl_draw
/-- one cell alone is left behind the first ones -/
theorem gq_W {n : Nat} {xs : List D} {Q : DK} (ha : a < h.length) (hs : ClS h.length h) (hk : g[n]? = some (.lst xs)) (hx : ClDs h.length xs) (q : Q (.ref h.length) (W h a c s [.lst xs])) : GQ h.length Q (.ref (h.length + n)) (W h a c s g) := by
  have := gq_one (n := h.length) (h := h.set a (draw c s)) (g := g) (k := n) (Q := Q) (by simp) hk (by simpa using hx) (cl_W ha hs) (by simpa [W] using q)
  simpa [W] using this
theorem gq_Wt {d : D} {Q : DK} (ha : a < h.length) (hs : ClS h.length h) (hd : ClD h.length d) (q : Q d (W h a c s [])) : GQ h.length Q d (W h a c s g) := by
  have := gq_tail (n := h.length) (h := h.set a (draw c s)) (g := g) (Q := Q) (d := d) (by simp) (by simpa using hd) (cl_W ha hs) (by simpa [W] using q)
  exact this
theorem take_W {n : Int} {Q : DK} {E : X3} (ha : a < h.length) (hd : DrawOk c s) (h0 : 0 < n) (h1 : n < 2 ^ 2000)
    (q : ∀ c s r : Int, DrawOk c s → 0 ≤ r → r < n → Q (.int r) (W h a c s g)) : sp_take [.ref a, .int n] (W h a c s g) Q E :=
  take_at (W_getA ha) hd h0 h1 fun c' s' r hd' r0 r1 => by
    rw [W_setA ha]
    exact q c' s' r hd' r0 r1
end
/-! ### a promise of a def that draws: a is the purse's cell -/
/-- args behind the purse, what is wanted of them, and what is told: a value and one new cell or none -/
def spW {α : Type} (args : α → List D) (pre : α → Sto → Prop) (res : α → Sto → D → Sto → Prop) : Sp3 :=
  spR (fun (a : Nat × Int × Int × α) => .ref a.1 :: args a.2.2.2) (fun a h => h[a.1]? = some (draw a.2.1 a.2.2.1) ∧ DrawOk a.2.1 a.2.2.1 ∧ pre a.2.2.2 h) (fun a h d h' => ∃ c s g, DrawOk c s ∧ res a.2.2.2 h d g ∧ h' = W h a.1 c s g)
theorem mono_spW {α : Type} {args : α → List D} {pre : α → Sto → Prop} {res : α → Sto → D → Sto → Prop} : MonoS (spW args pre res) := mono_spR
theorem len_spW {α : Type} {args : α → List D} {pre : α → Sto → Prop} {res : α → Sto → D → Sto → Prop} {n : Nat} (hl : ∀ a, (args a).length + 1 = n) : ∀ ds h Q E, spW args pre res ds h Q E → ds.length = n := len_spR fun a => by
  rw [List.length_cons]; exact hl _
theorem spW_in {α : Type} {args : α → List D} {pre : α → Sto → Prop} {res : α → Sto → D → Sto → Prop} {ds : List D} {h : Sto} {Q : DK} {E : X3} (w : spW args pre res ds h Q E) :
    ∃ a c s x, ds = .ref a :: args x ∧ a < h.length ∧ DrawOk c s ∧ pre x h ∧ h = W h a c s [] ∧ ∀ c s g d, DrawOk c s → res x h d g → Q d (W h a c s g) := by
  obtain ⟨⟨a, c, s, x⟩, rfl, ⟨h1, h2, h3⟩, q⟩ := w
  exact ⟨a, c, s, x, rfl, lt_of_get h1, h2, h3, W_mk h1, fun c s g d hd hr => q _ _ ⟨c, s, g, hd, hr, rfl⟩⟩
theorem spW_at {α : Type} {args : α → List D} {pre : α → Sto → Prop} {res : α → Sto → D → Sto → Prop} {h g : Sto} {a : Nat} {c s : Int} {ds : List D} {Q : DK} {E : X3} (x : α) (ha : a < h.length) (hd : DrawOk c s) (e : ds = .ref a :: args x) (hp : pre x (W h a c s g))
    (q : ∀ c' s' k d, DrawOk c' s' → res x (W h a c s g) d k → Q d (W h a c' s' (g ++ k))) : spW args pre res ds (W h a c s g) Q E := by
  refine ⟨(a, c, s, x), e, ⟨W_getA ha, hd, hp⟩, ?_⟩
  rintro d h' ⟨c', s', k, hd', hr, rfl⟩
  have : W (W h a c s g) a c' s' k = W h a c' s' (g ++ k) := by
    show (W h a c s g).set a (draw c' s') ++ k = _
    rw [W_setA ha, W_app]
  show Q d (W (W h a c s g) a c' s' k)
  rw [this]
  exact q c' s' k d hd' hr
/-! ### pieces as values -/
def wtD (w : List Int) : D := .tup (w.map .int)
def pcD (p : Pc) : D := .tup [.int p.1, wtD p.2]
def pcP (p : Pc) : PyData := .tuple [.int p.1, .tuple (p.2.map .int)]
theorem toP_wt {h : Sto} {k : Nat} (w : List Int) : toP h (k + 2) (wtD w) = some (.tuple (w.map .int)) := toP_tup (toP_ints w)
theorem toP_pc {h : Sto} {k : Nat} (p : Pc) : toP h (k + 3) (pcD p) = some (pcP p) := by
  refine toP_tup (k := k + 2) ?_
  rw [List.mapM_cons, List.mapM_cons, List.mapM_nil, toP_wt]
  rfl
theorem toP_pcs {h : Sto} {n k : Nat} {w : List Pc} (e : h[n]? = some (.lst (w.map pcD))) : toP h (k + 4) (.ref n) = some (.list (w.map pcP)) := toP_lst e (mapM_of fun p _ => toP_pc p)
theorem toP_pcsX {h : Sto} {k : Nat} {w : List Pc} : (w.map pcD).mapM (toP h (k + 3)) = some (w.map pcP) := mapM_of fun p _ => toP_pc p
theorem eqv_tupI {ns ms : List Int} : PyData.eqv (.tuple (ns.map .int)) (.tuple (ms.map .int)) = decide (ns = ms) := by
  simp only [PyData.eqv, eqv_ints]
theorem eqv_pc {p q : Pc} : PyData.eqv (pcP p) (pcP q) = decide (p = q) := by
  obtain ⟨m, w⟩ := p
  obtain ⟨k, v⟩ := q
  simp only [pcP, PyData.eqv, PyData.eqvAll, eqv_ints, Bool.and_true, Prod.mk.injEq, Bool.decide_and]
  rw [Bool.beq_eq_decide_eq]
theorem eqv_pcAll : ∀ {w v : List Pc}, PyData.eqvAll (w.map pcP) (v.map pcP) = decide (w = v)
  | [], [] => by simp [PyData.eqvAll]
  | [], _ :: _ => by simp [PyData.eqvAll]
  | _ :: _, [] => by simp [PyData.eqvAll]
  | n :: r, m :: q => by
    simp only [List.map_cons, PyData.eqvAll, eqv_pc, eqv_pcAll (w := r) (v := q), List.cons.injEq, Bool.decide_and]
theorem eqv_pcs {w v : List Pc} : PyData.eqv (.list (w.map pcP)) (.list (v.map pcP)) = decide (w = v) := by
  simp only [PyData.eqv, eqv_pcAll]
/-- a cell with pieces against a written list -/
theorem eqX_pcs {h : Sto} {n : Nat} {neg : Bool} {w v : List Pc} {Q : DK} (e : h[n]? = some (.lst (w.map pcD))) : eqX neg (.ref n) (v.map pcD) h Q = Q (.bl (if neg then !decide (w = v) else decide (w = v))) h := by
  unfold eqX
  simp only [toP_pcs (k := 5) e, toP_pcsX (k := 5), eqv_pcs]
theorem eqX_pcs0 {h : Sto} {n : Nat} {neg : Bool} {w : List Pc} {Q : DK} (e : h[n]? = some (.lst (w.map pcD))) : eqX neg (.ref n) [] h Q = Q (.bl (if neg then !decide (w = []) else decide (w = []))) h := eqX_pcs (v := []) e
theorem neR_pcs {h : Sto} {n m : Nat} {w v : List Pc} {Q : DK} (e : h[n]? = some (.lst (w.map pcD))) (f : h[m]? = some (.lst (v.map pcD))) : neR (.ref n) (.ref m) h Q = Q (.bl (!decide (w = v))) h := by
  rw [neR_re, toP_pcs (k := 5) e, toP_pcs (k := 5) f, eqP_some, eqv_pcs]
theorem eqR_pcs {h : Sto} {n m : Nat} {w v : List Pc} {Q : DK} (e : h[n]? = some (.lst (w.map pcD))) (f : h[m]? = some (.lst (v.map pcD))) : eqR (.ref n) (.ref m) h Q = Q (.bl (decide (w = v))) h := by
  rw [eqR_re, toP_pcs (k := 5) e, toP_pcs (k := 5) f, eqP_some, eqv_pcs]
theorem eqR_wt {h : Sto} {w v : List Int} {Q : DK} : eqR (wtD w) (wtD v) h Q = Q (.bl (decide (w = v))) h := by
  have : wtD w = .tup (w.map .int) := rfl
  rw [this, eqR_te, ← this, toP_wt (k := 7), toP_wt (k := 7), eqP_some, eqv_tupI]
theorem neR_wt {h : Sto} {w v : List Int} {Q : DK} : neR (wtD w) (wtD v) h Q = Q (.bl (!decide (w = v))) h := by
  have : wtD w = .tup (w.map .int) := rfl
  rw [this, neR_te, ← this, toP_wt (k := 7), toP_wt (k := 7), eqP_some, eqv_tupI]
theorem cl_wt {n : Nat} {w : List Int} : ClD n (wtD w) := by
  unfold wtD
  simp only [ClD]
  exact cl_ints w
theorem cl_pc {n : Nat} {p : Pc} : ClD n (pcD p) := by
  unfold pcD
  simp only [ClD, ClDs, true_and, and_true]
  exact cl_wt
theorem cl_pcs {n : Nat} {w : List Pc} : ClDs n (w.map pcD) := ClDs.all fun x hx => by
  obtain ⟨p, _, rfl⟩ := List.mem_map.mp hx
  exact cl_pc
theorem ix_pc0 {p : Pc} {h : Sto} {Q : DK} : ixR (pcD p) (.int 0) h Q = Q (.int p.1) h := by
  unfold pcD
  rw [ixR_ti, atD_0]
theorem ix_pc1 {p : Pc} {h : Sto} {Q : DK} : ixR (pcD p) (.int 1) h Q = Q (wtD p.2) h := by
  unfold pcD
  rw [ixR_ti, atD_1, atD_0]
theorem gTup_pc {p : Pc} {i j : Nat} {ρ : S3} {h : Sto} {Q : S3 → Sto → Prop} : gTup3 2 (gCons3 (gN i) (gCons3 (gN j) gNil3)) (pcD p) ρ h Q = Q ((ρ.set i (some (.int p.1))).set j (some (wtD p.2))) h := by
  unfold pcD gTup3 gCons3 gNil3 gN
  simp
end F3
set_option maxHeartbeats 400000
/-! FP: sorted(..) of a list of data of one kind. -/
namespace F3
open PySem PySem.Spec PyProof.Rows L2
section
variable {X : Cx}
def rSortedD (K : PySem.W.Frag) : List V → Hp → VK → Prop := fun vs H Q => ∃ (l : Addr) (γ : Type) (zs : List γ) (f : γ → V) (enc : γ → PyData), vs = [V.ref l] ∧ SqL K H l (zs.map f) ∧ (∀ z ∈ zs, Dp K H (f z) (enc z) ∧ (enc z).depth ≤ 60) ∧
  PySem.W.AllAlike (zs.map enc) ∧ PySem.W.Sortable (zs.map enc) ∧ ∀ p : Addr, H p = none → Q (.ref p) (upd H p (.lst ((zs.mergeSort (PySem.W.dataLe false enc)).map f)))
theorem each_of_vals {γ : Type} {f : γ → V} : ∀ {zs : List γ} {us : List Value}, Vals (zs.map f) us → PySem.W.EachIs (fun v z => RelV (f z) v) us zs
  | [], _, .nil => .nil
  | _ :: _, _, .cons a b => .cons a (each_of_vals b)
theorem vals_of_each {γ : Type} {f : γ → V} : ∀ {zs : List γ} {us : List Value}, PySem.W.EachIs (fun v z => RelV (f z) v) us zs → Vals (zs.map f) us
  | _, _, .nil => .nil
  | _, _, .cons a b => .cons a (vals_of_each b)
theorem each_and {γ : Type} {R S : Value → γ → Prop} : ∀ {us : List Value} {zs : List γ}, PySem.W.EachIs R us zs → (∀ u, ∀ z ∈ zs, R u z → S u z) → PySem.W.EachIs S us zs
  | _, _, .nil, _ => .nil
  | _, _, .cons a b, w => .cons (w _ _ List.mem_cons_self a) (each_and b fun u z hz => w u z (List.mem_cons_of_mem _ hz))
theorem cr_sortedD (hu : X.A.units + 64 < cLine) : CallR X (.builtin "sorted") (rSortedD X.K) := by
  intro pins s σ H vs us Q I r h
  obtain ⟨l, γ, zs, f, enc, rfl, hs, hd, ha, hk, q⟩ := h
  obtain ⟨its, rv, hl, hz⟩ := I.list hs
  rw [Vals.ref1 r]
  have e1 := each_of_vals rv
  have e2 : PySem.W.EachIs (fun v z => ∃ as, Reads s.heap v (enc z) as) its zs := each_and e1 fun u z hz r => Dp.reads I _ _ _ (hd z hz).1 r
  refine PySem.W.sorted_data hl.isList e1 e2 ha hk (by simpa using hz) (fun z hz => by have := (hd z hz).2; omega) fun out h1 h2 => ?_
  obtain ⟨ep, he'⟩ := PyProof.Rows.sortedAll_at s.heap its out.toArray
  have v2 := vals_of_each h2
  have hlen : ((zs.mergeSort (PySem.W.dataLe false enc)).map f).length ≤ sizeLine := by
    rw [List.length_map, List.length_mergeSort]
    simpa using hz
  exact ⟨.ref _, upd H (s.heap.objs.size + 1) (.lst ((zs.mergeSort (PySem.W.dataLe false enc)).map f)), I.laid (t' := s.toks) (fun _ _ => PyProof.Rows.sortedAll_old) (Nat.le_succ _) ⟨hlen, out, ep, v2, he'⟩, rfl, q _ (I.hok.fresh (Nat.le_succ _))⟩
/-- sorted of data -/
def srtG : M3 := fun xs h Q => ∃ (β : Type) (bs : List β) (f : β → D) (enc : β → PyData), xs = bs.map f ∧ (∀ b ∈ bs, toP h 8 (f b) = some (enc b)) ∧ PySem.W.AllAlike (bs.map enc) ∧ PySem.W.Sortable (bs.map enc) ∧ Q ((bs.mergeSort (PySem.W.dataLe false enc)).map f) h
theorem srtG_mono : ∀ xs h (Q Q' : List D → Sto → Prop), (∀ d h', Q d h' → Q' d h') → srtG xs h Q → srtG xs h Q' := fun xs h Q Q' w ⟨β, bs, f, enc, h1, h2, h3, h4, q⟩ => ⟨β, bs, f, enc, h1, h2, h3, h4, w _ _ q⟩
theorem RelDs.zip {K : PySem.W.Frag} {m : List Addr} {H : Hp} {β : Type} {f : β → D} : ∀ {bs : List β} {vs : List V}, RelDs K m H (bs.map f) vs → ∃ zs : List (β × V), zs.map Prod.fst = bs ∧ zs.map Prod.snd = vs ∧ ∀ z ∈ zs, RelD K m H (f z.1) z.2
  | [], _, .nil => ⟨[], rfl, rfl, by simp⟩
  | b :: bs, _, .cons r t => by
    obtain ⟨zs, h1, h2, h3⟩ := RelDs.zip t
    refine ⟨(b, _) :: zs, by simp [h1], by simp [h2]; rfl, fun z hz => ?_⟩
    rcases List.mem_cons.mp hz with e | e
    · subst e; exact r
    · exact h3 z e
theorem RelDs.unzip {K : PySem.W.Frag} {m : List Addr} {H : Hp} {β : Type} {f : β → D} : ∀ {zs : List (β × V)}, (∀ z ∈ zs, RelD K m H (f z.1) z.2) → RelDs K m H (zs.map fun z => f z.1) (zs.map Prod.snd)
  | [], _ => .nil
  | z :: r, h => .cons (h z List.mem_cons_self) (RelDs.unzip fun y hy => h y (List.mem_cons_of_mem _ hy))
theorem srtG_lift {K : PySem.W.Frag} {m : List Addr} {h : Sto} {H : Hp} {l : Addr} {xs : List D} {vs : List V} {Q : VK} (R : Rep K m h H) (sq : SqL K H l vs) (rs : RelDs K m H xs vs) (q : srtG xs h (UpX K m H Q)) : rSortedD K [.ref l] H Q := by
  obtain ⟨β, bs, f, enc, rfl, h2, h3, h4, q⟩ := q
  obtain ⟨zs, rfl, rfl, hz⟩ := rs.zip
  refine ⟨l, β × V, zs, Prod.snd, fun z => enc z.1, rfl, sq, fun z hm => ?_, ?_, ?_, fun p hp => ?_⟩
  · have e := h2 z.1 (List.mem_map_of_mem hm)
    exact ⟨(toP_dp R 8 _ _ _ e (hz z hm)).1, Nat.le_trans (toP_depth 8 _ _ e) (by decide)⟩
  · rw [List.map_map] at h3; exact h3
  · rw [List.map_map] at h4; exact h4
  · have e1 : ((zs.map Prod.fst).mergeSort (PySem.W.dataLe false enc)) = (zs.mergeSort (PySem.W.dataLe false fun z => enc z.1)).map Prod.fst := by
      rw [List.map_mergeSort (s := PySem.W.dataLe false enc)]
      intro a _ b _
      rfl
    rw [e1, List.map_map] at q
    refine UpX.laid R (xs := (zs.mergeSort (PySem.W.dataLe false fun z => enc z.1)).map fun z => f z.1) (RelDs.unzip fun z hm => hz z ?_) q p hp
    exact (List.mergeSort_perm _ _).mem_iff.mp hm
theorem klx_sortedD (hu : X.A.units + 64 < cLine) : CallLX3 X (.builtin "sorted") srtG :=
  ⟨srtG_mono, _, cr_sortedD hu, fun m h H a xs vs Q R ea rs q => srtG_lift R (.inl (.inl ea)) rs q⟩
theorem kl_sortedD (hu : X.A.units + 64 < cLine) : CallL3 X (.builtin "sorted") (onLM srtG) := by
  refine ⟨fun xs h Q Q' w q => ?_, _, cr_sortedD hu, fun m h H xs vs Q R rs q => ?_⟩
  · unfold onLM at q ⊢
    split at q
    · split at q
      · exact srtG_mono _ _ _ _ w q
      · exact q.elim
    · exact q.elim
  · unfold onLM at q
    split at q
    · split at q
      next ys e =>
        match vs, rs with
        | [_], .cons r .nil =>
          obtain ⟨a, ws, rfl, sq, rr⟩ := listOf_lift R r e
          exact srtG_lift R sq rr q
      next => exact q.elim
    · exact q.elim
end
end F3
set_option maxHeartbeats 400000
/-! FQ: the readings evaluated at their head alone: each row a plain rewriting (no defeq), what follows is kept shut until its value is there. -/
namespace F3
open PySem PySem.Spec PyProof.Rows L2
universe u
section
variable {h g h1 : Sto} {Q : DK} {i j : Int} {a b : Bool} {x y : Str} {xs ys : List D} {n m k : Nat} {d e : D} {ρ ρ' : S3} {E D' : Ends3} {A B : Prop}
structure Tag {α : Sort u} (a : α) : Type where
/-! ### ends -/
def thenE (u : C3) (E : Ends3) : Ends3 := { E with nx := u E }
theorem thenE_nx {u : C3} : (thenE u E).nx = u E := id rfl
theorem thenE_rt {u : C3} : (thenE u E).rt = E.rt := id rfl
theorem thenE_bk {u : C3} : (thenE u E).bk = E.bk := id rfl
theorem thenE_ct {u : C3} : (thenE u E).ct = E.ct := id rfl
def loopE (F : S3 → Sto → Prop) (E : Ends3) : Ends3 := { E with nx := F, ct := F, bk := E.nx }
theorem loopE_nx {F : S3 → Sto → Prop} : (loopE F E).nx = F := id rfl
theorem loopE_rt {F : S3 → Sto → Prop} : (loopE F E).rt = E.rt := id rfl
theorem loopE_bk {F : S3 → Sto → Prop} : (loopE F E).bk = E.nx := id rfl
theorem loopE_ct {F : S3 → Sto → Prop} : (loopE F E).ct = F := id rfl
theorem ends3_nx : (ends3 Q).nx ρ h = Q .non h := id rfl
theorem ends3_rt : (ends3 Q).rt = Q := id rfl
/-! ### what is shut: what follows stands in a place that the simplifier leaves alone -/
def onO (o : Option (Option D)) (q : D → Prop) (_ : Tag q := ⟨⟩) : Prop := match o with
  | some (some d) => q d
  | _ => False
theorem onO_some {q : D → Prop} : onO (some (some d)) q = q d := id rfl
def onB (d : D) (q : Bool → Prop) (_ : Tag q := ⟨⟩) : Prop := match d with
  | .bl b => q b
  | _ => False
theorem onB_bl {q : Bool → Prop} : onB (.bl a) q = q a := id rfl
def onI (d : D) (q : Int → Prop) (_ : Tag q := ⟨⟩) : Prop := match d with
  | .int i => q i
  | _ => False
theorem onI_int {q : Int → Prop} : onI (.int i) q = q i := id rfl
def ifC (c : Bool) (A B : Prop) (_ : Tag A := ⟨⟩) (_ : Tag B := ⟨⟩) : Prop := if c = true then A else B
theorem ifC_true : ifC true A B = A := by simp [ifC]
theorem ifC_false : ifC false A B = B := by simp [ifC]
theorem ifC_of {p : Prop} {_ : Decidable p} (h1 : p → A) (h2 : ¬ p → B) : ifC (decide p) A B := by
  unfold ifC
  split
  next h => exact h1 (of_decide_eq_true h)
  next h => exact h2 (of_decide_eq_false (by simpa using h))
theorem ifC_ofn {p : Prop} {_ : Decidable p} (h1 : ¬ p → A) (h2 : p → B) : ifC (!decide p) A B := by
  unfold ifC
  split
  next h => exact h1 (by simpa using h)
  next h => exact h2 (by simpa using h)
theorem ifC_ofb (h1 : a = true → A) (h2 : a = false → B) : ifC a A B := by
  cases a with
  | true => rw [ifC_true]; exact h1 rfl
  | false => rw [ifC_false]; exact h2 rfl
theorem ifC_yes {p : Prop} {_ : Decidable p} (hp : p) (q : A) : ifC (decide p) A B := by rw [decide_eq_true hp, ifC_true]; exact q
theorem ifC_no {p : Prop} {_ : Decidable p} (hp : ¬ p) (q : B) : ifC (decide p) A B := by rw [decide_eq_false hp, ifC_false]; exact q
theorem ifC_nyes {p : Prop} {_ : Decidable p} (hp : p) (q : B) : ifC (!decide p) A B := by rw [decide_eq_true hp, Bool.not_true, ifC_false]; exact q
theorem ifC_nno {p : Prop} {_ : Decidable p} (hp : ¬ p) (q : A) : ifC (!decide p) A B := by rw [decide_eq_false hp, Bool.not_false, ifC_true]; exact q
theorem ifC_p {p : Prop} {_ : Decidable p} : ifC (decide p) A B = if p then A else B := by
  by_cases hp : p
  · rw [decide_eq_true hp, ifC_true, if_pos hp]
  · rw [decide_eq_false hp, ifC_false, if_neg hp]
def onC (o : Option Cell) (q : List D → Prop) (_ : Tag q := ⟨⟩) : Prop := onLst o q
theorem onC_q {q : List D → Prop} : onC (some (.lst xs)) q = q xs := id rfl
def eqT (o p : Option PyData) (q : Bool → Prop) (_ : Tag q := ⟨⟩) : Prop := eqP o p q
theorem eqT_q {o p : PyData} {q : Bool → Prop} : eqT (some o) (some p) q = q (PyData.eqv o p) := id rfl
def isU (o : Option String) (T : String) (q : Bool → Prop) (_ : Tag q := ⟨⟩) : Prop := isB o T q
theorem isU_q {s T : String} {q : Bool → Prop} : isU (some s) T q = q (isT s T) := id rfl
def atT (xs : List D) (i : Int) (q : D → Prop) (_ : Tag q := ⟨⟩) : Prop := atD xs i q
theorem atT_0 {q : D → Prop} : atT (d :: xs) 0 q = q d := id atD_0
theorem atT_1 {q : D → Prop} : atT (d :: xs) 1 q = atT xs 0 q := id atD_1
theorem atT_2 {q : D → Prop} : atT (d :: xs) 2 q = atT xs 1 q := id atD_2
theorem atT_3 {q : D → Prop} : atT (d :: xs) 3 q = atT xs 2 q := id atD_3
theorem atT_last {q : D → Prop} : atT (xs ++ [d]) (-1) q = q d := id atD_last
theorem atT_of {q : D → Prop} (e : atI xs i = some d) : atT xs i q = q d := atD_of e
theorem atT_all {q : D → Prop} (h0 : 0 ≤ i) (h1 : i < xs.length) (w : ∀ d ∈ xs, q d) : atT xs i q := atD_all h0 h1 w
def ifT (d : D) (A B : Prop) (_ : Tag A := ⟨⟩) (_ : Tag B := ⟨⟩) : Prop := ifB d A B
theorem ifT_q : ifT (.bl a) A B = ifC a A B := by cases a <;> simp [ifT, ifB, ifC]
def lcT (gg : G3) (tt : B3) (te : E3) (st : Sto → Prop) (ρ : S3) (xs acc : List D) (h : Sto) (Q : List D → Sto → Prop) (_ : Tag Q := ⟨⟩) : Prop := lcI gg tt te st ρ xs acc h Q
def callS (sp : Sp3) (ds : List D) (h : Sto) (Q : DK) (_ : Tag Q := ⟨⟩) : Prop := sp ds h Q (fun _ _ => False)
/-! ### rows -/
theorem tV_q : tV k ρ h Q = onO ρ[k]? fun d => Q d h := id rfl
theorem tK_q : tK d ρ h Q = Q d h := id rfl
theorem tO_q {r : R3} {ta tb : E3} : tO r ta tb ρ h Q = ta ρ h fun x h1 => tb ρ h1 fun y h2 => r x y h2 Q := id rfl
theorem tU_q {r : U3} {ta : E3} : tU r ta ρ h Q = ta ρ h fun x h1 => r x h1 Q := id rfl
theorem tT_q {t : E3} {Q : Bool → Sto → Prop} : tT t ρ h Q = t ρ h fun d h1 => onB d fun b => Q b h1 := id rfl
theorem tAnd3_q {t u : B3} {Q : Bool → Sto → Prop} : tAnd3 t u ρ h Q = t ρ h fun c h1 => ifC c (u ρ h1 Q) (Q false h1) := id rfl
theorem tOr3_q {t u : B3} {Q : Bool → Sto → Prop} : tOr3 t u ρ h Q = t ρ h fun c h1 => ifC c (Q true h1) (u ρ h1 Q) := id rfl
theorem tNot3_q {t : B3} {Q : Bool → Sto → Prop} : tNot3 t ρ h Q = t ρ h fun c h1 => Q (!c) h1 := id rfl
theorem tNotE_q {t : E3} : tNotE t ρ h Q = t ρ h fun d h1 => onB d fun b => Q (.bl (!b)) h1 := id rfl
theorem tIfE_q {t : B3} {ta tb : E3} : tIfE t ta tb ρ h Q = t ρ h fun c h1 => ifC c (ta ρ h1 Q) (tb ρ h1 Q) := id rfl
theorem tAndE_q {ta tb : E3} : tAndE ta tb ρ h Q = ta ρ h fun x h1 => ifT x (tb ρ h1 Q) (Q (.bl false) h1) := id rfl
theorem tOrE_q {ta tb : E3} : tOrE ta tb ρ h Q = ta ρ h fun x h1 => ifT x (Q (.bl true) h1) (tb ρ h1 Q) := id rfl
theorem tCh_q {r r' : R3} {ta tb tc : E3} : tCh r r' ta tb tc ρ h Q = ta ρ h fun x h1 => tb ρ h1 fun y h2 => r x y h2 fun z h3 => ifT z (tc ρ h3 fun w h4 => r' y w h4 Q) (Q (.bl false) h3) := id rfl
theorem tN3_q {Q : List D → Sto → Prop} : tN3 ρ h Q = Q [] h := id rfl
theorem tC3_q {ta : E3} {tr : A3} {Q : List D → Sto → Prop} : tC3 ta tr ρ h Q = ta ρ h fun x h1 => tr ρ h1 fun xs h2 => Q (x :: xs) h2 := id rfl
theorem tTup3_q {t : A3} : tTup3 t ρ h Q = t ρ h fun xs h1 => Q (.tup xs) h1 := id rfl
theorem tNew_q {t : A3} : tNew t ρ h Q = t ρ h fun xs h1 => Q (.ref h1.length) (h1 ++ [.lst xs]) := id rfl
theorem cNext_q : cNext E ρ h = E.nx ρ h := id rfl
theorem cSeq_q {t u : C3} : cSeq t u E ρ h = t (thenE u E) ρ h := id rfl
theorem cBreak_q : cBreak E ρ h = E.bk ρ h := id rfl
theorem cCont_q : cCont E ρ h = E.ct ρ h := id rfl
theorem cDrop_q {t : E3} : cDrop t E ρ h = t ρ h fun _ h1 => E.nx ρ h1 := id rfl
theorem cRet_q {t : E3} : cRet t E ρ h = t ρ h E.rt := id rfl
theorem cRetN_q : cRetN E ρ h = E.rt .non h := id rfl
theorem cIf_q {c : B3} {t u : C3} : cIf c t u E ρ h = c ρ h fun b h1 => ifC b (t E ρ h1) (u E ρ h1) := id rfl
theorem cAsg_q {t : E3} {gg : G3} : cAsg t gg E ρ h = t ρ h fun x h1 => gg x ρ h1 E.nx := id rfl
def parD (i j : Nat) (ρ : S3) (h : Sto) (F : S3 → Sto → Prop) (vs : List D) : Prop := match vs with
  | [v, w] => F ((ρ.set i (some v)).set j (some w)) h
  | _ => False
theorem cPar_q {i j : Nat} {t : A3} : cPar i j t E ρ h = t ρ h fun vs h1 => parD i j ρ h1 E.nx vs := id rfl
theorem parD_q {i j : Nat} {F : S3 → Sto → Prop} : parD i j ρ h F [d, e] = F ((ρ.set i (some d)).set j (some e)) h := id rfl
theorem gN_q {Q : S3 → Sto → Prop} : gN k d ρ h Q = Q (ρ.set k (some d)) h := id rfl
theorem gNil3_q {Q : S3 → Sto → Prop} : gNil3 [] ρ h Q = Q ρ h := id rfl
theorem gCons3_q {gg : G3} {r : Gs3} {Q : S3 → Sto → Prop} : gCons3 gg r (d :: xs) ρ h Q = gg d ρ h fun ρ' h' => r xs ρ' h' Q := id rfl
theorem gTup3_q {gs : Gs3} {Q : S3 → Sto → Prop} : gTup3 k gs (.tup xs) ρ h Q = (xs.length = k ∧ gs xs ρ h Q) := id rfl
theorem gSub3_q {to ti : E3} {Q : S3 → Sto → Prop} : gSub3 to ti d ρ h Q = to ρ h fun o h1 => ti ρ h1 fun i h2 => setR o i d h2 fun h3 => Q ρ h3 := id rfl
def onN (o : Option Nat) (q : Nat → Prop) (_ : Tag q := ⟨⟩) : Prop := match o with
  | some j => q j
  | none => False
theorem onN_q {q : Nat → Prop} : onN (some n) q = q n := id rfl
theorem setR_q {Q : Sto → Prop} : setR (.ref n) (.int i) d h Q = onC h[n]? fun xs => onN (ixN xs.length i) fun j => Q (h.set n (.lst (xs.set j d))) := id rfl
theorem cFor_q {it : I3} {gg : G3} {b : C3} : cFor it gg b E ρ h = it ρ h fun items st h1 => forI gg b st E items ρ h1 := id rfl
theorem iNew_q {t : A3} {Q : List D → (Sto → Prop) → Sto → Prop} : iNew t ρ h Q = t ρ h fun xs h1 => Q xs (fun _ => True) h1 := id rfl
theorem iSeq_q {t : E3} {Q : List D → (Sto → Prop) → Sto → Prop} : iSeq t ρ h Q = t ρ h fun d h1 => iSeqD d h1 Q := id iSeq_eq
theorem iSeqD_tq {Q : List D → (Sto → Prop) → Sto → Prop} : iSeqD (.tup xs) h Q = Q xs (fun _ => True) h := id rfl
theorem iSeqD_fq {Q : List D → (Sto → Prop) → Sto → Prop} : iSeqD (.fl xs) h Q = Q xs (fun _ => True) h := id rfl
theorem iSeqD_rq {Q : List D → (Sto → Prop) → Sto → Prop} : iSeqD (.ref n) h Q = onC h[n]? fun xs => Q xs (fun h' => h'[n]? = some (.lst xs)) h := id rfl
theorem iRng_q {ta : A3} {Q : List D → (Sto → Prop) → Sto → Prop} : iRng ta ρ h Q = ta ρ h fun vs h1 => rngD vs h1 Q := id rfl
theorem rngD_1q {Q : List D → (Sto → Prop) → Sto → Prop} : rngD [.int j] h Q = ((-(2 ^ 62) ≤ j ∧ j < 2 ^ 62) ∧ Q ((List.range j.toNat).map fun (k : Nat) => D.int k) (fun _ => True) h) := id rfl
theorem rngD_2q {Q : List D → (Sto → Prop) → Sto → Prop} : rngD [.int i, .int j] h Q = ((-(2 ^ 62) ≤ i ∧ i < 2 ^ 62 ∧ -(2 ^ 62) ≤ j ∧ j < 2 ^ 62) ∧ Q ((List.range (j - i).toNat).map fun (k : Nat) => D.int (i + k)) (fun _ => True) h) := id rfl
theorem iZip3_q {ta : A3} {Q : List D → (Sto → Prop) → Sto → Prop} : iZip3 ta ρ h Q = ta ρ h fun vs h1 => zipD vs h1 Q := id rfl
theorem zipD_ttq {Q : List D → (Sto → Prop) → Sto → Prop} : zipD [.tup xs, .tup ys] h Q = Q (List.zipWith (fun x y => D.tup [x, y]) xs ys) (fun _ => True) h := id rfl
theorem zipD_rrq {Q : List D → (Sto → Prop) → Sto → Prop} : zipD [.ref n, .ref m] h Q = onC h[n]? fun xs => onC h[m]? fun ys => Q (List.zipWith (fun x y => D.tup [x, y]) xs ys) (fun h' => h'[n]? = some (.lst xs) ∧ h'[m]? = some (.lst ys)) h := by
  rw [zipD_rr]; rfl
def enD (vs : List D) (h : Sto) (Q : List D → (Sto → Prop) → Sto → Prop) : Prop := match vs with
  | [x] => seqOf x h fun xs st => Q (xs.mapIdx fun i x => D.tup [.int i, x]) st h
  | _ => False
theorem iEnum3_q {ta : A3} {Q : List D → (Sto → Prop) → Sto → Prop} : iEnum3 ta ρ h Q = ta ρ h fun vs h1 => enD vs h1 Q := id rfl
theorem enD_q {Q : List D → (Sto → Prop) → Sto → Prop} : enD [.ref n] h Q = onC h[n]? fun xs => Q (xs.mapIdx fun i x => D.tup [.int i, x]) (fun h' => h'[n]? = some (.lst xs)) h := id rfl
theorem tLc3_q {it : I3} {gg : G3} {tt : B3} {te : E3} {vs : List Nat} {Q : List D → Sto → Prop} : tLc3 it gg tt te vs ρ h Q = it ρ h fun items st h1 => items.length ≤ 16777216 ∧ lcT gg tt te st (wipe3 ρ vs) items [] h1 Q := id rfl
theorem bYes_q {Q : Bool → Sto → Prop} : bYes ρ h Q = Q true h := id rfl
theorem tCall3_q {sp : Sp3} {ta : A3} : tCall3 sp ta ρ h Q = ta ρ h fun ds h1 => callS sp ds h1 Q := id rfl
theorem tB3_q {r : N3} {ta : A3} : tB3 r ta ρ h Q = ta ρ h fun xs h1 => r xs h1 Q := id rfl
theorem tL3_q {r : M3} {ta : A3} {Q : List D → Sto → Prop} : tL3 r ta ρ h Q = ta ρ h fun xs h1 => r xs h1 Q := id rfl
theorem tIxX_q {ta : A3} {tb : E3} : tIxX ta tb ρ h Q = ta ρ h fun xs h1 => tb ρ h1 fun y h2 => onI y fun i => atT xs i fun d => Q d h2 := id rfl
theorem tSl3_q {te : E3} {tl th : O3} : tSl3 te tl th ρ h Q = te ρ h fun x h1 => tl ρ h1 fun l h2 => th ρ h2 fun u h3 => slR x l u h3 Q := id rfl
theorem oNo_q {Q : Option Int → Sto → Prop} : oNo ρ h Q = Q none h := id rfl
theorem oSo_q {t : E3} {Q : Option Int → Sto → Prop} : oSo t ρ h Q = t ρ h fun d h1 => onI d fun i => Q (some i) h1 := id rfl
theorem tOX_q {r : D → List D → Sto → DK → Prop} {ta : E3} {tb : A3} : tOX r ta tb ρ h Q = ta ρ h fun x h1 => tb ρ h1 fun ys h2 => r x ys h2 Q := id rfl
theorem inX_q : inX d xs h Q = ((flatD d = true ∧ xs.all flatD = true) ∧ Q (.bl (inD d xs)) h) := id rfl
theorem ninX_q : ninX d xs h Q = ((flatD d = true ∧ xs.all flatD = true) ∧ Q (.bl (!inD d xs)) h) := id rfl
theorem tupX_q : tupX xs h Q = Q (.tup xs) h := id rfl
theorem lenX_q : lenX xs h Q = Q (.int xs.length) h := id rfl
def onIs (o : Option (List Int)) (q : List Int → Prop) (_ : Tag q := ⟨⟩) : Prop := match o with
  | some j => q j
  | none => False
theorem onIs_q {ns : List Int} {q : List Int → Prop} : onIs (some ns) q = q ns := id rfl
def onBs (o : Option (List Bool)) (q : List Bool → Prop) (_ : Tag q := ⟨⟩) : Prop := match o with
  | some j => q j
  | none => False
theorem onBs_q {ns : List Bool} {q : List Bool → Prop} : onBs (some ns) q = q ns := id rfl
theorem sumX_q : sumX xs h Q = onIs (intsOf xs) fun ns => Q (.int ns.sum) h := id rfl
theorem allX_q : allX xs h Q = onBs (blsOf xs) fun bs => Q (.bl (bs.all id)) h := id rfl
theorem anyX_q : anyX xs h Q = onBs (blsOf xs) fun bs => Q (.bl (bs.any id)) h := id rfl
theorem maxX_q : maxX xs h Q = onIs (intsOf xs) fun ns => 0 < ns.length ∧ ∀ m, m ∈ ns → (∀ y, y ∈ ns → y ≤ m) → Q (.int m) h := id rfl
theorem minX_q : minX xs h Q = onIs (intsOf xs) fun ns => 0 < ns.length ∧ ∀ m, m ∈ ns → (∀ y, y ∈ ns → m ≤ y) → Q (.int m) h := id rfl
theorem srtX_q {Q : List D → Sto → Prop} : srtX xs h Q = onIs (intsOf xs) fun ns => ∀ ns' : List Int, ns'.Perm ns → ns'.Pairwise (· ≤ ·) → Q (ns'.map .int) h := id rfl
theorem tSSet_q {t : A3} {Q : List D → Sto → Prop} : tSSet t ρ h Q = t ρ h fun xs h1 => onIs (intsOf xs) fun ns => ns.length < 64 ∧ ∀ ms : List Int, ms.Pairwise (· < ·) → (∀ k, k ∈ ms ↔ k ∈ ns) → Q (ms.map .int) h1 := id rfl
theorem tBits3_q {t : E3} : tBits3 t ρ h Q = t ρ h fun x h1 => onI x fun i => Q (.int (Builtin.Int.intBits i : Nat)) h1 := id rfl
def lmD (r : T3) (ta : A3) (ρ : S3) (h : Sto) (Q : DK) (d : D) : Prop := match d with
  | .ref n => (match h[n]? with
    | some (.lst _) => True
    | _ => False) ∧ ta ρ h fun ds h2 => match h2[n]? with
      | some (.lst xs) => r xs ds h2 fun d ys => Q d (h2.set n (.lst ys))
      | _ => False
  | _ => False
theorem tLM_q {r : T3} {to : E3} {ta : A3} : tLM r to ta ρ h Q = to ρ h fun x h1 => lmD r ta ρ h1 Q x := id rfl
theorem lmD_q {r : T3} {ta : A3} : lmD r ta ρ h Q (.ref n) = onC h[n]? fun _ => ta ρ h fun ds h2 => onC h2[n]? fun xs => r xs ds h2 fun d ys => Q d (h2.set n (.lst ys)) := by
  show (_ ∧ _) = _
  cases e : h[n]? with
  | none => simp [onC, onLst]
  | some c =>
    cases c with
    | lst xs =>
      have : (fun (ds : List D) (h2 : Sto) => match h2[n]? with
        | some (.lst xs) => r xs ds h2 fun d ys => Q d (h2.set n (.lst ys))
        | _ => False) = fun ds h2 => onC h2[n]? fun xs => r xs ds h2 fun d ys => Q d (h2.set n (.lst ys)) := by
        funext ds h2
        unfold onC onLst
        cases h2[n]? with
        | none => rfl
        | some c => cases c <;> rfl
      simp only [true_and, onC_q, this]
    | _ => simp [onC, onLst]
theorem appT_q {Q : D → List D → Prop} : appT xs [d] h Q = (xs.length < 16777216 ∧ Q .non (xs ++ [d])) := id rfl
theorem extT_q {Q : D → List D → Prop} : extT xs [.ref n] h Q = onC h[n]? fun zs => xs.length + zs.length ≤ 16777216 ∧ Q .non (xs ++ zs) := by
  show extT xs [.ref n] h Q = onLst h[n]? _
  cases e : h[n]? with
  | none => simp [extT, onLst, e]
  | some c => cases c <;> simp [extT, onLst, e]
theorem revT_q {Q : D → List D → Prop} : revT xs [] h Q = Q .non xs.reverse := id rfl
def onD (o : Option D) (q : D → Prop) (_ : Tag q := ⟨⟩) : Prop := match o with
  | some j => q j
  | none => False
theorem onD_q {q : D → Prop} : onD (some d) q = q d := id rfl
theorem popT_q {Q : D → List D → Prop} : popT xs [] h Q = onD xs[xs.length - 1]? fun y => Q y xs.dropLast := id rfl
theorem popAtT_q {Q : D → List D → Prop} : popAtT xs [.int i] h Q = ((-(2 ^ 63) ≤ i ∧ i < 2 ^ 63) ∧ onN (seqIndex? i xs.length) fun k => onD xs[k]? fun y => Q y (xs.eraseIdx k)) := id rfl
theorem wipe3_nil : wipe3 ρ [] = ρ := id rfl
theorem wipe3_cons {vs : List Nat} : wipe3 ρ (k :: vs) = (wipe3 ρ vs).set k none := id rfl
theorem start3_q : start3 k xs = xs.map some ++ List.replicate (k - xs.length) none := id rfl
theorem xRg1_q {t : E3} {Q : List D → Sto → Prop} : xRg1 t ρ h Q = t ρ h fun d h1 => onI d fun n => xRg 0 n h1 Q := id rfl
theorem xRg2_q {t u : E3} {Q : List D → Sto → Prop} : xRg2 t u ρ h Q = t ρ h fun d h1 => u ρ h1 fun e h2 => onI d fun i => onI e fun j => xRg i j h2 Q := by
  show (t ρ h fun d h1 => u ρ h1 fun e h2 => _) = _
  congr 1; funext d h1; congr 1; funext e h2
  cases d <;> first | rfl | (cases e <;> rfl)
theorem xRg_q {Q : List D → Sto → Prop} : xRg i j h Q = ((-(2 ^ 62) ≤ i ∧ i < 2 ^ 62 ∧ -(2 ^ 62) ≤ j ∧ j < 2 ^ 62 ∧ (j - i).toNat ≤ 2 ^ 24) ∧ Q ((List.range (j - i).toNat).map fun (k : Nat) => D.int (i + k)) h) := id rfl
end
/-! ### values -/
section
variable {h : Sto} {Q : DK} {i j : Int} {a b : Bool} {x y : Str} {xs ys : List D} {n m : Nat} {d e : D} {ρ : S3}
theorem addR_ii_q : addR (.int i) (.int j) h Q = Q (.int (i + j)) h := id rfl
theorem addR_ss_q : addR (.str x) (.str y) h Q = (x.length + y.length ≤ 16777216 ∧ Q (.str (x ++ y)) h) := id rfl
theorem addR_tt_q : addR (.tup xs) (.tup ys) h Q = (xs ≠ [] ∧ xs.length + ys.length ≤ 16777216 ∧ Q (.tup (xs ++ ys)) h) := id rfl
theorem subR_ii_q : subR (.int i) (.int j) h Q = Q (.int (i - j)) h := id rfl
theorem mulR_ii_q : mulR (.int i) (.int j) h Q = (mulOk i j ∧ Q (.int (i * j)) h) := id rfl
theorem mulR_ri_q : mulR (.ref n) (.int j) h Q = onC h[n]? fun xs => (-(2 ^ 63) ≤ j ∧ j < 2 ^ 63 ∧ xs.length * j.toNat ≤ 16777216) ∧ Q (.ref h.length) (h ++ [.lst (List.replicate j.toNat xs).flatten]) := id rfl
theorem divR_ii_q : divR (.int i) (.int j) h Q = (divOk j ∧ Q (.int (i / j)) h) := id rfl
theorem modR_ii_q : modR (.int i) (.int j) h Q = (0 < j ∧ Q (.int (i % j)) h) := id rfl
theorem powR_ii_q : powR (.int i) (.int j) h Q = ((0 ≤ j ∧ j ≤ 1000000 ∧ i.natAbs < 2 ^ 64) ∧ Q (.int (i ^ j.toNat)) h) := id rfl
theorem ltR_ii_q : ltR (.int i) (.int j) h Q = Q (.bl (decide (i < j))) h := id rfl
theorem leR_ii_q : leR (.int i) (.int j) h Q = Q (.bl (decide (i ≤ j))) h := id rfl
theorem gtR_ii_q : gtR (.int i) (.int j) h Q = Q (.bl (decide (j < i))) h := id rfl
theorem geR_ii_q : geR (.int i) (.int j) h Q = Q (.bl (decide (j ≤ i))) h := id rfl
theorem negR_i_q : negR (.int i) h Q = Q (.int (-i)) h := id rfl
theorem eqR_ii_q : eqR (.int i) (.int j) h Q = Q (.bl (decide (i = j))) h := id rfl
theorem neR_ii_q : neR (.int i) (.int j) h Q = Q (.bl (!decide (i = j))) h := id rfl
theorem eqR_bb_q : eqR (.bl a) (.bl b) h Q = Q (.bl (a == b)) h := id rfl
theorem neR_bb_q : neR (.bl a) (.bl b) h Q = Q (.bl (!(a == b))) h := id rfl
theorem isR_n_q : isR d .non h Q = Q (.bl d.isN) h := id rfl
theorem isnR_n_q : isnR d .non h Q = Q (.bl (!d.isN)) h := id rfl
theorem isR_bb_q : isR (.bl a) (.bl b) h Q = Q (.bl (decide (a = b))) h := id rfl
theorem isnR_bb_q : isnR (.bl a) (.bl b) h Q = Q (.bl (!decide (a = b))) h := id rfl
theorem isN_non_q : D.isN .non = true := id rfl
theorem isN_int_q : D.isN (.int i) = false := id rfl
theorem isN_tup_q : D.isN (.tup xs) = false := id rfl
theorem isN_ref_q : D.isN (.ref n) = false := id rfl
theorem isN_bl_q : D.isN (.bl a) = false := id rfl
theorem isN_str_q : D.isN (.str x) = false := id rfl
theorem itemsOf_t_q : itemsOf (.tup xs) h = some xs := id rfl
theorem itemsOf_f_q : itemsOf (.fl xs) h = some xs := id rfl
theorem listOf_f_q : listOf (.fl xs) h = some xs := id rfl
theorem ixR_ti_q : ixR (.tup xs) (.int i) h Q = atT xs i fun d => Q d h := id rfl
theorem ixR_fi_q : ixR (.fl xs) (.int i) h Q = atT xs i fun d => Q d h := id rfl
theorem ixR_si_q : ixR (.str x) (.int i) h Q = (x.length ≤ 16777216 ∧ (match atI x.cps.toList i with | some c => Q (.str ⟨#[c]⟩) h | none => False)) := id rfl
theorem slR_t_q {lo hi : Option Int} : slR (.tup xs) lo hi h Q = Q (.tup (cutD xs lo hi)) h := id rfl
theorem slR_f_q {lo hi : Option Int} : slR (.fl xs) lo hi h Q = Q (.ref h.length) (h ++ [.lst (cutD xs lo hi)]) := id rfl
theorem slR_s_q {lo hi : Option Int} : slR (.str x) lo hi h Q = (x.length ≤ 16777216 ∧ Q (.str (cutS x lo hi)) h) := id rfl
theorem lenR_s_q : lenR [.str x] h Q = (x.length ≤ 16777216 ∧ Q (.int x.length) h) := id rfl
theorem lenR_t_q : lenR [.tup xs] h Q = Q (.int xs.length) h := id rfl
theorem lenR_f_q : lenR [.fl xs] h Q = Q (.int xs.length) h := id rfl
theorem minR_ii_q : minR [.int i, .int j] h Q = Q (.int (if j < i then j else i)) h := id rfl
theorem maxR_ii_q : maxR [.int i, .int j] h Q = Q (.int (if j > i then j else i)) h := id rfl
theorem absR_i_q : absR [.int i] h Q = Q (.int (if i < 0 then -i else i)) h := id rfl
theorem intR_i_q : intR [.int i] h Q = Q (.int i) h := id rfl
theorem intR_b_q : intR [.bl a] h Q = Q (.int (if a then 1 else 0)) h := id rfl
theorem tyN_non_q : tyN .non h = some "NoneType" := id rfl
theorem tyN_bl_q : tyN (.bl a) h = some "bool" := id rfl
theorem tyN_int_q : tyN (.int i) h = some "int" := id rfl
theorem tyN_str_q : tyN (.str x) h = some "str" := id rfl
theorem tyN_tup_q : tyN (.tup xs) h = some "tuple" := id rfl
theorem tyN_fl_q : tyN (.fl xs) h = some "list" := id rfl
theorem onL_f_q {r : N3} : onL r [.fl xs] h Q = r xs h Q := id rfl
theorem tupR_t_q : tupR [.tup xs] h Q = Q (.tup xs) h := id rfl
theorem tupR_f_q : tupR [.fl xs] h Q = Q (.tup xs) h := id rfl
theorem lstM_t_q {Q : List D → Sto → Prop} : lstM [.tup xs] h Q = Q xs h := id rfl
theorem lstM_f_q {Q : List D → Sto → Prop} : lstM [.fl xs] h Q = Q xs h := id rfl
theorem onLM_f_q {r : M3} {Q : List D → Sto → Prop} : onLM r [.fl xs] h Q = r xs h Q := id rfl
theorem seqOf_f_q {Q : List D → (Sto → Prop) → Prop} : seqOf (.fl xs) h Q = Q xs fun _ => True := id rfl
theorem seqOf_r_q {Q : List D → (Sto → Prop) → Prop} : seqOf (.ref n) h Q = onC h[n]? fun xs => Q xs fun h' => h'[n]? = some (.lst xs) := id rfl
theorem addR_rq : addR (.ref n) (.ref m) h Q = onC h[n]? fun xs => onC h[m]? fun ys => xs.length + ys.length ≤ 16777216 ∧ Q (.ref h.length) (h ++ [.lst (xs ++ ys)]) := id addR_rr
theorem ixR_rq : ixR (.ref n) (.int i) h Q = onC h[n]? fun xs => atT xs i fun d => Q d h := id ixR_ri
theorem slR_rq {lo hi : Option Int} : slR (.ref n) lo hi h Q = onC h[n]? fun xs => Q (.ref h.length) (h ++ [.lst (cutD xs lo hi)]) := id slR_r
theorem lenR_rq : lenR [.ref n] h Q = onC h[n]? fun xs => Q (.int xs.length) h := id lenR_r
theorem onL_rq {r : N3} : onL r [.ref n] h Q = onC h[n]? fun xs => r xs h Q := id onL_r
theorem tupR_rq : tupR [.ref n] h Q = onC h[n]? fun xs => Q (.tup xs) h := id tupR_r
theorem lstM_rq {Q : List D → Sto → Prop} : lstM [.ref n] h Q = onC h[n]? fun xs => Q xs h := id lstM_r
theorem onLM_rq {r : M3} {Q : List D → Sto → Prop} : onLM r [.ref n] h Q = onC h[n]? fun xs => r xs h Q := id onLM_r
theorem onLst'_rq {k : List D → Prop} : onLst' (.ref n) h k = onC h[n]? k := id onLst'_r
theorem eqR_tq : eqR (.tup xs) e h Q = eqT (toP h 9 (.tup xs)) (toP h 9 e) fun b => Q (.bl b) h := id eqR_te
theorem neR_tq : neR (.tup xs) e h Q = eqT (toP h 9 (.tup xs)) (toP h 9 e) fun b => Q (.bl (!b)) h := id neR_te
theorem eqR_rq : eqR (.ref n) e h Q = eqT (toP h 9 (.ref n)) (toP h 9 e) fun b => Q (.bl b) h := id eqR_re
theorem neR_rq : neR (.ref n) e h Q = eqT (toP h 9 (.ref n)) (toP h 9 e) fun b => Q (.bl (!b)) h := id neR_re
theorem eqR_sq : eqR (.str x) e h Q = eqT (toP h 9 (.str x)) (toP h 9 e) fun b => Q (.bl b) h := id eqR_se
theorem neR_sq : neR (.str x) e h Q = eqT (toP h 9 (.str x)) (toP h 9 e) fun b => Q (.bl (!b)) h := id neR_se
theorem eqR_nq : eqR .non e h Q = eqT (toP h 9 .non) (toP h 9 e) fun b => Q (.bl b) h := id eqR_ne
theorem neR_nq : neR .non e h Q = eqT (toP h 9 .non) (toP h 9 e) fun b => Q (.bl (!b)) h := id neR_ne
theorem isi_1 : isiR [d, .ty "int"] h Q = isU (tyN d h) "int" fun b => Q (.bl b) h := id isiR_int
theorem isi_2 : isiR [d, .ty "bool"] h Q = isU (tyN d h) "bool" fun b => Q (.bl b) h := id isiR_bool
theorem isi_3 : isiR [d, .ty "str"] h Q = isU (tyN d h) "str" fun b => Q (.bl b) h := id isiR_str
theorem isi_4 : isiR [d, .ty "tuple"] h Q = isU (tyN d h) "tuple" fun b => Q (.bl b) h := id isiR_tuple
theorem isi_5 : isiR [d, .ty "list"] h Q = isU (tyN d h) "list" fun b => Q (.bl b) h := id isiR_list
theorem isi_6 : isiR [d, .ty "dict"] h Q = isU (tyN d h) "dict" fun b => Q (.bl b) h := id isiR_dict
end
/-! ### loops by invariants, again -/
theorem forQ {g : G3} {b : C3} {st : Sto → Prop} {E : Ends3} (Inv : List D → S3 → Sto → Prop) {xs : List D} {ρ : S3} {h : Sto} (hi : Inv xs ρ h) (hs : ∀ xs ρ h, Inv xs ρ h → st h) (h0 : ∀ ρ h, Inv [] ρ h → E.nx ρ h)
    (h1 : ∀ x r ρ h (F : S3 → Sto → Prop), Inv (x :: r) ρ h → (∀ ρ' h', Inv r ρ' h' → F ρ' h') → g x ρ h fun ρ' h' => b (loopE F E) ρ' h') : forI g b st E xs ρ h := forI_ind Inv hi hs h0 h1
theorem lcQ {g : G3} {tt : B3} {te : E3} {st : Sto → Prop} {ρ : S3} {Q : List D → Sto → Prop} (Inv : List D → List D → Sto → Prop) {xs acc : List D} {h : Sto} (hi : Inv xs acc h) (hs : ∀ xs acc h, Inv xs acc h → st h) (h0 : ∀ acc h, Inv [] acc h → Q acc h)
    (h1 : ∀ x r acc h (F : List D → Sto → Prop), Inv (x :: r) acc h → (∀ acc' h', Inv r acc' h' → F acc' h') → g x ρ h fun ρ2 h2 => tt ρ2 h2 fun b h3 => ifC b (te ρ2 h3 fun y h4 => F (acc ++ [y]) h4) (F acc h3)) : lcT g tt te st ρ xs acc h Q := lcI_ind Inv hi hs h0 h1
theorem whQ {c : B3} {b : C3} {E : Ends3} (Inv : Nat → S3 → Sto → Prop) {n : Nat} {ρ : S3} {h : Sto} (hi : Inv n ρ h)
    (h1 : ∀ n ρ h (F : S3 → Sto → Prop), Inv n ρ h → (∀ k ρ' h', k < n → Inv k ρ' h' → F ρ' h') → c ρ h fun k h1 => ifC k (b (loopE F E) ρ h1) (E.nx ρ h1))
    (mc : MonoB c) (mb : MonoC b) : cWhile c b E ρ h := wh_ind Inv hi h1 mc mb
/-- a comprehension without a test, each item one value, the store as it is -/
theorem lcMap {α : Type} {g : G3} {te : E3} {st : Sto → Prop} {ρ : S3} {Q : List D → Sto → Prop} {f : α → D} {r : α → D} {h : Sto} {xs : List α} (hs : st h) (q : Q (xs.map r) h) (h1 : ∀ x ∈ xs, ∀ Q : DK, Q (r x) h → g (f x) ρ h fun ρ2 h2 => te ρ2 h2 Q) : lcT g bYes te st ρ (xs.map f) [] h Q := by
  refine lcQ (fun ys acc h' => ∃ l s : List α, xs = l ++ s ∧ ys = s.map f ∧ acc = l.map r ∧ h' = h) ⟨[], xs, rfl, rfl, rfl, rfl⟩ ?_ ?_ ?_
  · rintro ys acc h' ⟨l, s, _, _, _, rfl⟩
    exact hs
  · rintro acc h' ⟨l, s, e, e2, rfl, rfl⟩
    have : s = [] := by simpa using e2.symm
    subst this
    rw [List.append_nil] at e
    subst e
    exact q
  · rintro y ys acc h' F ⟨l, s, e, e2, rfl, rfl⟩ hF
    cases s with
    | nil => cases e2
    | cons x s =>
      rw [List.map_cons, List.cons.injEq] at e2
      obtain ⟨rfl, rfl⟩ := e2
      have := h1 x (by rw [e]; simp) (fun y h4 => F (l.map r ++ [y]) h4) (hF _ _ ⟨l ++ [x], s, by simp [e], rfl, by simp, rfl⟩)
      simpa only [bYes_q, ifC_true] using this
/-! ### calls -/
theorem call_D {α : Type} {args : α → List D} {pre : α → Sto → Prop} {val : α → Sto → D} {sto : α → Sto → Sto} {h : Sto} {Q : DK} (x : α) {ds : List D} (e : ds = args x) (hp : pre x h) (q : Q (val x h) (sto x h)) : callS (spD args pre val sto) ds h Q := ⟨x, e, hp, q⟩
theorem call_R {α : Type} {args : α → List D} {pre : α → Sto → Prop} {res : α → Sto → D → Sto → Prop} {h : Sto} {Q : DK} (x : α) {ds : List D} (e : ds = args x) (hp : pre x h) (q : ∀ d h', res x h d h' → Q d h') : callS (spR args pre res) ds h Q := ⟨x, e, hp, q⟩
theorem call_W {α : Type} {args : α → List D} {pre : α → Sto → Prop} {res : α → Sto → D → Sto → Prop} {h g : Sto} {a : Nat} {c s : Int} {ds : List D} {Q : DK} (x : α) (ha : a < h.length) (hd : DrawOk c s) (e : ds = .ref a :: args x) (hp : pre x (W h a c s g))
    (q : ∀ c' s' k d, DrawOk c' s' → res x (W h a c s g) d k → Q d (W h a c' s' (g ++ k))) : callS (spW args pre res) ds (W h a c s g) Q := spW_at x ha hd e hp q
theorem take_q {n : Int} {h g : Sto} {a : Nat} {c s : Int} {Q : DK} (ha : a < h.length) (hd : DrawOk c s) (h0 : 0 < n) (h1 : n < 2 ^ 2000)
    (q : ∀ c s r : Int, DrawOk c s → 0 ≤ r → r < n → Q (.int r) (W h a c s g)) : callS sp_take [.ref a, .int n] (W h a c s g) Q := take_W ha hd h0 h1 q
end F3
set_option maxHeartbeats 400000
/-! FR: the laws' outer loop, the purse. -/
namespace F3
open PySem PySem.Spec PyProof.Rows L2
theorem purse_q {ns : List Int} {j : Int} {h : Sto} {Q : DK} (h0 : 0 ≤ j) (h1 : j < 1000) (q : ∀ (c s : Int) (H : Sto), DrawOk c s → h.length < H.length → (∀ (n : Nat) (x : Cell), h[n]? = some x → H[n]? = some x) → Q (.ref h.length) (W H h.length c s [])) : callS sp_purse [.fl (ns.map .int), .int j] h Q :=
  ⟨(ns, j), rfl, ⟨h0, h1⟩, by
    rintro _ _ ⟨c, s, hd, rfl, rfl⟩
    have e : (h ++ [draw c s])[h.length]? = some (draw c s) := by simp
    have := q c s (h ++ [draw c s]) hd (by simp) fun n x e => by rw [List.getElem?_append_left (lt_of_get e)]; exact e
    rw [← W_mk e] at this
    exact this⟩
theorem law_for {b : C3} {E : Ends3} {xs : List D} {ρ : S3} {h : Sto} (Inv : S3 → Prop) (hi : Inv ρ) (hx : ∀ x ∈ xs, ∃ j : Int, x = .int j ∧ 0 ≤ j ∧ j < 1000) (h0 : ∀ ρ h, Inv ρ → E.nx ρ h)
    (h1 : ∀ (j : Int) (ρ : S3) (h : Sto) (F : S3 → Sto → Prop), 0 ≤ j → j < 1000 → Inv ρ → (∀ ρ' h', Inv ρ' → F ρ' h') → b (loopE F E) (ρ.set 1 (some (.int j))) h) : forI (gN 1) b (fun _ => True) E xs ρ h := by
  refine forQ (fun ys ρ _ => Inv ρ ∧ ∀ x ∈ ys, ∃ j : Int, x = .int j ∧ 0 ≤ j ∧ j < 1000) ⟨hi, hx⟩ (fun _ _ _ _ => trivial) (fun ρ h i => h0 ρ h i.1) ?_
  rintro x r ρ h F ⟨i, hx⟩ hF
  obtain ⟨j, rfl, j0, j1⟩ := hx x List.mem_cons_self
  rw [gN_q]
  exact h1 j ρ h F j0 j1 i fun ρ' h' i' => hF ρ' h' ⟨i', fun y hy => hx y (List.mem_cons_of_mem _ hy)⟩
theorem whole_q {d : D} {h : Sto} {Q : DK} (hk : Kn h d) (q : Q (.bl (isW d)) h) : callS sp_whole [d] h Q := ⟨d, rfl, hk, q⟩
/-- all([whole(n) for n in ns]) -/
theorem bls_true {α : Type} : ∀ ns : List α, blsOf (ns.map fun _ => D.bl true) = some (ns.map fun _ => true)
  | [] => rfl
  | _ :: r => by
    have := bls_true r
    simp only [List.map_cons, blsOf, this, Option.map_some]
theorem all_true {α : Type} (ns : List α) : (ns.map fun _ => true).all id = true := by simp
theorem get_up {h g : Sto} {n : Nat} {c : Cell} (e : h[n]? = some c) : (h ++ g)[n]? = some c := by rw [List.getElem?_append_left (lt_of_get e)]; exact e
theorem get_new {h : Sto} {c : Cell} : (h ++ [c])[h.length]? = some c := by simp
theorem get_new2 {h : Sto} {c c' : Cell} : ((h ++ [c]) ++ [c'])[h.length]? = some c := by simp
theorem set_new {h g : Sto} {c c' : Cell} : (h ++ [c] ++ g).set h.length c' = h ++ [c'] ++ g := by rw [List.append_assoc, List.append_assoc]; exact set_app0
/-- a for over a list of known things, by what is done -/
theorem forL {α : Type} {f : α → D} {g : G3} {b : C3} {st : Sto → Prop} {E : Ends3} {xs : List α} {ρ : S3} {h : Sto} (Inv : List α → S3 → Sto → Prop) (hi : Inv [] ρ h) (hs : ∀ l ρ h, Inv l ρ h → st h) (h0 : ∀ ρ h, Inv xs ρ h → E.nx ρ h)
    (h1 : ∀ l x r ρ h (F : S3 → Sto → Prop), xs = l ++ x :: r → Inv l ρ h → (∀ ρ' h', Inv (l ++ [x]) ρ' h' → F ρ' h') → g (f x) ρ h fun ρ' h' => b (loopE F E) ρ' h') : forI g b st E (xs.map f) ρ h := by
  refine forQ (fun ys ρ h => ∃ l r, xs = l ++ r ∧ ys = r.map f ∧ Inv l ρ h) ⟨[], xs, rfl, rfl, hi⟩ (fun _ ρ h ⟨l, _, _, _, i⟩ => hs l ρ h i) ?_ ?_
  · rintro ρ h ⟨l, r, e, e2, i⟩
    have : r = [] := by simpa using e2.symm
    subst this
    rw [List.append_nil] at e
    subst e
    exact h0 ρ h i
  · rintro y ys ρ h F ⟨l, r, e, e2, i⟩ hF
    cases r with
    | nil => cases e2
    | cons x r =>
      rw [List.map_cons, List.cons.injEq] at e2
      obtain ⟨rfl, rfl⟩ := e2
      exact h1 l x r ρ h F e i fun ρ' h' i' => hF ρ' h' ⟨l ++ [x], r, by simp [e], rfl, i'⟩
theorem lcL {α : Type} {f : α → D} {g : G3} {tt : B3} {te : E3} {st : Sto → Prop} {ρ : S3} {Q : List D → Sto → Prop} {xs : List α} {h : Sto} (Inv : List α → List D → Sto → Prop) (hi : Inv [] [] h) (hs : ∀ l acc h, Inv l acc h → st h) (h0 : ∀ acc h, Inv xs acc h → Q acc h)
    (h1 : ∀ l x r acc h (F : List D → Sto → Prop), xs = l ++ x :: r → Inv l acc h → (∀ acc' h', Inv (l ++ [x]) acc' h' → F acc' h') → g (f x) ρ h fun ρ2 h2 => tt ρ2 h2 fun b h3 => ifC b (te ρ2 h3 fun y h4 => F (acc ++ [y]) h4) (F acc h3)) : lcT g tt te st ρ (xs.map f) [] h Q := by
  refine lcQ (fun ys acc h => ∃ l r, xs = l ++ r ∧ ys = r.map f ∧ Inv l acc h) ⟨[], xs, rfl, rfl, hi⟩ (fun _ acc h ⟨l, _, _, _, i⟩ => hs l acc h i) ?_ ?_
  · rintro acc h ⟨l, r, e, e2, i⟩
    have : r = [] := by simpa using e2.symm
    subst this
    rw [List.append_nil] at e
    subst e
    exact h0 acc h i
  · rintro y ys acc h F ⟨l, r, e, e2, i⟩ hF
    cases r with
    | nil => cases e2
    | cons x r =>
      rw [List.map_cons, List.cons.injEq] at e2
      obtain ⟨rfl, rfl⟩ := e2
      exact h1 l x r acc h F e i fun acc' h' i' => hF acc' h' ⟨l ++ [x], r, by simp [e], rfl, i'⟩
theorem W_keep {h g : Sto} {a n : Nat} {c s : Int} {x : Cell} (e : h[n]? = some x) (hne : n ≠ a) : (W h a c s g)[n]? = some x := by
  unfold W
  rw [List.getElem?_append_left (by simpa using lt_of_get e), List.getElem?_set_ne (fun z => hne z.symm)]
  exact e
theorem ne_draw {h : Sto} {a n : Nat} {c s : Int} {w : List Pc} (e : h[n]? = some (.lst (w.map pcD))) (ed : h[a]? = some (draw c s)) : n ≠ a := by
  rintro rfl
  rw [ed] at e
  simp only [draw, Option.some.injEq, Cell.lst.injEq] at e
  cases w with
  | nil => simp at e
  | cons p r =>
    simp only [List.map_cons, List.cons.injEq] at e
    have := e.1
    unfold pcD at this
    cases this
theorem W_isdraw {h : Sto} {a : Nat} {c s : Int} (e : h = W h a c s []) (ha : a < h.length) : h[a]? = some (draw c s) := by
  rw [e]; exact W_getA ha
theorem atT_lastI {ns : List Int} {x : Int} {k : D → Prop} (e : ns.getLast? = some x) : atT (ns.map .int) (-1) k = k (.int x) := by
  rcases snoc_cases ns with rfl | ⟨u, q, rfl⟩
  · cases e
  · have : q = x := by simpa using e
    subst this
    rw [List.map_append, List.map_singleton, atT_last]
/-- as spW, where what is wanted may tell of the purse's number -/
def spV {α : Type} (args : α → List D) (pre : Nat → α → Sto → Prop) (res : α → Sto → D → Sto → Prop) : Sp3 :=
  spR (fun (a : Nat × Int × Int × α) => .ref a.1 :: args a.2.2.2) (fun a h => h[a.1]? = some (draw a.2.1 a.2.2.1) ∧ DrawOk a.2.1 a.2.2.1 ∧ pre a.1 a.2.2.2 h) (fun a h d h' => ∃ c s g, DrawOk c s ∧ res a.2.2.2 h d g ∧ h' = W h a.1 c s g)
theorem mono_spV {α : Type} {args : α → List D} {pre : Nat → α → Sto → Prop} {res : α → Sto → D → Sto → Prop} : MonoS (spV args pre res) := mono_spR
theorem len_spV {α : Type} {args : α → List D} {pre : Nat → α → Sto → Prop} {res : α → Sto → D → Sto → Prop} {n : Nat} (hl : ∀ a, (args a).length + 1 = n) : ∀ ds h Q E, spV args pre res ds h Q E → ds.length = n := len_spR fun a => by
  rw [List.length_cons]; exact hl _
theorem spV_in {α : Type} {args : α → List D} {pre : Nat → α → Sto → Prop} {res : α → Sto → D → Sto → Prop} {ds : List D} {h : Sto} {Q : DK} {E : X3} (w : spV args pre res ds h Q E) :
    ∃ a c s x, ds = .ref a :: args x ∧ a < h.length ∧ DrawOk c s ∧ pre a x h ∧ h = W h a c s [] ∧ ∀ c s g d, DrawOk c s → res x h d g → Q d (W h a c s g) := by
  obtain ⟨⟨a, c, s, x⟩, rfl, ⟨h1, h2, h3⟩, q⟩ := w
  exact ⟨a, c, s, x, rfl, lt_of_get h1, h2, h3, W_mk h1, fun c s g d hd hr => q _ _ ⟨c, s, g, hd, hr, rfl⟩⟩
theorem call_V {α : Type} {args : α → List D} {pre : Nat → α → Sto → Prop} {res : α → Sto → D → Sto → Prop} {h g : Sto} {a : Nat} {c s : Int} {ds : List D} {Q : DK} (x : α) (ha : a < h.length) (hd : DrawOk c s) (e : ds = .ref a :: args x) (hp : pre a x (W h a c s g))
    (q : ∀ c' s' k d, DrawOk c' s' → res x (W h a c s g) d k → Q d (W h a c' s' (g ++ k))) : callS (spV args pre res) ds (W h a c s g) Q := by
  refine ⟨(a, c, s, x), e, ⟨W_getA ha, hd, hp⟩, ?_⟩
  rintro d h' ⟨c', s', k, hd', hr, rfl⟩
  have : W (W h a c s g) a c' s' k = W h a c' s' (g ++ k) := by
    show (W h a c s g).set a (draw c' s') ++ k = _
    rw [W_setA ha, W_app]
  show Q d (W (W h a c s g) a c' s' k)
  rw [this]
  exact q c' s' k d hd' hr
/-! ### classes and data of cells -/
def tyC (o : Option Cell) : Option String := match o with
  | some (.lst _) => some "list"
  | some (.dK _) => some "dict"
  | some (.dT _) => some "dict"
  | _ => none
theorem tyC_lst {xs : List D} : tyC (some (.lst xs)) = some "list" := id rfl
theorem tyN_ref {h : Sto} {n : Nat} {xs : List D} (e : h[n]? = some (.lst xs)) : tyN (.ref n) h = some "list" := tyN_r e
theorem toP_ref {h : Sto} {n k : Nat} {xs : List D} (e : h[n]? = some (.lst xs)) : toP h (k + 1) (.ref n) = (xs.mapM (toP h k)).map .list := by simp only [toP, e]
theorem toP_pcs8 {h : Sto} {w : List Pc} : (w.map pcD).mapM (toP h 8) = some (w.map pcP) := toP_pcsX (k := 5)
theorem toP_int8 {h : Sto} {ns : List Int} : (ns.map D.int).mapM (toP h 8) = some (ns.map .int) := toP_ints (k := 7) ns
end F3
set_option maxHeartbeats 400000
/-! FS: list(reversed(xs)), xs[::-1]. -/
namespace F3
open PySem PySem.Spec PyProof.Rows L2 RT
section
variable {prog : Program} {w : World} {A : Around} {E : Value → Shared → Prop} {s : Shared}
theorem extend_rev {R : Result → Shared → Prop} {it l : Addr} {items : Array Value} (hh : A.handled = none) (hit : s.heap.IsRevIter it l ((items.size : Int) - 1)) (hl : s.heap.IsList l items) (hne : l ≠ it) (hn : items.size ≤ sizeLine) (S : Addr) (hSi : S ≠ it) (hSl : S ≠ l) (res : Value) (c₀ : Nat) (hS : s.heap.get? S = some { cls := .type "list", data := .seq #[] c₀ })
    (hR : ∀ h' tk acc' c', (∀ b o, b ≠ S → b ≠ it → s.heap.get? b = some o → h'.get? b = some o) → h'.get? S = some { cls := .type "list", dict := none, data := .seq acc' c', slots := #[] } →
      ItemsOf (fun i v => items[items.size - 1 - i]? = some v) acc' items.size → R (.ok (.ret res)) { s with heap := h', toks := tk }) :
    wpAny (model prog w) A.in1 (Builtin.List.listExtendWith (.ref S) (.ref it) res)
      (fun fin s' => match fin with | .done f => R (.ok f) s' | .again c' => c'.quiet = true ∧ codeAny (model prog w) A c' R s') (fun e s' => R (.error e) s') s := by
  have W := (Walks.listRev (prog := prog) (w := w) (A := A.in1) hh it l hne items).toS
  have hSf : S ∉ [it, l] := by simp only [List.mem_cons, List.not_mem_nil, or_false, not_or]; exact ⟨hSi, hSl⟩
  have hT : s.TypeIs (.ref it) "list_reverseiterator" := hit.typeIs
  have h1 : Builtin.List.listSameRef (.ref S) (.ref it) = false := by simp [Builtin.List.listSameRef, hSi]
  unfold Builtin.List.listExtendWith
  refine wpAny_bind (wpAny_typeOf hT ?_)
  rw [if_neg (by rw [h1]; decide)]
  refine wpAny_bind (wpAny_pyIter_revIter hit ?_)
  refine wpAny_bind (wpAny_holding ?_)
  unfold Builtin.List.listLengthHint
  refine wpAny_bind (wpAny_specialOf hT nolen_lri ?_)
  show wpAny _ A.in1 (specialOf (Value.ref it) (Str.ofString "__length_hint__") >>= _) _ _ _
  refine wpAny_bind (wpAny_specialOf hT hint_lri ?_)
  generalize hid : ("list_reverseiterator.__length_hint__" : String) = id0
  wp_delta
  rw [show splitId id0 = some ("list_reverseiterator", "__length_hint__") from by subst hid; decide +kernel]
  subst hid
  refine wpAny_bind (wpAny_isInstance (b := true) hT (by rw [isSubtype_type]; kernel_rfl) ?_)
  refine wpAny_pure ?_
  rw [if_neg (by decide)]
  have e0 : ((items.size : Nat) : Int) - 1 - ((0 : Nat) : Int) = (items.size : Int) - 1 := by omega
  refine wpAny_pure ⟨plainId_quiet F.plain_extend_loop _, codeAny_extend_loopS W hn _ hSf _ items.size 0 _ _ _ rfl (Nat.zero_le _) ⟨Nat.zero_le _, by rw [e0]; exact hit, hl⟩ hS (ItemsOf.nil _) fun s' acc' c' hm hS' hacc => ?_⟩
  rw [Moved.eq_with hm]
  refine hR s'.heap s'.toks acc' c' (fun b o hb hb2 e => hm.heap b o (fun hmem => ?_) e) hS' hacc
  rcases List.mem_cons.mp hmem with e' | hmem
  · exact hb e'
  · exact hb2 (List.mem_singleton.mp hmem)
theorem call_list_rev {it l : Addr} {items : Array Value} {Q : Value → Shared → Prop} (hh : A.handled = none) (hit : s.heap.IsRevIter it l ((items.size : Int) - 1)) (hl : s.heap.IsList l items) (hne : l ≠ it) (hn : items.size ≤ sizeLine)
    (hQ : ∀ h' tk acc' c', (∀ b o, b ≠ it → s.heap.get? b = some o → h'.get? b = some o) → h'.get? s.heap.objs.size = some { cls := .type "list", dict := none, data := .seq acc' c', slots := #[] } → ItemsOf (fun i v => items[items.size - 1 - i]? = some v) acc' items.size → Q (.ref s.heap.objs.size) { s with heap := h', toks := tk }) :
    wpAny (model prog w) A (call (.type "list") [.ref it]) Q E s := by
  obtain ⟨oi, hoi, _⟩ := id hit
  obtain ⟨ol, hol, _⟩ := id hl
  have hSi : s.heap.objs.size ≠ it := Nat.ne_of_gt (Heap.lt_size hoi)
  have hSl : s.heap.objs.size ≠ l := Nat.ne_of_gt (Heap.lt_size hol)
  refine callType_codes (Q₁ := fun obj s₁ => obj = .ref s.heap.objs.size ∧ s₁ = { s with heap := s.heap.push { cls := .type "list", data := .seq #[] } }) F.called_list (F.typeCall_list_1 _) F.entry_list_init
    (code_list_new _ ⟨rfl, rfl⟩) fun obj s₁ h₁ => ?_
  obtain ⟨rfl, rfl⟩ := h₁
  have hS : (s.heap.push { cls := .type "list", data := .seq #[] }).get? s.heap.objs.size = some { cls := .type "list", data := .seq #[] } := Heap.get?_push_size _ rfl
  refine ⟨⟨_, hS, rfl⟩, F.args_list_init_2 _ _, ?_⟩
  show wpAny _ _ (do let old ← Builtin.List.listItems (.ref s.heap.objs.size); Builtin.List.listUpdate (.ref s.heap.objs.size) (fun _ => #[]); letGo old.toList.reverse; Builtin.List.listExtendWith (.ref s.heap.objs.size) (.ref it) .none) _ _ _
  refine wpAny_bind ?_
  unfold Builtin.List.listItems
  refine wpAny_bind (wpAny_seqItems hS rfl (wpAny_pure ?_))
  show wpAny _ _ (updateSeq s.heap.objs.size (fun _ => #[]) >>= fun _ => letGo (#[] : Array Value).toList.reverse >>= fun _ => Builtin.List.listExtendWith (.ref s.heap.objs.size) (.ref it) .none) _ _ _
  refine wpAny_bind (wpAny_updateSeq hS rfl ?_)
  have hS₂ := Heap.get?_update_self (Obj.mapSeq (fun _ => (#[] : Array Value))) hS rfl
  have oth : ∀ b o, b ≠ s.heap.objs.size → s.heap.get? b = some o → ((s.heap.push { cls := .type "list", data := .seq #[] }).update s.heap.objs.size (Obj.mapSeq (fun _ => (#[] : Array Value)))).get? b = some o :=
    fun b o hb e => (Heap.get?_update_other _ _ (Ne.symm hb)).trans (Heap.get?_push_of_some _ e)
  refine wpAny_bind (wpAny_letGo ?_)
  refine extend_rev (A := A.in1) hh (hit.at fun o e => oth _ o (Ne.symm hSi) e) ?_ hne hn s.heap.objs.size hSi hSl .none _ hS₂ fun h' tk acc' c' hk hS' hacc => ?_
  · obtain ⟨o, ho, r⟩ := hl
    exact ⟨o, oth _ o (Ne.symm hSl) ho, r⟩
  · exact ⟨rfl, hQ h' tk acc' c' (fun b o hb e => hk b o (Nat.ne_of_lt (Heap.lt_size e)) hb (oth b o (Nat.ne_of_lt (Heap.lt_size e)) e)) hS' hacc⟩
end
section
variable {X : Cx}
def tLstRev (K : PySem.W.Frag) (te : TE) : TE := fun σ H Q => te σ H fun x H1 => ∃ a xs, x = .ref a ∧ SqL K H1 a xs ∧ ∀ p, H1 p = none → Q (.ref p) (upd H1 p (.lst xs.reverse))
theorem pe_listRev {e : Expr} {te : TE} {p p2 pos pos2 : Pos} (hc : X.calm = true) (hg : Gl X "list") (hm : X.mg "list" = none) (hg2 : Gl X "reversed") (hm2 : X.mg "reversed" = none) (he : PE X e te)
    (hs : starEach [e] X.env = (false, eval e X.env) :: starEach [] X.env := by rfl)
    (hs2 : starEach [.Call (.Name "reversed" p2) [e] [] pos2] X.env = (false, eval (.Call (.Name "reversed" p2) [e] [] pos2) X.env) :: starEach [] X.env := by rfl) :
    PE X (.Call (.Name "list" p) [.Call (.Name "reversed" p2) [e] [] pos2] [] pos) (tLstRev X.K te) := by
  refine ⟨fun pins s σ H Q I h => ?_⟩
  refine Call_ (ld_blt I hg hm boot_list (PyProof.Rows.callWith_type1 (args_cons (Call_ (ld_blt I hg2 hm2 PyProof.Rows.boot_reversed (PyProof.Rows.callWith_type1 (args_cons (thn (he.run pins s σ H _ I h) fun u s1 ⟨v, H1, I1, r1, q1⟩ => args_nil ?_) hs) hs rfl))) hs2) hs2 rfl))
  obtain ⟨a, xs, ev, hq, q⟩ := q1
  subst ev
  obtain rfl : u = Value.ref a := r1
  obtain ⟨its, rv, p', hz⟩ := I1.list hq
  refine call_reversed_list p'.isList (args_nil ?_)
  have k0 : ∀ b o, s1.heap.get? b = some o → (s1.heap.push (revObj a ((its.toArray.size : Int) - 1))).get? b = some o := fun b o e => Heap.get?_push_of_some _ e
  have hl := p'.isList
  obtain ⟨ol, hol, _⟩ := id hl
  have hne : a ≠ s1.heap.objs.size := Nat.ne_of_lt (Heap.lt_size hol)
  have hn : its.toArray.size ≤ sizeLine := by rw [List.size_toArray, ← rv.length]; exact hz
  refine call_list_rev (s := { s1 with heap := s1.heap.push (revObj a ((its.toArray.size : Int) - 1)) }) (I1.ok.hd hc) ⟨_, Heap.get?_push_size _ rfl, rfl, rfl⟩ (hl.push _) hne hn fun h' tk acc c' hk hS hi => ?_
  have sz : (s1.heap.push (revObj a ((its.toArray.size : Int) - 1))).objs.size = s1.heap.objs.size + 1 := Heap.size_push ..
  have hS' : h'.get? (s1.heap.objs.size + 1) = some { cls := .type "list", dict := none, data := .seq acc c', slots := #[] } := by rw [← sz]; exact hS
  have hk' : ∀ b o, s1.heap.get? b = some o → h'.get? b = some o := fun b o e => hk b o (Nat.ne_of_lt (Heap.lt_size e)) (Heap.get?_push_of_some _ e)
  have e2 : (Value.ref (s1.heap.push (revObj a ((its.toArray.size : Int) - 1))).objs.size) = Value.ref (s1.heap.objs.size + 1) := by rw [sz]
  show EP X pins σ Q (Value.ref (s1.heap.push (revObj a ((its.toArray.size : Int) - 1))).objs.size) _
  rw [e2]
  refine ⟨.ref (s1.heap.objs.size + 1), upd H1 (s1.heap.objs.size + 1) (.lst xs.reverse), I1.laid (t' := tk) hk' (Nat.le_succ _) (show ObjOk X.prog X.w _ _ _ (.lst xs.reverse) from ⟨by rw [List.length_reverse]; exact hz, acc.toList, c', vals_rev rv hi, ?_⟩), rfl, q _ (I1.hok.fresh (Nat.le_succ _))⟩
  rw [Array.toArray_toList]
  exact hS'
/-- a list the other way about, new -/
def xRev (t : E3) : A3 := fun ρ h Q => t ρ h fun d h1 => onLst' d h1 fun xs => Q xs.reverse h1
theorem MonoA.rev {t : E3} (mt : MonoE t) : MonoA (xRev t) := fun ρ h Q Q' w q => mt _ _ _ _ (fun d h1 q1 => onLst'_mono (fun xs => w _ _) q1) q
theorem rev_core {K : PySem.W.Frag} {t : E3} (mt : MonoE t) {σ : L2.St} {H : Hp} {Q : VK} (q : LX K (xRev t) σ H Q) : LE K t σ H fun x H1 => ∃ a xs, x = .ref a ∧ SqL K H1 a xs ∧ ∀ p, H1 p = none → Q (.ref p) (upd H1 p (.lst xs.reverse)) := by
  obtain ⟨m, h, ρ, R, S, q⟩ := q
  refine LE.bind mt R S q fun m1 H1 v d h1 s1 R1 rd S1 q1 => ?_
  obtain ⟨xs, e, q2⟩ := onLst'_some q1
  obtain ⟨a, vs, rfl, sq, rs⟩ := listOf_lift R1 rd e
  exact ⟨a, vs, rfl, sq, UpX.laid R1 rs.reverse (UpX.step s1 R1 q2)⟩
theorem x3_lrev {e : Expr} {t : E3} {p pos p2 pos2 : Pos} (hc : X.calm = true) (hm : X.mg "list" = none) (hm2 : X.mg "reversed" = none) (ha : PE3 X e t) (hg : Gl X "list" := by rfl) (hg2 : Gl X "reversed" := by rfl)
    (hs : starEach [e] X.env = (false, eval e X.env) :: starEach [] X.env := by rfl)
    (hs2 : starEach [.Call (.Name "reversed" p2) [e] [] pos2] X.env = (false, eval (.Call (.Name "reversed" p2) [e] [] pos2) X.env) :: starEach [] X.env := by rfl) :
    PX3 X (.Call (.Name "list" p) [.Call (.Name "reversed" p2) [e] [] pos2] [] pos) (xRev t) :=
  ⟨PE.weak (pe_listRev hc hg hm hg2 hm2 ha.pe hs hs2) fun σ H Q q => rev_core ha.mono q, MonoA.rev ha.mono⟩
theorem x3_rev1 {e : Expr} {t : E3} {k : Nat} {p1 p2 p3 pos : Pos} (ha : PE3 X e t) : PX3 X (.Subscript e (.Slice none none (some (.UnaryOp .USub (.Constant (.int 1) k p1) p2)) p3) pos) (xRev t) :=
  ⟨PE.weak (pe_revL ha.pe) fun σ H Q q => rev_core ha.mono q, MonoA.rev ha.mono⟩
end
section
variable {h : Sto} {n : Nat} {ρ : S3} {Q : List D → Sto → Prop} {t : E3} {xs : List D} {d : D}
def onL' (d : D) (h : Sto) (q : List D → Prop) (_ : Tag q := ⟨⟩) : Prop := onLst' d h q
theorem xRev_q : xRev t ρ h Q = t ρ h fun d h1 => onL' d h1 fun xs => Q xs.reverse h1 := id rfl
theorem onL'_r {q : List D → Prop} : onL' (.ref n) h q = onC h[n]? q := id onLst'_r
theorem onL'_f {q : List D → Prop} : onL' (.fl xs) h q = q xs := id onLst'_f
end
end F3
set_option maxHeartbeats 400000
/-! FT: a, b, .. = a list. -/
namespace F3
open PySem PySem.Spec PyProof.Rows L2
section
variable {X : Cx}
def gLst3 (n : Nat) (g : Gs3) : G3 := fun d ρ h Q => onLst' d h fun xs => xs.length = n ∧ g xs ρ h Q
theorem g3_lst {es : List Expr} {k : Nat} {g : Gs3} {n : Nat} {pos : Pos} (hc : X.calm = true) (h : PGs3 X es g)
    (hn : (assignEach es X.env).length = n := by rfl) (hst : (assignEach es X.env).findIdx? (·.1) = none := by rfl) : PG3 X (.Tuple es k pos) (gLst3 n g) := by
  refine ⟨PG.weak (pg_unl hc h.pe hn hst) fun v σ H Q ⟨m, st, ρ, d, R, S, rd, q⟩ => ?_, fun d ρ st Q Q' w q => onLst'_mono (fun xs q => ⟨q.1, h.mono _ _ _ _ _ w q.2⟩) q⟩
  obtain ⟨xs, e, hl, q⟩ := onLst'_some q
  obtain ⟨a, vs, rfl, sq, rs⟩ := listOf_lift R rd e
  exact ⟨a, vs, rfl, sq, by rw [← rs.length]; exact hl, m, st, ρ, xs, R, S, rs, q⟩
end
/-- a while, by a number that falls -/
theorem whL {c : B3} {b : C3} {E : Ends3} (Inv : Nat → S3 → Sto → Prop) {n : Nat} {ρ : S3} {h : Sto} (hi : Inv n ρ h)
    (h1 : ∀ n ρ h (F : S3 → Sto → Prop), Inv n ρ h → (∀ k ρ' h', k < n → Inv k ρ' h' → F ρ' h') → c ρ h fun k h1 => ifC k (b (loopE F E) ρ h1) (E.nx ρ h1)) : cWhile c b E ρ h := by
  have key : ∀ m n ρ h, n ≤ m → Inv n ρ h → whN c b E (m + 1) ρ h := by
    intro m
    induction m with
    | zero =>
      intro n ρ h hn i
      exact h1 n ρ h (whN c b E 0) i fun k ρ' h' hk i' => absurd hk (by omega)
    | succ m ih =>
      intro n ρ h hn i
      exact h1 n ρ h (whN c b E (m + 1)) i fun k ρ' h' hk i' => ih k ρ' h' (by omega) i'
  exact ⟨n + 1, key n n ρ h (Nat.le_refl _) hi⟩
theorem gLst3_q {n k : Nat} {g : Gs3} {ρ : S3} {h : Sto} {Q : S3 → Sto → Prop} : gLst3 n g (.ref k) ρ h Q = onC h[k]? fun xs => xs.length = n ∧ g xs ρ h Q := id onLst'_r
end F3
set_option maxHeartbeats 1000000
/-! FU: a tuple times an int. -/
namespace F3
open PySem PySem.Spec PyProof.Rows L2
section
theorem tuple_mul1 (l : Addr) (items : Array Value) (n : Nat) (dd : Option Addr) (sl : Array (Option Value)) (u : Tok) :
    Meets (Builtin.«tuple.__mul__» ⟨[.ref l, .int 1 u], []⟩) (fun _ R s => s.heap.get? l = some { cls := .type "tuple", dict := dd, data := .seq items n, slots := sl } ∧ R (.ok (.ret (Value.ref l))) s) :=
  .of_wp fun prog w A R s h => by
    obtain ⟨hp, g, d, tk, os⟩ := s
    obtain ⟨hl, h⟩ := h
    have f1 := AutoSeq1.idx_int
    have c0 : (decide ((1 : Int) < -(2 ^ 63)) || decide ((1 : Int) ≥ 2 ^ 63)) = false := by decide
    have c1 : (items.isEmpty || (1 : Int) == 1) = true := by simp
    wp_walk using wpAny_loadPart' hl
    repeat (first
      | (refine wpAny_ite_false (decide_eq_false (by rw [c0]; exact Bool.false_ne_true)) ?_; wp_walk using wpAny_loadPart' hl)
      | (refine wpAny_ite_true (decide_eq_true c1) ?_; wp_walk using wpAny_loadPart' hl))
    exact ⟨_, rfl, h⟩
variable {X : Cx}
def rRepT1 (K : PySem.W.Frag) : R2 := fun x y H Q => ∃ l xs, x = .ref l ∧ y = .int 1 ∧ SqT K H l xs ∧ Q (.ref l) H
theorem op_repT1 : OpR X (binaryOp .Mult) (rRepT1 X.K) := by
  intro pins s σ H x y v u Q I rx ry h
  obtain ⟨l, xs, rfl, rfl, hT, q⟩ := h
  cases rx
  obtain ⟨t, rfl⟩ := ry
  obtain ⟨its, r, ⟨⟨cls, dd, data, sl⟩, ho, hc, n, hd⟩, hs⟩ := I.tuple hT
  simp only at hc hd
  subst hc hd
  refine wpAny_binaryOp_repeat_ref (T := "tuple") (U := "int") (by decide) ⟨_, ho, rfl⟩ (fun s' => typeIs_int s' 1 t) noFill_tuple_mul F.fills_int_mul F.slot_int_rmul repeat_tuple F.slot_int_index.lookup
    (call_meets F.slot_int_rmul (typeIs_int s 1 t) F.entry_int_rmul (F.args_int_rmul_2 _ _) (int_rmul_tuple 1 t l its.toArray n dd sl)
      ⟨ho, rfl, ⟨_, ho, rfl⟩, call_meets F.slot_tuple_mul ⟨_, ho, rfl⟩ F.entry_tuple_mul (F.args_tuple_mul_2 _ _) (tuple_mul1 l its.toArray n dd sl t) ⟨ho, ?_⟩⟩)
  exact ⟨.ref l, H, I, rfl, q⟩
def mulTR : R3 := fun x y h Q => match x, y with
  | .tup xs, .int k => (xs ≠ [] ∧ 1 ≤ k ∧ k ≤ 1000 ∧ xs.length ≤ 1000 ∧ k.toNat * xs.length ≠ 3) ∧ Q (.tup (List.replicate k.toNat xs).flatten) h
  | _, _ => False
theorem o_mulT : Op3 X (binaryOp .Mult) mulTR := by
  refine ⟨fun x y h Q Q' w q => ?_, _, OpR.or op_repT op_repT1, fun m h H x y v u Q R rx ry q => ?_⟩
  · unfold mulTR at q ⊢
    split at q
    · exact ⟨q.1, w _ _ q.2⟩
    · exact q.elim
  · unfold mulTR at q
    split at q
    next xs k =>
      cases rx with
      | tup sq rr =>
        cases ry
        obtain ⟨⟨h1, h2, h3, h4, h5⟩, q⟩ := q
        by_cases hk : k = 1
        · subst hk
          have e : (List.replicate (Int.toNat 1) xs).flatten = xs := by
            show (List.replicate 1 xs).flatten = xs
            simp
          rw [e] at q
          exact .inr ⟨_, _, rfl, rfl, TH sq, q m H _ .refl R (.tup sq rr)⟩
        · refine .inl ⟨_, k, _, rfl, rfl, TH sq, fun z => h1 ?_, by omega, h3, by rw [← rr.length]; exact h4, fun p hp => ?_⟩
          · have := rr.length
            rw [z] at this
            exact List.eq_nil_of_length_eq_zero this
          · exact q m _ (.ref p) (Step.lay hp) (R.lay hp) (.tup (TupA.of (mk3_len (by simp only [List.length_flatten, List.map_replicate, List.sum_replicate_nat, ← rr.length]; exact h5)) upd_same) ((rr.rep k.toNat).step R (Step.lay hp)))
    next => exact q.elim
end
theorem mulTR_q {xs : List D} {k : Int} {h : Sto} {Q : DK} : mulTR (.tup xs) (.int k) h Q = ((xs ≠ [] ∧ 1 ≤ k ∧ k ≤ 1000 ∧ xs.length ≤ 1000 ∧ k.toNat * xs.length ≠ 3) ∧ Q (.tup (List.replicate k.toNat xs).flatten) h) := id rfl
theorem rep_zero {n : Nat} : (D.tup (List.replicate n [D.int 0]).flatten) = wtD (List.replicate n 0) := by
  unfold wtD
  congr 1
  induction n with
  | zero => rfl
  | succ n ih => rw [List.replicate_succ, List.replicate_succ, List.flatten_cons, List.map_cons, ih]; rfl
end F3
set_option maxHeartbeats 1000000
/-! FV: texts: str(n), sep.join([..]), a text times 0 or 1. -/
namespace F3
open PySem PySem.Spec PyProof.Rows L2
def intS (i : Int) : Str := toString i
section
variable {X : Cx}
def strR : N3 := fun xs h Q => match xs with
  | [.int i] => i.natAbs.log2 < 1920 ∧ Q (.str (intS i)) h
  | _ => False
theorem k_str : Call3 X (.type "str") strR := by
  refine ⟨fun xs h Q Q' w q => ?_, _, call_str_int, fun m h H xs vs Q R rs q => ?_⟩
  · unfold strR at q ⊢
    split at q
    · exact ⟨q.1, w _ _ q.2⟩
    · exact q.elim
  · unfold strR at q
    split at q
    next i =>
      match vs, rs with
      | [_], .cons (.int _) .nil => exact ⟨i, rfl, q.1, q.2 m H _ .refl R (.str _)⟩
    next => exact q.elim
def strsOf : List D → Option (List Str)
  | [] => some []
  | .str x :: r => (strsOf r).map (x :: ·)
  | _ => none
theorem strsOf_map : ∀ ns : List Str, strsOf (ns.map D.str) = some ns
  | [] => rfl
  | n :: r => by simp only [List.map_cons, strsOf, strsOf_map r, Option.map_some]
theorem strsOf_eq : ∀ {xs : List D} {ns : List Str}, strsOf xs = some ns → xs = ns.map D.str
  | [], ns, h => by cases h; rfl
  | x :: r, ns, h => by
    cases x with
    | str y =>
      simp only [strsOf] at h
      obtain ⟨zs, h1, h2⟩ := Option.map_eq_some_iff.mp h
      rw [← h2, strsOf_eq h1]; rfl
    | _ => simp [strsOf] at h
def onSs (o : Option (List Str)) (q : List Str → Prop) (_ : Tag q := ⟨⟩) : Prop := match o with
  | some j => q j
  | none => False
def onS (d : D) (q : Str → Prop) (_ : Tag q := ⟨⟩) : Prop := match d with
  | .str x => q x
  | _ => False
def tJoin (to : E3) (ta : A3) : E3 := fun ρ h Q => to ρ h fun x h1 => onS x fun a => ta ρ h1 fun xs h2 => onSs (strsOf xs) fun ys => (ys.map (·.length)).sum + ys.length * a.length ≤ 16777216 ∧ Q (.str (Txt.join a ys)) h2
theorem onS_mono {d : D} {q q' : Str → Prop} (w : ∀ x, q x → q' x) (h : onS d q) : onS d q' := by
  unfold onS at h ⊢
  cases d <;> first | exact w _ h | exact h
theorem onSs_mono {o : Option (List Str)} {q q' : List Str → Prop} (w : ∀ x, q x → q' x) (h : onSs o q) : onSs o q' := by
  unfold onSs at h ⊢
  cases o <;> first | exact w _ h | exact h
theorem MonoE.join {to : E3} {ta : A3} (mo : MonoE to) (ma : MonoA ta) : MonoE (tJoin to ta) := fun ρ h Q Q' w q =>
  mo _ _ _ _ (fun x h1 q1 => onS_mono (fun a q2 => ma _ _ _ _ (fun xs h2 q3 => onSs_mono (fun ys q4 => ⟨q4.1, w _ _ q4.2⟩) q3) q2) q1) q
theorem e3_join {o e : Expr} {to : E3} {ta : A3} {apos pos : Pos} (ho : PE3 X o to) (he : PX3 X e ta) (hs : starEach [e] X.env = [(false, eval e X.env)] := by rfl) (hbase : attributeBase o "join" X.env (eval o X.env) = eval o X.env := by rfl) (hline : (apos.endLine == pos.line) = true := by rfl) :
    PE3 X (.Call (.Attribute o "join" apos) [e] [] pos) (tJoin to ta) := by
  refine ⟨PE.weak (pe_join ho.pe he.pe hs hbase hline) fun σ H Q ⟨m, h, ρ, R, S, q⟩ => ?_, MonoE.join ho.mono he.mono⟩
  refine LE.bind ho.mono R S q fun m1 H1 v x h1 s1 R1 rx S1 q1 => ?_
  cases x with
  | str a =>
    cases rx
    refine ⟨⟨a, rfl⟩, ?_⟩
    refine LX.bind he.mono R1 S1 q1 fun m2 H2 b vs xs h2 s2 R2 eb _ _ rs S2 q2 => ?_
    unfold onSs at q2
    split at q2
    next ys e =>
      have := strsOf_eq e
      subst this
      refine ⟨a, b, ys, rfl, rfl, .inl (.inl (.inl ?_)), q2.1, q2.2 m2 H2 _ (s1.trans s2) R2 (.str _)⟩
      rw [← rs.strs]; exact eb
    next => exact q2.elim
  | _ => exact q1.elim
/-- a text times 0 or 1 -/
def mulSR : R3 := fun x y h Q => match x, y with
  | .str a, .int k => (0 ≤ k ∧ k ≤ 1) ∧ Q (.str (if k = 1 then a else Str.empty)) h
  | _, _ => False
theorem op_mulS01 : OpR X (binaryOp .Mult) (fun x y H Q => ∃ a k, x = .str a ∧ y = .int k ∧ (0 ≤ k ∧ k ≤ 1) ∧ Q (.str (if k = 1 then a else Str.empty)) H) := by
  intro pins s σ H x y v u Q I rx ry h
  obtain ⟨a, k, rfl, rfl, hk, q⟩ := h
  obtain ⟨t, rfl⟩ := rx
  obtain ⟨t2, rfl⟩ := ry
  have : k = 0 ∨ k = 1 := by omega
  rcases this with rfl | rfl
  · exact PySem.P.mul_str_none (by decide) (by decide) ⟨.str Str.empty, H, I.tok _, ⟨_, rfl⟩, q⟩
  · refine PySem.P.mul_str (by decide) (fun _ h => absurd h (by simp)) (fun _ h => absurd h (by simp)) ?_
    rw [if_neg (by decide), if_pos (by simp)]
    exact ⟨.str a, H, I, ⟨_, rfl⟩, q⟩
theorem o_mulS : Op3 X (binaryOp .Mult) mulSR := by
  refine ⟨fun x y h Q Q' w q => ?_, _, op_mulS01, fun m h H x y v u Q R rx ry q => ?_⟩
  · unfold mulSR at q ⊢
    split at q
    · exact ⟨q.1, w _ _ q.2⟩
    · exact q.elim
  · unfold mulSR at q
    split at q
    next a k =>
      cases rx
      cases ry
      exact ⟨a, k, rfl, rfl, q.1, q.2 m H _ .refl R (.str _)⟩
    next => exact q.elim
end
section
variable {h : Sto} {Q : DK} {i : Int} {x y : Str} {xs : List D} {ρ : S3}
theorem strR_q : strR [.int i] h Q = (i.natAbs.log2 < 1920 ∧ Q (.str (intS i)) h) := id rfl
theorem tJoin_q {to : E3} {ta : A3} : tJoin to ta ρ h Q = to ρ h fun x h1 => onS x fun a => ta ρ h1 fun xs h2 => onSs (strsOf xs) fun ys => (ys.map (·.length)).sum + ys.length * a.length ≤ 16777216 ∧ Q (.str (Txt.join a ys)) h2 := id rfl
theorem onS_q {q : Str → Prop} : onS (.str x) q = q x := id rfl
theorem onSs_q {q : List Str → Prop} {ys : List Str} : onSs (some ys) q = q ys := id rfl
theorem mulSR_q : mulSR (.str x) (.int i) h Q = ((0 ≤ i ∧ i ≤ 1) ∧ Q (.str (if i = 1 then x else Str.empty)) h) := id rfl
end
/-! ### texts, plainly -/
def TOk (x : Str) : Prop := PyData.strOk x = true
theorem tok_app {x y : Str} (hx : TOk x) (hy : TOk y) : TOk (x ++ y) := by
  unfold TOk PyData.strOk at *
  show (x.cps ++ y.cps).all _ = true
  rw [Array.all_append, hx, hy]; rfl
theorem tok_str (s : String) : TOk (Str.ofString s) := by
  unfold TOk PyData.strOk Str.ofString
  rw [cpsOfBytes_string]
  simp only [List.all_toArray, List.all_map, List.all_eq_true]
  intro c _
  have h := c.valid
  simp only [UInt32.isValidChar, Nat.isValidChar] at h
  show decide (c.val.toNat < 0x110000) = true
  exact decide_eq_true (by omega)
theorem str_ext {x y : Str} (h : x.cps.toList = y.cps.toList) : x = y := by
  cases x; cases y
  congr 1
  exact Array.toList_inj.mp h
theorem app_list (x y : Str) : (x ++ y).cps.toList = x.cps.toList ++ y.cps.toList := by
  show (x.cps ++ y.cps).toList = _
  rw [Array.toList_append]
theorem app_assoc (x y z : Str) : x ++ y ++ z = x ++ (y ++ z) := str_ext (by simp only [app_list, List.append_assoc])
theorem app_empty (x : Str) : x ++ Str.empty = x := str_ext (by rw [app_list]; show _ ++ [] = _; simp)
theorem empty_app (x : Str) : Str.empty ++ x = x := str_ext (by rw [app_list]; show [] ++ _ = _; simp)
theorem tj_eq (a : Str) (l : List Str) : Txt.join a l = Str.join a l := TL.join_eq a l
theorem join_cons2 (a x y : Str) (r : List Str) : Txt.join a (x :: y :: r) = x ++ a ++ Txt.join a (y :: r) := by
  rw [tj_eq, tj_eq]; rfl
theorem join_one (a x : Str) : Txt.join a [x] = x := by rw [tj_eq]; rfl
theorem join_nil (a : Str) : Txt.join a [] = Str.empty := by rw [tj_eq]; rfl
theorem toP_str {h : Sto} {k : Nat} {x : Str} (e : TOk x) : toP h (k + 1) (.str x) = some (.str x) := by
  simp only [toP]
  rw [if_pos (show PyData.strOk x = true from e)]
end F3
set_option maxHeartbeats 1000000
/-! FN: dicts whose keys are ints or texts. -/
namespace F3
open PySem PySem.Spec PyProof.Rows L2
section
variable {κ : Type} [DecidableEq κ]
def valD (kvs : List (κ × D)) (k : κ) : Option D := (kvs.find? fun kv => decide (kv.1 = k)).map (·.2)
def putD (kvs : List (κ × D)) (k : κ) (v : D) : List (κ × D) := if (kvs.any fun kv => decide (kv.1 = k)) = true then kvs.map (fun kv => if kv.1 = k then (kv.1, v) else kv) else kvs ++ [(k, v)]
/-- dicts alike -/
structure RelK (K : PySem.W.Frag) (m : List Addr) (H : Hp) (kvs : List (κ × D)) (vs : List (κ × V)) : Prop where
  keys : vs.map (·.1) = kvs.map (·.1)
  vals : RelDs K m H (kvs.map (·.2)) (vs.map (·.2))
variable {K : PySem.W.Frag} {m : List Addr} {H : Hp}
theorem RelK.cons {p : κ × D} {q : κ × V} {kvs : List (κ × D)} {vs : List (κ × V)} (h1 : q.1 = p.1) (h2 : RelD K m H p.2 q.2) (r : RelK K m H kvs vs) : RelK K m H (p :: kvs) (q :: vs) :=
  ⟨by rw [List.map_cons, List.map_cons, h1, r.keys], .cons h2 r.vals⟩
theorem RelK.uncons {p : κ × D} {kvs : List (κ × D)} {us : List (κ × V)} (r : RelK K m H (p :: kvs) us) : ∃ q vs, us = q :: vs ∧ q.1 = p.1 ∧ RelD K m H p.2 q.2 ∧ RelK K m H kvs vs := by
  obtain ⟨h1, h2⟩ := r
  match us, h1, h2 with
  | q :: vs, h1, .cons a b =>
    simp only [List.map_cons, List.cons.injEq] at h1
    exact ⟨q, vs, rfl, h1.1, a, h1.2, b⟩
theorem RelK.nil_of {us : List (κ × V)} (r : RelK K m H ([] : List (κ × D)) us) : us = [] := by
  have := r.keys
  simpa using this
theorem RelK.val (k : κ) : ∀ {kvs : List (κ × D)} {vs : List (κ × V)}, RelK K m H kvs vs → (valD kvs k = none ∧ valV vs k = none) ∨ ∃ d v, valD kvs k = some d ∧ valV vs k = some v ∧ RelD K m H d v
  | [], _, r => by rw [r.nil_of]; exact .inl ⟨rfl, rfl⟩
  | p :: kvs, _, r => by
    obtain ⟨q, vs, rfl, e, h, r'⟩ := r.uncons
    by_cases hk : p.1 = k
    · exact .inr ⟨p.2, q.2, by simp [valD, List.find?_cons, hk], valV_pos (e.trans hk), h⟩
    · have e1 : valD (p :: kvs) k = valD kvs k := by simp [valD, List.find?_cons, hk]
      rw [e1, valV_neg (by rw [e]; exact hk)]
      exact r'.val k
theorem RelK.any (k : κ) : ∀ {kvs : List (κ × D)} {vs : List (κ × V)}, RelK K m H kvs vs → (kvs.any fun kv => decide (kv.1 = k)) = (vs.any fun kv => decide (kv.1 = k))
  | [], _, r => by rw [r.nil_of]; rfl
  | p :: kvs, _, r => by
    obtain ⟨q, vs, rfl, e, h, r'⟩ := r.uncons
    rw [List.any_cons, List.any_cons, r'.any k, e]
theorem RelK.upd (k : κ) {d : D} {v : V} (hd : RelD K m H d v) : ∀ {kvs : List (κ × D)} {vs : List (κ × V)}, RelK K m H kvs vs → RelK K m H (kvs.map fun kv => if kv.1 = k then (kv.1, d) else kv) (vs.map fun kv => if kv.1 = k then (kv.1, v) else kv)
  | [], _, r => by rw [r.nil_of]; exact ⟨rfl, .nil⟩
  | p :: kvs, _, r => by
    obtain ⟨q, vs, rfl, e, h, r'⟩ := r.uncons
    rw [List.map_cons, List.map_cons]
    refine RelK.cons ?_ ?_ (r'.upd k hd)
    · by_cases hk : p.1 = k
      · rw [if_pos hk, if_pos (e.trans hk)]; exact e
      · rw [if_neg hk, if_neg (by rw [e]; exact hk)]; exact e
    · by_cases hk : p.1 = k
      · rw [if_pos hk, if_pos (e.trans hk)]; exact hd
      · rw [if_neg hk, if_neg (by rw [e]; exact hk)]; exact h
theorem RelK.snoc (k : κ) {d : D} {v : V} (hd : RelD K m H d v) : ∀ {kvs : List (κ × D)} {vs : List (κ × V)}, RelK K m H kvs vs → RelK K m H (kvs ++ [(k, d)]) (vs ++ [(k, v)])
  | [], _, r => by rw [r.nil_of]; exact ⟨rfl, .cons hd .nil⟩
  | p :: kvs, _, r => by
    obtain ⟨q, vs, rfl, e, h, r'⟩ := r.uncons
    exact RelK.cons e h (r'.snoc k hd)
theorem RelK.put (k : κ) {d : D} {v : V} (hd : RelD K m H d v) {kvs : List (κ × D)} {vs : List (κ × V)} (r : RelK K m H kvs vs) : RelK K m H (putD kvs k d) (putK vs k v) := by
  unfold putD putK
  rw [r.any k]
  split
  · exact r.upd k hd
  · exact r.snoc k hd
theorem RelK.step {m' : List Addr} {H' : Hp} {h : Sto} (R : Rep K m h H) (s : Step m H m' H') {kvs : List (κ × D)} {vs : List (κ × V)} (r : RelK K m H kvs vs) : RelK K m' H' kvs vs := ⟨r.keys, r.vals.step R s⟩
theorem RelK.len {kvs : List (κ × D)} {vs : List (κ × V)} (r : RelK K m H kvs vs) : vs.length = kvs.length := by
  have := congrArg List.length r.keys
  simpa using this
end
def keyD : D → Option Key
  | .int i => some (.inl i)
  | .str x => some (.inr x)
  | _ => none
theorem keyD_rel {K : PySem.W.Frag} {m : List Addr} {H : Hp} {d : D} {v : V} {k : Key} (r : RelD K m H d v) (e : keyD d = some k) : v = kV k := by
  cases r <;> simp only [keyD, Option.some.injEq, reduceCtorEq] at e <;> subst e <;> rfl
section
variable {X : Cx}
/-- {} -/
def tDNew : E3 := fun _ h Q => Q (.ref h.length) (h ++ [.dK []])
theorem e3_dnew {pos : Pos} : PE3 X (.Dict [] [] pos) tDNew := by
  refine ⟨PE.weak pe_dnewK fun σ H Q ⟨m, h, ρ, R, S, q⟩ p hp => ?_, fun ρ h Q Q' w q => w _ _ q⟩
  exact q (m ++ [p]) _ (.ref p) (Step.cell hp) (R.snoc hp ⟨[], upd_same, rfl, .nil⟩) (.ref (by rw [← R.len]; simp))
/-- d[k] -/
def dgR : R3 := fun x y h Q => match x with
  | .ref n => match h[n]? with
    | some (.dK kvs) => match keyD y with
      | some k => match valD kvs k with
        | some d => Q d h
        | none => False
      | none => False
    | _ => False
  | _ => False
/-- k in d -/
def dinR : R3 := fun y x h Q => match x with
  | .ref n => match h[n]? with
    | some (.dK kvs) => match keyD y with
      | some k => Q (.bl (valD kvs k).isSome) h
      | none => False
    | _ => False
  | _ => False
def dninR : R3 := fun y x h Q => match x with
  | .ref n => match h[n]? with
    | some (.dK kvs) => match keyD y with
      | some k => Q (.bl (!(valD kvs k).isSome)) h
      | none => False
    | _ => False
  | _ => False
theorem Rep.dk {K : PySem.W.Frag} {m : List Addr} {h : Sto} {H : Hp} {n : Nat} {kvs : List (Key × D)} {v : V} (R : Rep K m h H) (r : RelD K m H (.ref n) v) (e : h[n]? = some (.dK kvs)) : ∃ a vs, v = .ref a ∧ m[n]? = some a ∧ H a = some (.dK vs) ∧ RelK K m H kvs vs := by
  cases r with
  | ref ea =>
    obtain ⟨vs, q, k, r⟩ := R.at_ _ _ _ ea e
    exact ⟨_, vs, rfl, ea, q, k, r⟩
theorem dgR_mono : ∀ x y h (Q Q' : DK), (∀ d h', Q d h' → Q' d h') → dgR x y h Q → dgR x y h Q' := fun x y h Q Q' w q => by
  unfold dgR at q ⊢
  split at q
  · split at q
    · split at q
      · split at q
        · exact w _ _ q
        · exact q.elim
      · exact q.elim
    · exact q.elim
  · exact q.elim
theorem e3_dget {a b : Expr} {ta tb : E3} {pos : Pos} (hu : X.A.units + 64 < cLine) (ha : PE3 X a ta) (hb : PE3 X b tb) (hs : NoSl b := by intro _ _; rfl) : PE3 X (.Subscript a b pos) (tO dgR ta tb) := by
  refine ⟨PE.weak (pe_dget (by omega) ha.pe hb.pe hs) fun σ H Q ⟨m, h, ρ, R, S, q⟩ => ?_, MonoE.op dgR_mono ha.mono hb.mono⟩
  refine LE.bind ha.mono R S q fun m1 H1 v x h1 s1 R1 rx S1 q1 => ?_
  refine LE.bind hb.mono R1 S1 q1 fun m2 H2 u y h2 s2 R2 ry S2 q2 => ?_
  unfold dgR at q2
  split at q2
  next n =>
    split at q2
    next kvs e =>
      split at q2
      next k ek =>
        split at q2
        next d ed =>
          obtain ⟨aa, vs, rfl, em, ea, rk⟩ := R2.dk (rx.step R1 s2) e
          rcases rk.val k with ⟨z, _⟩ | ⟨d', v', e1, e2, rd⟩
          · rw [ed] at z; cases z
          · rw [ed] at e1
            cases e1
            refine ⟨aa, v', rfl, ?_, q2 m2 H2 v' (s1.trans s2) R2 rd⟩
            rw [keyD_rel ry ek, ← e2]
            exact DGet.k ea
        next => exact q2.elim
      next => exact q2.elim
    next => exact q2.elim
  next => exact q2.elim
theorem dinR_mono : ∀ x y h (Q Q' : DK), (∀ d h', Q d h' → Q' d h') → dinR x y h Q → dinR x y h Q' := fun x y h Q Q' w q => by
  unfold dinR at q ⊢
  split at q
  · split at q
    · split at q
      · exact w _ _ q
      · exact q.elim
    · exact q.elim
  · exact q.elim
theorem din_lift {ta tb : E3} (ma : MonoE ta) (mb : MonoE tb) {σ : L2.St} {H : Hp} {Q : VK} (q : LE X.K (tO dinR ta tb) σ H Q) : tDIn (LE X.K ta) (LE X.K tb) σ H Q := by
  obtain ⟨m, h, ρ, R, S, q⟩ := q
  refine LE.bind ma R S q fun m1 H1 v x h1 s1 R1 rx S1 q1 => ?_
  refine LE.bind mb R1 S1 q1 fun m2 H2 u y h2 s2 R2 ry S2 q2 => ?_
  unfold dinR at q2
  split at q2
  next n =>
    split at q2
    next kvs e =>
      split at q2
      next k ek =>
        obtain ⟨aa, vs, rfl, em, ea, rk⟩ := R2.dk ry e
        refine ⟨aa, valV vs k, rfl, ?_, ?_⟩
        · rw [keyD_rel (rx.step R1 s2) ek]
          exact DGet.k ea
        · have : (valV vs k).isSome = (valD kvs k).isSome := by
            rcases rk.val k with ⟨z1, z2⟩ | ⟨d', v', e1, e2, rd⟩
            · rw [z1, z2]; rfl
            · rw [e1, e2]; rfl
          rw [this]
          exact q2 m2 H2 _ (s1.trans s2) R2 (.bl _)
      next => exact q2.elim
    next => exact q2.elim
  next => exact q2.elim
theorem e3_din {a b : Expr} {ta tb : E3} {pos : Pos} (hu : X.A.units + 64 < cLine) (ha : PE3 X a ta) (hb : PE3 X b tb) (hm : behindInMarks .In b = false := by first | exact nomark _ | with_unfolding_all rfl) : PE3 X (.Compare a [.In] [b] pos) (tO dinR ta tb) :=
  ⟨PE.weak (pe_cmp (pc_din (by omega) ha.pe hb.pe) hm) fun σ H Q q => din_lift ha.mono hb.mono q, MonoE.op dinR_mono ha.mono hb.mono⟩
theorem b3_din {a b : Expr} {ta tb : E3} {pos : Pos} (hu : X.A.units + 64 < cLine) (ha : PE3 X a ta) (hb : PE3 X b tb) (hm : behindInMarks .In b = false := by first | exact nomark _ | with_unfolding_all rfl) : PB3 X (.Compare a [.In] [b] pos) (tT (tO dinR ta tb)) := by
  have mo : MonoE (tO dinR ta tb) := MonoE.op dinR_mono ha.mono hb.mono
  exact ⟨PT.weak (pt_cmp (pc_din (by omega) ha.pe hb.pe) hm) fun σ H Q q => din_lift ha.mono hb.mono (tT_lift mo q), MonoB.tT mo⟩
/-- d[k] = v -/
def cDPut (td ti tv : E3) : C3 := fun D ρ h => tv ρ h fun v h1 => td ρ h1 fun x h2 => ti ρ h2 fun y h3 => match x with
  | .ref n => match h3[n]? with
    | some (.dK kvs) => match keyD y with
      | some k => kvs.length < 16777216 ∧ D.nx ρ (h3.set n (.dK (putD kvs k v)))
      | none => False
    | _ => False
  | _ => False
theorem c3_dput {o i value : Expr} {td ti tv : E3} {pos pos' : Pos} (hu : X.A.units + 64 < cLine) (ho : PE3 X o td) (hi : PE3 X i ti) (hv : PE3 X value tv) (hs : swapsWith value (some (.Subscript o i pos')) pos.line X.env = pure false := by rfl) :
    PC3 X (.Assign [.Subscript o i pos'] value pos) (cDPut td ti tv) := by
  refine ⟨PS.weak (ps_dput (by omega) ho.pe hi.pe hv.pe hs) fun D σ H ⟨m, h, ρ, R, S, q⟩ => ?_, fun D D' ρ h w q => hv.mono _ _ _ _ (fun v h1 q1 => ho.mono _ _ _ _ (fun x h2 q2 => hi.mono _ _ _ _ (fun y h3 q3 => ?_) q2) q1) q⟩
  · refine LE.bind hv.mono R S q fun m1 H1 v d h1 s1 R1 rd S1 q1 => ?_
    refine LE.bind ho.mono R1 S1 q1 fun m2 H2 u x h2 s2 R2 rx S2 q2 => ?_
    refine LE.bind hi.mono R2 S2 q2 fun m3 H3 w y h3 s3 R3 ry S3 q3 => ?_
    split at q3
    next n =>
      split at q3
      next kvs e =>
        split at q3
        next k ek =>
          obtain ⟨a, vs, rfl, em, ea, rk⟩ := R3.dk (rx.step R2 s3) e
          have hm : a ∈ m3 := List.mem_of_getElem? em
          have rd3 := (rd.step R1 s2).step R2 s3
          have rp := (rk.put k rd3).step R3 (Step.put (o := .dK (putK vs k v)) hm)
          refine ⟨a, _, rfl, by rw [keyD_rel ry ek]; exact DPut.k ea (by rw [rk.len, sizeLine_eq]; exact q3.1), ?_⟩
          exact q3.2 m3 _ σ (((s1.trans s2).trans s3).trans (Step.put hm)) (R3.put em ⟨_, upd_same, rp.keys, rp.vals⟩) (S3.step R3 (Step.put hm))
        next => exact q3.elim
      next => exact q3.elim
    next => exact q3.elim
  · split at q3
    · split at q3
      · split at q3
        · exact ⟨q3.1, w.nx _ _ q3.2⟩
        · exact q3.elim
      · exact q3.elim
    · exact q3.elim
end
end F3
set_option maxHeartbeats 1000000
/-! FX: dicts of any keys: reading, .get, keys that are tuples, walking over the keys (the dict is shut meanwhile). -/
namespace F3
open PySem PySem.Spec PyProof.Rows L2
def keysD : List D → Option (List Key)
  | [] => some []
  | d :: ds => match keyD d with
    | some k => (keysD ds).map (k :: ·)
    | none => none
def keyT : D → Option (List Key)
  | .tup xs => if xs.length = 3 then none else keysD xs
  | _ => none
def kD : Key → D
  | .inl i => .int i
  | .inr x => .str x
theorem keyD_kD (k : Key) : keyD (kD k) = some k := by cases k <;> rfl
theorem keysD_kD : ∀ ks : List Key, keysD (ks.map kD) = some ks
  | [] => rfl
  | k :: ks => by simp [keysD, keyD_kD, keysD_kD ks]
theorem keysD_int : ∀ ns : List Int, keysD (ns.map D.int) = some (ns.map Sum.inl)
  | [] => rfl
  | n :: ns => by
    have := keysD_int ns
    simp [keysD, keyD, this]
theorem keysD_rel {K : PySem.W.Frag} {m : List Addr} {H : Hp} : ∀ {ds : List D} {vs : List V} {ks : List Key}, RelDs K m H ds vs → keysD ds = some ks → vs = ks.map kV
  | [], _, _, .nil, e => by cases e; rfl
  | d :: ds, _, _, .cons r t, e => by
    simp only [keysD] at e
    split at e
    next k ek =>
      obtain ⟨ks, e1, rfl⟩ := Option.map_eq_some_iff.mp e
      rw [keyD_rel r ek, keysD_rel t e1]
      rfl
    next => cases e
theorem keyT_rel {K : PySem.W.Frag} {m : List Addr} {H : Hp} {d : D} {v : V} {ks : List Key} (r : RelD K m H d v) (e : keyT d = some ks) : ∃ b, v = .ref b ∧ H b = some (.tup (ks.map kV)) := by
  cases r with
  | tup sq r =>
    rename_i xs _ _
    by_cases hl : xs.length = 3
    · simp only [keyT, hl, if_true, reduceCtorEq] at e
    · simp only [keyT, if_neg hl] at e
      exact ⟨_, rfl, by rw [← keysD_rel r e]; exact TupA.tup (mk3_len (by rw [← r.length]; exact hl)) sq⟩
  | _ => simp [keyT] at e
theorem rel_kD {K : PySem.W.Frag} {m : List Addr} {H : Hp} : ∀ k : Key, RelD K m H (kD k) (kV k)
  | .inl i => .int i
  | .inr x => .str x
theorem rel_kDs {K : PySem.W.Frag} {m : List Addr} {H : Hp} : ∀ ks : List Key, RelDs K m H (ks.map kD) (ks.map kV)
  | [] => .nil
  | k :: ks => .cons (rel_kD k) (rel_kDs ks)
/-- what a dict's cell tells of a key -/
def dvC (c : Option Cell) (y : D) : Option (Option D) := match c with
  | some (.dK kvs) => (keyD y).map (valD kvs)
  | some (.zK _ _ kvs) => (keyD y).map (valD kvs)
  | some (.dT kvs) => (keyT y).map (valD kvs)
  | some (.zT _ _ kvs) => (keyT y).map (valD kvs)
  | _ => none
def isDC (c : Option Cell) : Bool := match c with
  | some (.dK _) => true
  | some (.zK _ _ _) => true
  | some (.dT _) => true
  | some (.zT _ _ _) => true
  | _ => false
inductive RelO (K : PySem.W.Frag) (m : List Addr) (H : Hp) : Option D → Option V → Prop
  | no : RelO K m H none none
  | so {d : D} {v : V} : RelD K m H d v → RelO K m H (some d) (some v)
theorem RelK.relO {κ : Type} [DecidableEq κ] {K : PySem.W.Frag} {m : List Addr} {H : Hp} {kvs : List (κ × D)} {vs : List (κ × V)} (r : RelK K m H kvs vs) (k : κ) : RelO K m H (valD kvs k) (valV vs k) := by
  rcases r.val k with ⟨z1, z2⟩ | ⟨d, v, e1, e2, rd⟩
  · rw [z1, z2]; exact .no
  · rw [e1, e2]; exact .so rd
theorem RelO.getD {K : PySem.W.Frag} {m : List Addr} {H : Hp} {o : Option D} {ov : Option V} (r : RelO K m H o ov) {d : D} {v : V} (q : RelD K m H d v) : RelD K m H (o.getD d) (ov.getD v) := by
  cases r with
  | no => exact q
  | so r => exact r
theorem RelO.isSome {K : PySem.W.Frag} {m : List Addr} {H : Hp} {o : Option D} {ov : Option V} (r : RelO K m H o ov) : ov.isSome = o.isSome := by
  cases r <;> rfl
theorem isDC_lift {K : PySem.W.Frag} {m : List Addr} {h : Sto} {H : Hp} {n : Nat} {a : Addr} (R : Rep K m h H) (em : m[n]? = some a) (e : isDC h[n]? = true) : IsD H a := by
  unfold isDC at e
  split at e
  next e2 => obtain ⟨vs, q, _⟩ := R.at_ _ _ _ em e2; exact .inl ⟨vs, .inl q⟩
  next o vs kvs e2 => obtain ⟨q, _⟩ := R.at_ _ _ _ em e2; exact .inl ⟨vs, .inr ⟨o, q⟩⟩
  next e2 => obtain ⟨vs, q, _⟩ := R.at_ _ _ _ em e2; exact .inr ⟨vs, .inl q⟩
  next o vs kvs e2 => obtain ⟨q, _⟩ := R.at_ _ _ _ em e2; exact .inr ⟨vs, .inr ⟨o, q⟩⟩
  next => cases e
theorem dvC_lift {K : PySem.W.Frag} {m : List Addr} {h : Sto} {H : Hp} {n : Nat} {a : Addr} {y : D} {u : V} {o : Option D} (R : Rep K m h H) (em : m[n]? = some a) (ry : RelD K m H y u) (e : dvC h[n]? y = some o) : ∃ ov, DGet H a u ov ∧ RelO K m H o ov := by
  unfold dvC at e
  split at e
  next kvs e2 =>
    obtain ⟨k, ek, rfl⟩ := Option.map_eq_some_iff.mp e
    obtain ⟨vs, q, k1, r⟩ := R.at_ _ _ _ em e2
    exact ⟨valV vs k, .inl ⟨vs, k, .inl q, keyD_rel ry ek, rfl⟩, RelK.relO ⟨k1, r⟩ k⟩
  next ob vs kvs e2 =>
    obtain ⟨k, ek, rfl⟩ := Option.map_eq_some_iff.mp e
    obtain ⟨q, k1, r⟩ := R.at_ _ _ _ em e2
    exact ⟨valV vs k, .inl ⟨vs, k, .inr ⟨ob, q⟩, keyD_rel ry ek, rfl⟩, RelK.relO ⟨k1, r⟩ k⟩
  next kvs e2 =>
    obtain ⟨k, ek, rfl⟩ := Option.map_eq_some_iff.mp e
    obtain ⟨vs, q, k1, r⟩ := R.at_ _ _ _ em e2
    obtain ⟨b, e3, e4⟩ := keyT_rel ry ek
    exact ⟨valV vs k, .inr ⟨vs, k, b, .inl q, e3, e4, rfl⟩, RelK.relO ⟨k1, r⟩ k⟩
  next ob vs kvs e2 =>
    obtain ⟨k, ek, rfl⟩ := Option.map_eq_some_iff.mp e
    obtain ⟨q, k1, r⟩ := R.at_ _ _ _ em e2
    obtain ⟨b, e3, e4⟩ := keyT_rel ry ek
    exact ⟨valV vs k, .inr ⟨vs, k, b, .inr ⟨ob, q⟩, e3, e4, rfl⟩, RelK.relO ⟨k1, r⟩ k⟩
  next => cases e
section
variable {X : Cx}
/-- {} of tuple keys -/
def tDNewT3 : E3 := fun _ h Q => Q (.ref h.length) (h ++ [.dT []])
theorem e3_dnewT {pos : Pos} : PE3 X (.Dict [] [] pos) tDNewT3 := by
  refine ⟨PE.weak pe_dnewT fun σ H Q ⟨m, h, ρ, R, S, q⟩ p hp => ?_, fun ρ h Q Q' w q => w _ _ q⟩
  exact q (m ++ [p]) _ (.ref p) (Step.cell hp) (R.snoc hp ⟨[], upd_same, rfl, .nil⟩) (.ref (by rw [← R.len]; simp))
/-- d[k] -/
def dgA : R3 := fun x y h Q => match x with
  | .ref n => match dvC h[n]? y with
    | some (some d) => Q d h
    | _ => False
  | _ => False
theorem dgA_mono : ∀ x y h (Q Q' : DK), (∀ d h', Q d h' → Q' d h') → dgA x y h Q → dgA x y h Q' := fun x y h Q Q' w q => by
  unfold dgA at q ⊢
  split at q
  · split at q
    · exact w _ _ q
    · exact q.elim
  · exact q.elim
theorem e3_dgetA {a b : Expr} {ta tb : E3} {pos : Pos} (hu : X.A.units + 64 < cLine) (ha : PE3 X a ta) (hb : PE3 X b tb) (hs : NoSl b := by intro _ _; rfl) : PE3 X (.Subscript a b pos) (tO dgA ta tb) := by
  refine ⟨PE.weak (pe_dget (by omega) ha.pe hb.pe hs) fun σ H Q ⟨m, h, ρ, R, S, q⟩ => ?_, MonoE.op dgA_mono ha.mono hb.mono⟩
  refine LE.bind ha.mono R S q fun m1 H1 v x h1 s1 R1 rx S1 q1 => ?_
  refine LE.bind hb.mono R1 S1 q1 fun m2 H2 u y h2 s2 R2 ry S2 q2 => ?_
  unfold dgA at q2
  split at q2
  next n =>
    split at q2
    next d ed =>
      cases rx with
      | ref em =>
        obtain ⟨ov, g, ro⟩ := dvC_lift R2 (s2.get em) ry ed
        cases ro with
        | so rd => exact ⟨_, _, rfl, g, q2 m2 H2 _ (s1.trans s2) R2 rd⟩
    next => exact q2.elim
  next => exact q2.elim
/-- d.get(k, x) -/
def tDG2 (td ty tx : E3) : E3 := fun ρ h Q => td ρ h fun x h1 => match x with
  | .ref n => isDC h1[n]? = true ∧ ty ρ h1 fun y h2 => tx ρ h2 fun z h3 => match dvC h3[n]? y with
    | some o => Q (o.getD z) h3
    | none => False
  | _ => False
theorem e3_dget2 {o e f : Expr} {apos cpos : Pos} {td ty tx : E3} (hu : X.A.units + 64 < cLine) (ho : PE3 X o td) (he : PE3 X e ty) (hf : PE3 X f tx) (mm : M2 X o "get" apos e f cpos) : PE3 X (.Call (.Attribute o "get" apos) [e, f] [] cpos) (tDG2 td ty tx) := by
  refine ⟨PE.weak (pe_dget2 (by omega) ho.pe he.pe hf.pe mm) fun σ H Q ⟨m, h, ρ, R, S, q⟩ => ?_, fun ρ h Q Q' w q => ho.mono _ _ _ _ (fun x h1 q1 => ?_) q⟩
  · refine LE.bind ho.mono R S q fun m1 H1 v x h1 s1 R1 rx S1 q1 => ?_
    split at q1
    next n =>
      obtain ⟨hd, q1⟩ := q1
      cases rx with
      | ref em =>
        refine ⟨_, rfl, isDC_lift R1 em hd, ?_⟩
        refine LE.bind he.mono R1 S1 q1 fun m2 H2 u y h2 s2 R2 ry S2 q2 => ?_
        refine LE.bind hf.mono R2 S2 q2 fun m3 H3 w z h3 s3 R3 rz S3 q3 => ?_
        split at q3
        next oo eo =>
          obtain ⟨ov, g, ro⟩ := dvC_lift R3 (s3.get (s2.get em)) (ry.step R2 s3) eo
          exact ⟨ov, g, q3 m3 H3 _ ((s1.trans s2).trans s3) R3 (ro.getD rz)⟩
        next => exact q3.elim
    next => exact q1.elim
  · split at q1
    · refine ⟨q1.1, he.mono _ _ _ _ (fun y h2 q2 => hf.mono _ _ _ _ (fun z h3 q3 => ?_) q2) q1.2⟩
      split at q3
      · exact w _ _ q3
      · exact q3.elim
    · exact q1.elim
/-- d[k] = v, of tuple keys -/
def cDPutT (td ti tv : E3) : C3 := fun D ρ h => tv ρ h fun v h1 => td ρ h1 fun x h2 => ti ρ h2 fun y h3 => match x with
  | .ref n => match h3[n]? with
    | some (.dT kvs) => match keyT y with
      | some k => kvs.length < 16777216 ∧ D.nx ρ (h3.set n (.dT (putD kvs k v)))
      | none => False
    | _ => False
  | _ => False
theorem c3_dputT {o i value : Expr} {td ti tv : E3} {pos pos' : Pos} (hu : X.A.units + 64 < cLine) (ho : PE3 X o td) (hi : PE3 X i ti) (hv : PE3 X value tv) (hs : swapsWith value (some (.Subscript o i pos')) pos.line X.env = pure false := by rfl) :
    PC3 X (.Assign [.Subscript o i pos'] value pos) (cDPutT td ti tv) := by
  refine ⟨PS.weak (ps_dput (by omega) ho.pe hi.pe hv.pe hs) fun D σ H ⟨m, h, ρ, R, S, q⟩ => ?_, fun D D' ρ h w q => hv.mono _ _ _ _ (fun v h1 q1 => ho.mono _ _ _ _ (fun x h2 q2 => hi.mono _ _ _ _ (fun y h3 q3 => ?_) q2) q1) q⟩
  · refine LE.bind hv.mono R S q fun m1 H1 v d h1 s1 R1 rd S1 q1 => ?_
    refine LE.bind ho.mono R1 S1 q1 fun m2 H2 u x h2 s2 R2 rx S2 q2 => ?_
    refine LE.bind hi.mono R2 S2 q2 fun m3 H3 w y h3 s3 R3 ry S3 q3 => ?_
    split at q3
    next n =>
      split at q3
      next kvs e =>
        split at q3
        next k ek =>
          cases rx with
          | @ref _ a em0 =>
            have em := s3.get em0
            obtain ⟨vs, ea, k1, r⟩ := R3.at_ _ _ _ em e
            have rk : RelK X.K m3 H3 kvs vs := ⟨k1, r⟩
            have hm : a ∈ m3 := List.mem_of_getElem? em
            have rd3 := (rd.step R1 s2).step R2 s3
            have rp := (rk.put k rd3).step R3 (Step.put (o := .dT (putK vs k v)) hm)
            obtain ⟨b, e3, e4⟩ := keyT_rel ry ek
            refine ⟨a, _, rfl, by rw [e3]; exact DPut.t ea e4 (by rw [rk.len, sizeLine_eq]; exact q3.1), ?_⟩
            exact q3.2 m3 _ σ (((s1.trans s2).trans s3).trans (Step.put hm)) (R3.put em ⟨_, upd_same, rp.keys, rp.vals⟩) (S3.step R3 (Step.put hm))
        next => exact q3.elim
      next => exact q3.elim
    next => exact q3.elim
  · split at q3
    · split at q3
      · split at q3
        · exact ⟨q3.1, w.nx _ _ q3.2⟩
        · exact q3.elim
      · exact q3.elim
    · exact q3.elim
/-- for k in d: the keys, while the dict is shut -/
def iKeys3 (t : E3) : I3 := fun ρ h Q => t ρ h fun x h1 => match x with
  | .ref n => match h1[n]? with
    | some (.zT o ws kvs) => (∀ kv ∈ kvs, kv.1.length ≠ 3) ∧ Q (kvs.map fun kv => .tup (kv.1.map kD)) (fun h' => h'[n]? = some (.zT o ws kvs)) h1
    | some (.zK o ws kvs) => Q (kvs.map fun kv => kD kv.1) (fun h' => h'[n]? = some (.zK o ws kvs)) h1
    | _ => False
  | _ => False
theorem keys_at {κ : Type} {kvs : List (κ × D)} {ws : List (κ × V)} (k1 : ws.map (·.1) = kvs.map (·.1)) {i : Nat} {p : κ × D} (e : kvs[i]? = some p) {q : κ × V} (e2 : ws[i]? = some q) : q.1 = p.1 := by
  have := congrArg (·[i]?) k1
  simp only [List.getElem?_map, e, e2, Option.map_some, Option.some.injEq] at this
  exact this
theorem serves_keysT {K : PySem.W.Frag} {m : List Addr} {H : Hp} {n : Nat} {a : Addr} {o : Obj} {ws : List (List Key × V)} {kvs : List (List Key × D)} (em : m[n]? = some a) (n3 : ∀ kv ∈ kvs, kv.1.length ≠ 3) :
    Serves K (Itkt a o ws) (kvs.map fun kv => .tup (kv.1.map kD)) (fun h' => h'[n]? = some (.zT o ws kvs)) m H := by
  refine ⟨fun m1 H1 h1 s1 R1 st i x hx => ?_, fun m1 H1 h1 s1 R1 st i hi => ?_⟩
  · obtain ⟨q, k1, r⟩ := R1.at_ n a _ (s1.get em) st
    rw [List.getElem?_map] at hx
    obtain ⟨p, ep, rfl⟩ := Option.map_eq_some_iff.mp hx
    have hl : ws.length = kvs.length := by simpa using congrArg List.length k1
    have hi : i < kvs.length := (List.getElem?_eq_some_iff.mp ep).1
    refine ⟨⟨q, by omega⟩, fun v' H' ⟨e, k, v, b, e1, e2, e3⟩ => ?_⟩
    subst e; subst e2
    have := keys_at k1 ep e1
    refine ⟨.refl, R1, .tup (TupA.of (mk3_len (by rw [List.length_map, show k = p.1 from this]; exact n3 p (List.mem_of_getElem? ep))) e3) ?_⟩
    rw [← this]
    exact rel_kDs k
  · obtain ⟨q, k1, r⟩ := R1.at_ n a _ (s1.get em) st
    have hl : ws.length = kvs.length := by simpa using congrArg List.length k1
    rw [List.length_map] at hi
    exact ⟨q, by omega⟩
theorem serves_keysK {K : PySem.W.Frag} {m : List Addr} {H : Hp} {n : Nat} {a : Addr} {o : Obj} {ws : List (Key × V)} {kvs : List (Key × D)} (em : m[n]? = some a) :
    Serves K (Itk a o ws) (kvs.map fun kv => kD kv.1) (fun h' => h'[n]? = some (.zK o ws kvs)) m H := by
  refine ⟨fun m1 H1 h1 s1 R1 st i x hx => ?_, fun m1 H1 h1 s1 R1 st i hi => ?_⟩
  · obtain ⟨q, k1, r⟩ := R1.at_ n a _ (s1.get em) st
    rw [List.getElem?_map] at hx
    obtain ⟨p, ep, rfl⟩ := Option.map_eq_some_iff.mp hx
    have hl : ws.length = kvs.length := by simpa using congrArg List.length k1
    have hi : i < kvs.length := (List.getElem?_eq_some_iff.mp ep).1
    refine ⟨⟨q, by omega⟩, fun v' H' ⟨e, k, v, e1, e2⟩ => ?_⟩
    subst e; subst e2
    have := keys_at k1 ep e1
    refine ⟨.refl, R1, ?_⟩
    rw [← this]
    exact rel_kD k
  · obtain ⟨q, k1, r⟩ := R1.at_ n a _ (s1.get em) st
    have hl : ws.length = kvs.length := by simpa using congrArg List.length k1
    rw [List.length_map] at hi
    exact ⟨q, by omega⟩
theorem i3_keys {tg l : Expr} {t : E3} (hl : PE3 X l t) : PI3 X tg l (iKeys3 t) := by
  refine ⟨PI.weak (pi_keys hl.pe) fun σ H Q ⟨m, h, ρ, R, S, q⟩ => ?_, fun ρ h Q Q' w q => hl.mono _ _ _ _ (fun x h1 q1 => ?_) q⟩
  · refine LE.bind hl.mono R S q fun m1 H1 v x h1 s1 R1 rx S1 q1 => ?_
    split at q1
    next n =>
      cases rx with
      | @ref _ a em =>
        split at q1
        next o ws kvs e =>
          obtain ⟨q, _⟩ := R1.at_ _ _ _ em e
          exact ⟨a, o, rfl, .inr ⟨ws, q, q1.2 m1 H1 _ s1 R1 (serves_keysT em q1.1)⟩⟩
        next o ws kvs e =>
          obtain ⟨q, _⟩ := R1.at_ _ _ _ em e
          exact ⟨a, o, rfl, .inl ⟨ws, q, q1 m1 H1 _ s1 R1 (serves_keysK em)⟩⟩
        next => exact q1.elim
    next => exact q1.elim
  · split at q1
    · split at q1
      · exact ⟨q1.1, w _ _ _ q1.2⟩
      · exact w _ _ _ q1
      · exact q1.elim
    · exact q1.elim
/-- shut the dict that the local name i holds while the expression runs -/
def lkX (i : Nat) (t : A3) : A3 := fun ρ h Q => match ρ[i]? with
  | some (some (.ref n)) => match h[n]? with
    | some (.dT kvs) => ∀ o ws, t ρ (h.set n (.zT o ws kvs)) fun xs h' => h'[n]? = some (.zT o ws kvs) ∧ Q xs (h'.set n (.dT kvs))
    | some (.dK kvs) => ∀ o ws, t ρ (h.set n (.zK o ws kvs)) fun xs h' => h'[n]? = some (.zK o ws kvs) ∧ Q xs (h'.set n (.dK kvs))
    | _ => False
  | _ => False
theorem x3_lock {e : Expr} {t : A3} (i : Nat) (hx : PX3 X e t) : PX3 X e (lkX i t) := by
  refine ⟨PE.weak (pe_lock hx.pe) fun σ H Q ⟨m, h, ρ, R, S, q⟩ => ?_, fun ρ h Q Q' w q => ?_⟩
  · unfold lkX at q
    split at q
    next n en =>
      obtain ⟨v, ev, rv⟩ := S.2 _ _ en
      cases rv with
      | @ref _ a em =>
        have hm : a ∈ m := List.mem_of_getElem? em
        split at q
        next kvs e =>
          obtain ⟨ws, ea, k1, r⟩ := R.at_ _ _ _ em e
          refine ⟨a, .dT ws, ea, trivial, fun od => ?_⟩
          have sp := Step.put (m := m) (H := H) (o := .frz od (.dT ws)) hm
          refine ⟨m, h.set n (.zT od ws kvs), ρ, R.put em ⟨upd_same, k1, r.step R sp⟩, S.step R sp, hx.mono _ _ _ _ (fun xs h' q1 m' H' p vs s' R' ep np npm rx => ?_) (q od ws)⟩
          obtain ⟨e1, q2⟩ := q1
          have em' := s'.get em
          have hm' : a ∈ m' := List.mem_of_getElem? em'
          obtain ⟨ea', k1', r'⟩ := R'.at_ _ _ _ em' e1
          have sp' := Step.put (m := m') (H := H') (o := .dT ws) hm'
          have nap : p ≠ a := fun z => npm (z ▸ hm')
          refine ⟨ea', q2 m' _ p vs (sp.trans (s'.trans sp')) (R'.put em' ⟨ws, upd_same, k1', r'.step R' sp'⟩) (by rw [upd_ne nap]; exact ep) ?_ npm (rx.step R' sp')⟩
          rw [upd_ne nap] at np; exact np
        next kvs e =>
          obtain ⟨ws, ea, k1, r⟩ := R.at_ _ _ _ em e
          refine ⟨a, .dK ws, ea, trivial, fun od => ?_⟩
          have sp := Step.put (m := m) (H := H) (o := .frz od (.dK ws)) hm
          refine ⟨m, h.set n (.zK od ws kvs), ρ, R.put em ⟨upd_same, k1, r.step R sp⟩, S.step R sp, hx.mono _ _ _ _ (fun xs h' q1 m' H' p vs s' R' ep np npm rx => ?_) (q od ws)⟩
          obtain ⟨e1, q2⟩ := q1
          have em' := s'.get em
          have hm' : a ∈ m' := List.mem_of_getElem? em'
          obtain ⟨ea', k1', r'⟩ := R'.at_ _ _ _ em' e1
          have sp' := Step.put (m := m') (H := H') (o := .dK ws) hm'
          have nap : p ≠ a := fun z => npm (z ▸ hm')
          refine ⟨ea', q2 m' _ p vs (sp.trans (s'.trans sp')) (R'.put em' ⟨ws, upd_same, k1', r'.step R' sp'⟩) (by rw [upd_ne nap]; exact ep) ?_ npm (rx.step R' sp')⟩
          rw [upd_ne nap] at np; exact np
        next => exact q.elim
    next => exact q.elim
  · unfold lkX at q ⊢
    split at q
    · split at q
      · exact fun o ws => hx.mono _ _ _ _ (fun xs h' q1 => ⟨q1.1, w _ _ q1.2⟩) (q o ws)
      · exact fun o ws => hx.mono _ _ _ _ (fun xs h' q1 => ⟨q1.1, w _ _ q1.2⟩) (q o ws)
      · exact q.elim
    · exact q.elim
end
end F3
set_option maxHeartbeats 1000000
/-! FY: sorted(set(tuples of ints)), of any length and sign. -/
namespace F3
open PySem PySem.Spec PyProof.Rows L2
theorem dataLe_tups {β : Type} (x : β → List Int) : PySem.W.dataLe false (fun b => PyData.tuple ((x b).map .int)) = fun p q => decide (x p ≤ x q) := by
  funext p q
  have e : PySem.W.dataLe false (fun b => PyData.tuple ((x b).map .int)) p q = (!PySem.W.dataLt (.tuple ((x q).map .int)) (.tuple ((x p).map .int))) := rfl
  rw [e, PySem.W.dataLt_tuple]
  show (!PySem.W.rowLt ((x q).map .int) ((x p).map .int)) = _
  rw [PySem.W.dataLt_ints]
  by_cases h : x q < x p
  · have h' : ¬ x p ≤ x q := fun r => List.not_lt.mpr r h
    simp [h, h']
  · have h' : x p ≤ x q := List.not_lt.mp h
    simp [h, h']
theorem reads_ints {h : Heap} : ∀ {vs : List Value} {ns : List Int}, IntsAre vs ns → ReadsAll h vs (ns.map .int) []
  | _, _, .nil => .nil
  | _, _, .cons n t r => by
    have := ReadsAll.cons (Reads.int (h := h) n t) (reads_ints r)
    simpa using this
theorem tup_reads {h : Heap} {v : Value} {ns : List Int} (x : TS.TupInts h v ns) : Reads h v (.tuple (ns.map .int)) [] := by
  obtain ⟨b, items, rfl, ⟨o, ho, hc, n, hd⟩, hi⟩ := x
  exact .tuple ho hc hd (reads_ints hi)
theorem each_refs : ∀ L : List (Addr × List Int), PySem.W.EachIs (fun v (q : Addr × List Int) => v = Value.ref q.1) (L.map fun q => Value.ref q.1) L
  | [] => .nil
  | q :: L => .cons rfl (each_refs L)
theorem refs_each : ∀ {vs : List Value} {L : List (Addr × List Int)}, PySem.W.EachIs (fun v (q : Addr × List Int) => v = Value.ref q.1) vs L → vs = L.map fun q => Value.ref q.1
  | _, _, .nil => rfl
  | _, _, .cons a b => by rw [a, refs_each b]; rfl
section
variable {P : Program} {w : World} {A : Around} {E : Value → Shared → Prop} {s : Shared}
theorem sorted_setD {a : Addr} {L : List (Addr × List Int)} {es : Array (Int × Value)} {ep : Nat} {t : SetTable} {Q : Value → Shared → Prop} (R : SetTR P w s.heap a L es ep t) (hh : A.handled = none) (hu : A.units + 64 < cLine)
    (hB : ∀ p ∈ L, p.2 ≠ [])
    (hQ : ∀ s' p (out : Array Value) (c : Nat) (L' : List (Addr × List Int)), (∀ b o, s.heap.get? b = some o → s'.heap.get? b = some o) → s'.gens = s.gens → s'.os = s.os → s.heap.objs.size ≤ p →
      s'.heap.get? p = some (seqObj "list" out c) → out.toList = L'.map (fun q => Value.ref q.1) → L'.Perm L → L'.Pairwise (fun q r => q.2 ≤ r.2) → Q (.ref p) s') :
    wpAny (model P w) A (call (.builtin "sorted") [.ref a]) Q E s := by
  obtain ⟨o, ho, hex, hd⟩ := R.ob
  have hsz := R.size
  have hfew := R.few
  refine Calls.call_function_entry kind_sorted plain_sorted entry_sorted (args_sorted1 _) ?_
  unfold Builtin.«sorted»
  refine wpAny_bind (m := checkCount "sorted" 1 1 _) (wpAny_pure ?_)
  refine wpAny_bind (collect_set (A := A.in1) hh ⟨o, ho, hex.1, hd⟩ R.fits (by unfold scanBound; omega) R.tab.ris R.led fun s1 vs k1 hz g1 o1 pm => ?_)
  have hes : es.toList.map (·.2) = L.map fun q => Value.ref q.1 := by
    rw [R.rows]
    unfold rowsOf
    rw [List.map_map] <;> rfl
  rw [hes] at pm
  have ord : ∀ vs : List Value, (∀ v ∈ vs, ∃ q ∈ L, v = Value.ref q.1) → ∃ L1 : List (Addr × List Int), vs = L1.map (fun q => Value.ref q.1) ∧ ∀ q ∈ L1, q ∈ L := by
    intro vs
    induction vs with
    | nil => intro _; exact ⟨[], rfl, fun q hq => (by cases hq)⟩
    | cons v vs ih =>
      intro hv
      obtain ⟨q, hq, e⟩ := hv v List.mem_cons_self
      obtain ⟨L1, e1, hs⟩ := ih fun u hu => hv u (List.mem_cons_of_mem _ hu)
      refine ⟨q :: L1, by rw [List.map_cons, e, e1], fun r hr => ?_⟩
      rcases List.mem_cons.mp hr with z | z
      · rw [z]; exact hq
      · exact hs r z
  have one : ∀ q ∈ L, ∀ r ∈ L, q.1 = r.1 → q = r := fun q hq r hr e => by
    have a1 := R.tup q hq
    have a2 := R.tup r hr
    rw [e] at a1
    have e2 : q.2 = r.2 := a1.inj a2
    exact Prod.ext e e2
  have perm_of : ∀ L1 : List (Addr × List Int), (∀ q ∈ L1, q ∈ L) → (L1.map (fun q => Value.ref q.1)).Perm (L.map fun q => Value.ref q.1) → L1.Perm L := by
    intro L1 hs pm1
    have nL : L.Nodup := nodup_of_map R.nd
    have nref : (L.map fun q => Value.ref q.1).Nodup := by
      refine List.pairwise_map.mpr (List.Pairwise.imp_of_mem (fun {q r} hq hr hne e => ?_) nL)
      injection e with e
      exact hne (one q hq r hr e)
    have n1 : L1.Nodup := nodup_of_map (pm1.nodup_iff.mpr nref)
    refine (List.perm_ext_iff_of_nodup n1 nL).mpr fun q => ⟨hs q, fun hq => ?_⟩
    have hm : Value.ref q.1 ∈ L1.map (fun q => Value.ref q.1) := pm1.mem_iff.mpr (List.mem_map.mpr ⟨q, hq, rfl⟩)
    obtain ⟨r, hr, e⟩ := List.mem_map.mp hm
    injection e with e
    rw [← one r (hs r hr) q hq e]
    exact hr
  have hvl : vs.length < 64 := by rw [pm.length_eq, List.length_map]; exact hfew
  refine wpAny_bind (wpAny_newList ?_ (by rw [sizeLine_eq]; omega))
  have hoL : (s1.heap.push (seqObj "list" vs.toArray 0)).get? s1.heap.objs.size = some (seqObj "list" vs.toArray 0) := Heap.get?_push_size _ rfl
  have tk : ∀ q ∈ L, TS.TupInts (s1.heap.push (seqObj "list" vs.toArray 0)) (.ref q.1) q.2 := fun q hq => tupInts_of (P := P) (w := w) (isT_keep (R.tup q hq) fun b u e => Heap.get?_push_of_some _ (k1 b u e))
  obtain ⟨L1, e1, hs1⟩ := ord vs fun v hv => by
    obtain ⟨q, hq, e⟩ := List.mem_map.mp (pm.mem_iff.mp hv)
    exact ⟨q, hq, e.symm⟩
  have p1 : L1.Perm L := perm_of L1 hs1 (by rw [← e1]; exact pm)
  have l1 : L1.length < 64 := by rw [p1.length_eq]; exact hfew
  have er : PySem.W.EachIs (fun v (q : Addr × List Int) => ∃ as, Reads (s1.heap.push (seqObj "list" vs.toArray 0)) v (.tuple (q.2.map .int)) as ∧ s1.heap.objs.size ∉ as) vs L1 := by
    rw [e1]
    refine each_and (each_refs L1) fun u q hq e => ?_
    subst e
    rw [← e1]
    exact ⟨[], tup_reads (tk q (hs1 q hq)), by simp⟩
  have ev : PySem.W.EachIs (fun v (q : Addr × List Int) => v = Value.ref q.1) vs L1 := by rw [e1]; exact each_refs L1
  have al : PySem.W.AllAlike (L1.map fun q => PyData.tuple (q.2.map .int)) := by
    refine PySem.W.AllAlike.of fun q q' => ?_
    simpa [PySem.W.alike] using PySem.W.alike_ints q.2 q'.2
  have so : PySem.W.Sortable (L1.map fun q => PyData.tuple (q.2.map .int)) := .inl fun d hd => by
    obtain ⟨q, hq, rfl⟩ := List.mem_map.mp hd
    have := hB q (hs1 q hq)
    cases e : q.2 with
    | nil => exact absurd e this
    | cons x r => exact ⟨_, _, rfl⟩
  refine wpAny_bind (wpAny_holding (PySem.W.list_sort_data (s := { s1 with heap := s1.heap.push (seqObj "list" vs.toArray 0) }) hoL ev er al so (by rw [sizeLine_eq]; omega) (fun q hq => ?_) fun out a1 a2 => ?_))
  · have : (PyData.tuple (q.2.map .int)).depth ≤ 1 := by
      simp [PyData.depth, PySem.W.depth_ints]
    show A.in1.units + 1 + _ < cLine
    have e : A.in1.units = A.units + 1 := rfl
    omega
  rw [dataLe_tups] at a2
  obtain ⟨c, hc⟩ := sortedHeap_at (vs := vs) (out := out.toArray) hoL
  have e' := refs_each a2
  have pw : (L1.mergeSort fun p q => decide (p.2 ≤ q.2)).Pairwise (fun q r => q.2 ≤ r.2) := by
    refine (List.pairwise_mergeSort (le := fun p q : Addr × List Int => decide (p.2 ≤ q.2)) (fun x y z h1 h2 => ?_) (fun x y => ?_) L1).imp fun h => by simpa using h
    · simp only [decide_eq_true_eq] at h1 h2 ⊢
      exact List.le_trans h1 h2
    · simp only [Bool.or_eq_true, decide_eq_true_eq]
      exact List.le_total _ _
  refine wpAny_pure ⟨_, rfl, hQ _ s1.heap.objs.size out.toArray c _ (fun b u e => ?_) g1 o1 hz hc (by simpa using e') ((List.mergeSort_perm _ _).trans p1) pw⟩
  have q := k1 b u e
  have hlt := Heap.lt_size q
  show (sortedHeap (s1.heap.push (seqObj "list" vs.toArray 0)) s1.heap.objs.size vs out.toArray).get? b = some u
  rw [sortedHeap_old (Nat.ne_of_lt hlt) (by rw [size_push']; exact Nat.lt_succ_of_lt hlt)]
  exact Heap.get?_push_of_some _ q
end
/-- a list of int tuples -/
def itD (ns : List Int) : D := .tup (ns.map .int)
def itOf : D → Option (List Int)
  | .tup xs => intsOf xs
  | _ => none
def itsOf : List D → Option (List (List Int))
  | [] => some []
  | d :: ds => match itOf d with
    | some ns => (itsOf ds).map (ns :: ·)
    | none => none
theorem itsOf_map : ∀ L : List (List Int), itsOf (L.map itD) = some L
  | [] => rfl
  | ns :: L => by
    have e : itOf (itD ns) = some ns := intsOf_map ns
    simp [itsOf, e, itsOf_map L]
theorem itsOf_eq : ∀ {xs : List D} {L : List (List Int)}, itsOf xs = some L → xs = L.map itD
  | [], _, e => by cases e; rfl
  | d :: ds, _, e => by
    simp only [itsOf] at e
    split at e
    next ns en =>
      obtain ⟨L, e1, rfl⟩ := Option.map_eq_some_iff.mp e
      rw [itsOf_eq e1, List.map_cons]
      congr 1
      cases d <;> simp only [itOf, reduceCtorEq] at en
      rw [intsOf_eq en]
      rfl
    next => cases e
section
variable {X : Cx}
def rSortedTD (K : PySem.W.Frag) (P : Program) (w : World) : List V → Hp → VK → Prop := fun vs H Q => ∃ (a : Addr) (L : List (Addr × List Int)), vs = [V.ref a] ∧ H a = some (SetTO P w a L) ∧ (∀ p ∈ L, SqT K H p.1 (p.2.map V.int)) ∧
  (∀ p ∈ L, p.2 ≠ []) ∧
  ∀ (L' : List (Addr × List Int)) (p : Addr), L'.Perm L → (L'.map (·.2)).Nodup → L'.Pairwise (fun q r => q.2 ≤ r.2) → H p = none → Q (.ref p) (upd H p (.lst (L'.map fun q => V.ref q.1)))
theorem cr_sortedTD (hc : X.calm = true) (hu : X.A.units + 64 < cLine) : CallR X (.builtin "sorted") (rSortedTD X.K X.prog X.w) := by
  intro pins s σ H vs us Q I r h
  obtain ⟨a, L, rfl, ha, hk, hB, q⟩ := h
  have R0 : SetT0 X.prog X.w s.heap a L := (I.hok a _ ha).1
  obtain ⟨es, ep, t, R⟩ := R0.full fun p hp => I.isT (hk p hp)
  rw [Vals.ref1 r]
  refine sorted_setD R (I.ok.hd hc) hu hB fun s' p out c L' k g o hp hg hout pm pw => ?_
  have hfew : L'.length < 64 := by rw [pm.length_eq]; exact R.few
  have hlen : (L'.map fun q => V.ref q.1).length ≤ sizeLine := by rw [List.length_map, sizeLine_eq]; omega
  have hn : H p = none := I.hok.fresh hp
  have hv : Vals (L'.map fun q => V.ref q.1) out.toList := by rw [hout]; exact vals_of_refs L'
  have J : Inv X pins σ (upd H p (.lst (L'.map fun q => V.ref q.1))) { s with heap := s'.heap, gens := s'.gens, drawn := s'.drawn, toks := s'.toks } :=
    I.call (ch := []) (Un.laid k hp hn) (I.hok.laid k hp ⟨hlen, out.toList, c, hv, hg⟩) (by rw [g]; exact I.bare) (fun _ z => nomatch z)
  have e : s' = { s with heap := s'.heap, gens := s'.gens, drawn := s'.drawn, toks := s'.toks } := by
    cases s'
    cases s
    simp only at o
    subst o
    rfl
  rw [e]
  exact ⟨.ref p, _, J, rfl, q L' p pm ((pm.map (·.2)).nodup_iff.mpr R.nd) pw hn⟩
/-- sorted(set(xs)) of int tuples -/
def tSSetT (t : A3) : A3 := fun ρ h Q => t ρ h fun xs h1 => match itsOf xs with
  | some L => L.length < 64 ∧ (∀ p ∈ L, p ≠ []) ∧ ∀ M : List (List Int), M.Pairwise (· < ·) → (∀ p, p ∈ M ↔ p ∈ L) → Q (M.map itD) h1
  | none => False
theorem MonoA.ssetT {t : A3} (mt : MonoA t) : MonoA (tSSetT t) := fun ρ h Q Q' w q => mt _ _ _ _ (fun xs h1 q1 => by
  split at q1
  · exact ⟨q1.1, q1.2.1, fun ms h1 h2 => w _ _ (q1.2.2 ms h1 h2)⟩
  · exact q1) q
theorem rel_its {K : PySem.W.Frag} {m : List Addr} {H : Hp} : ∀ {L : List (List Int)} {vs : List V}, RelDs K m H (L.map itD) vs → ∃ ks : List (Addr × List Int), vs = ks.map (fun p => V.ref p.1) ∧ ks.map (·.2) = L ∧ ∀ p ∈ ks, TupA H p.1 (p.2.map V.int)
  | [], _, .nil => ⟨[], rfl, rfl, fun _ h => nomatch h⟩
  | p :: L, _, .cons (.tup (a := a) sq rr) t => by
    obtain ⟨ks, e1, e2, e3⟩ := rel_its t
    have e4 := RelDs.ints (ns := p) rr
    refine ⟨(a, p) :: ks, by rw [e1]; rfl, by rw [List.map_cons, e2], fun q hq => ?_⟩
    rcases List.mem_cons.mp hq with rfl | hq
    · rw [← e4]; exact sq
    · exact e3 q hq
theorem rel_ints {K : PySem.W.Frag} {m : List Addr} {H : Hp} : ∀ ns : List Int, RelDs K m H (ns.map D.int) (ns.map V.int)
  | [] => .nil
  | n :: ns => .cons (.int n) (rel_ints ns)
theorem rel_itD {K : PySem.W.Frag} {m : List Addr} {H : Hp} : ∀ (L : List (Addr × List Int)), (∀ q ∈ L, TupA H q.1 (q.2.map V.int)) → RelDs K m H ((L.map (·.2)).map itD) (L.map fun q => V.ref q.1)
  | [], _ => .nil
  | q :: L, h => .cons (.tup (h q List.mem_cons_self) (rel_ints q.2)) (rel_itD L fun r hr => h r (List.mem_cons_of_mem _ hr))
theorem ssetT_core {K : PySem.W.Frag} {P : Program} {w : World} {m m1 : List Addr} {H H1 : Hp} {h1 : Sto} {l : Addr} {xs : List D} {vs : List V} {Q : VK} (s1 : Step m H m1 H1) (R1 : Rep K m1 h1 H1) (sq : SqL K H1 l vs) (rs : RelDs K m1 H1 xs vs)
    (q : match itsOf xs with
      | some L => L.length < 64 ∧ (∀ p ∈ L, p ≠ []) ∧ ∀ M : List (List Int), M.Pairwise (· < ·) → (∀ p, p ∈ M ↔ p ∈ L) → UpX K m H Q (M.map itD) h1
      | none => False) : rSetOfT K P w [.ref l] H1 fun x H2 => rSortedTD K P w [x] H2 Q := by
  split at q
  next L e =>
    have e1 := itsOf_eq e
    subst e1
    obtain ⟨ks, ek, en, hk⟩ := rel_its rs
    have hlen : ks.length = L.length := by rw [← en, List.length_map]
    refine ⟨l, ks, rfl, by rw [← ek]; exact sq, fun p hp => TH (hk p hp), by rw [hlen]; exact q.1, fun a L1 ha h1' h2 => ⟨a, L1, rfl, upd_same, fun p hp => SqT.step R1 (Step.lay ha) (TH (hk p (h1' p hp))), fun p hp => ?_, fun L' p pm nd pw hp => ?_⟩⟩
    · exact q.2.1 _ (by rw [← en]; exact List.mem_map_of_mem (h1' p hp))
    · have hin : ∀ r ∈ L', r ∈ ks := fun r hr => h1' r (pm.mem_iff.mp hr)
      refine UpX.laid (R1.lay ha) (rel_itD L' fun r hr => TupA.step R1 (Step.lay ha) (hk r (hin r hr))) ?_ p hp
      refine UpX.step (s1.trans (Step.lay ha)) (R1.lay ha) (q.2.2 _ ?_ fun r => ?_)
      · rw [List.pairwise_map]
        have nd' : L'.Pairwise (fun a b => a.2 ≠ b.2) := List.pairwise_map.mp nd
        refine (pw.and nd').imp fun {u v} ⟨h3, h4⟩ => ?_
        rcases List.le_iff_lt_or_eq.mp h3 with h5 | h5
        · exact h5
        · exact absurd h5 h4
      · constructor
        · intro hr
          obtain ⟨u, hu, rfl⟩ := List.mem_map.mp hr
          rw [← en]
          exact List.mem_map_of_mem (hin u hu)
        · intro hr
          rw [← en] at hr
          obtain ⟨u, hu, rfl⟩ := List.mem_map.mp hr
          obtain ⟨v, hv, ev⟩ := List.mem_map.mp (h2 u hu)
          exact List.mem_map.mpr ⟨v, pm.mem_iff.mpr hv, ev⟩
  next => exact q.elim
theorem x3_ssetT {e : Expr} {t : A3} {p pos p2 pos2 : Pos} (hc : X.calm = true) (hu : X.A.units + 64 < cLine) (hm : X.mg "sorted" = none) (hm2 : X.mg "set" = none) (ha : PX3 X e t) (hg : Gl X "sorted" := by rfl) (hg2 : Gl X "set" := by rfl)
    (he : starEach [e] X.env = (false, eval e X.env) :: starEach [] X.env := by rfl) (hpl : (backTo pos2 (starEach [] X.env)).any (·.1) = false := by rfl)
    (he2 : starEach [.Call (.Name "set" p2) [e] [] pos2] X.env = (false, eval (.Call (.Name "set" p2) [e] [] pos2) X.env) :: starEach [] X.env := by rfl) (hpl2 : (backTo pos (starEach [] X.env)).any (·.1) = false := by rfl) :
    PX3 X (.Call (.Name "sorted" p) [.Call (.Name "set" p2) [e] [] pos2] [] pos) (tSSetT t) := by
  refine ⟨PE.weak (pe_callB (cr_sortedTD hc hu) hg hm (by decide +kernel) (pa_cons (pe_callTy (cr_setOfT hc hu) hg2 hm2 (by decide +kernel) (pa_cons ha.pe pa_nil he) (by decide) (by decide) he hpl) pa_nil he2) (by decide) (by decide) he2 hpl2) fun σ H Q ⟨m, h, ρ, R, S, q⟩ => ?_, .ssetT ha.mono⟩
  refine LX.bind ha.mono R S q fun m1 H1 a vs xs h1 s1 R1 ea na hm rs S1 q1 => ?_
  exact ssetT_core s1 R1 (.inl (.inl ea)) rs q1
end
/-! rows for the simplifier -/
section
variable {ρ : S3} {h : Sto} {Q : DK} {n : Nat} {y z : D}
theorem itsOf_itD (L : List (List Int)) : itsOf (L.map itD) = some L := itsOf_map L
end
end F3
set_option maxHeartbeats 400000
/-! FZ: head-first rows of FX and FY. -/
namespace F3
open PySem PySem.Spec PyProof.Rows L2
section
variable {ρ : S3} {h : Sto} {Q : DK} {n i : Nat} {d x y z : D} {kvs : List (List Key × D)} {E : Ends3}
theorem tDNewT3_q : tDNewT3 ρ h Q = Q (.ref h.length) (h ++ [.dT []]) := id rfl
theorem dgA_q : dgA (.ref n) y h Q = onO (dvC h[n]? y) fun d => Q d h := id rfl
def onG (o : Option (Option D)) (q : Option D → Prop) (_ : Tag q := ⟨⟩) : Prop := match o with
  | some o => q o
  | none => False
theorem onG_q {o : Option D} {q : Option D → Prop} : onG (some o) q = q o := id rfl
def dg2 (ty tx : E3) (ρ : S3) (h1 : Sto) (Q : DK) (x : D) : Prop := match x with
  | .ref n => isDC h1[n]? = true ∧ ty ρ h1 fun y h2 => tx ρ h2 fun z h3 => onG (dvC h3[n]? y) fun o => Q (o.getD z) h3
  | _ => False
theorem tDG2_q {td ty tx : E3} : tDG2 td ty tx ρ h Q = td ρ h fun x h1 => dg2 ty tx ρ h1 Q x := id rfl
theorem dg2_q {ty tx : E3} : dg2 ty tx ρ h Q (.ref n) = (isDC h[n]? = true ∧ ty ρ h fun y h2 => tx ρ h2 fun z h3 => onG (dvC h3[n]? y) fun o => Q (o.getD z) h3) := id rfl
theorem isDC_T : isDC (some (.dT kvs)) = true := id rfl
def onDT (o : Option Cell) (q : List (List Key × D) → Prop) (_ : Tag q := ⟨⟩) : Prop := match o with
  | some (.dT kvs) => q kvs
  | _ => False
theorem onDT_q {q : List (List Key × D) → Prop} : onDT (some (.dT kvs)) q = q kvs := id rfl
def onKT (o : Option (List Key)) (q : List Key → Prop) (_ : Tag q := ⟨⟩) : Prop := match o with
  | some k => q k
  | none => False
theorem onKT_q {k : List Key} {q : List Key → Prop} : onKT (some k) q = q k := id rfl
def dpT (E : Ends3) (ρ : S3) (v x y : D) (h : Sto) : Prop := match x with
  | .ref n => onDT h[n]? fun kvs => onKT (keyT y) fun k => kvs.length < 16777216 ∧ E.nx ρ (h.set n (.dT (putD kvs k v)))
  | _ => False
theorem cDPutT_q {td ti tv : E3} : cDPutT td ti tv E ρ h = tv ρ h fun v h1 => td ρ h1 fun x h2 => ti ρ h2 fun y h3 => dpT E ρ v x y h3 := id rfl
theorem dpT_q : dpT E ρ d (.ref n) y h = onDT h[n]? fun kvs => onKT (keyT y) fun k => kvs.length < 16777216 ∧ E.nx ρ (h.set n (.dT (putD kvs k d))) := id rfl
theorem keyT_ints {ns : List Int} (h3 : ns.length ≠ 3) : keyT (.tup (ns.map .int)) = some (ns.map Sum.inl) := by
  show (if (ns.map D.int).length = 3 then none else keysD (ns.map D.int)) = _
  rw [if_neg (by rw [List.length_map]; exact h3)]
  exact keysD_int ns
theorem dvC_T {ns : List Int} (h3 : ns.length ≠ 3) : dvC (some (.dT kvs)) (.tup (ns.map .int)) = some (valD kvs (ns.map Sum.inl)) := by
  simp [dvC, keyT_ints h3]
theorem dvC_zT {o : Obj} {ws : List (List Key × V)} {ns : List Int} (h3 : ns.length ≠ 3) : dvC (some (.zT o ws kvs)) (.tup (ns.map .int)) = some (valD kvs (ns.map Sum.inl)) := by
  simp [dvC, keyT_ints h3]
def lkD (t : A3) (ρ : S3) (h : Sto) (Q : List D → Sto → Prop) (x : D) : Prop := match x with
  | .ref n => match h[n]? with
    | some (.dT kvs) => ∀ o ws, t ρ (h.set n (.zT o ws kvs)) fun xs h' => h'[n]? = some (.zT o ws kvs) ∧ Q xs (h'.set n (.dT kvs))
    | some (.dK kvs) => ∀ o ws, t ρ (h.set n (.zK o ws kvs)) fun xs h' => h'[n]? = some (.zK o ws kvs) ∧ Q xs (h'.set n (.dK kvs))
    | _ => False
  | _ => False
theorem lkX_q {t : A3} {Q : List D → Sto → Prop} : lkX i t ρ h Q = onO ρ[i]? fun x => lkD t ρ h Q x := by
  unfold lkX onO
  cases ρ[i]? with
  | none => rfl
  | some o => cases o with
    | none => rfl
    | some d => cases d <;> rfl
theorem lkD_T {t : A3} {Q : List D → Sto → Prop} (e : h[n]? = some (.dT kvs)) : lkD t ρ h Q (.ref n) = ∀ o ws, t ρ (h.set n (.zT o ws kvs)) fun xs h' => h'[n]? = some (.zT o ws kvs) ∧ Q xs (h'.set n (.dT kvs)) := by
  simp only [lkD, e]
def ikD (h : Sto) (Q : List D → (Sto → Prop) → Sto → Prop) (x : D) : Prop := match x with
  | .ref n => match h[n]? with
    | some (.zT o ws kvs) => (∀ kv ∈ kvs, kv.1.length ≠ 3) ∧ Q (kvs.map fun kv => .tup (kv.1.map kD)) (fun h' => h'[n]? = some (.zT o ws kvs)) h
    | some (.zK o ws kvs) => Q (kvs.map fun kv => kD kv.1) (fun h' => h'[n]? = some (.zK o ws kvs)) h
    | _ => False
  | _ => False
theorem iKeys3_q {t : E3} {Q : List D → (Sto → Prop) → Sto → Prop} : iKeys3 t ρ h Q = t ρ h fun x h1 => ikD h1 Q x := id rfl
theorem ikD_T {o : Obj} {ws : List (List Key × V)} {Q : List D → (Sto → Prop) → Sto → Prop} (e : h[n]? = some (.zT o ws kvs)) : ikD h Q (.ref n) = ((∀ kv ∈ kvs, kv.1.length ≠ 3) ∧ Q (kvs.map fun kv => .tup (kv.1.map kD)) (fun h' => h'[n]? = some (.zT o ws kvs)) h) := by
  simp only [ikD, e]
def onIt (o : Option (List (List Int))) (q : List (List Int) → Prop) (_ : Tag q := ⟨⟩) : Prop := match o with
  | some k => q k
  | none => False
theorem onIt_q {k : List (List Int)} {q : List (List Int) → Prop} : onIt (some k) q = q k := id rfl
theorem tSSetT_q {t : A3} {Q : List D → Sto → Prop} : tSSetT t ρ h Q = t ρ h fun xs h1 => onIt (itsOf xs) fun L => L.length < 64 ∧ (∀ p ∈ L, p ≠ []) ∧ ∀ M : List (List Int), M.Pairwise (· < ·) → (∀ p, p ∈ M ↔ p ∈ L) → Q (M.map itD) h1 := id rfl
theorem tL3_G {t : A3} {Q : List D → Sto → Prop} : tL3 srtG t ρ h Q = t ρ h fun xs h1 => srtG xs h1 Q := id rfl
end
end F3
set_option maxHeartbeats 1000000
/-! RB: raise that is never reached, d.setdefault(k, x), sorted(d) of int keys. -/
namespace F3
open PySem PySem.Spec PyProof.Rows L2
/-- a statement that is not reached -/
def cOff : C3 := fun _ _ _ => False
theorem c3_off {X : Cx} {st : Stmt} : PC3 X st cOff := ⟨⟨fun pins s σ H D I ⟨m, h, ρ, R, S, q⟩ => q.elim⟩, fun D D' ρ h w q => q⟩
/-- d.setdefault(k, x) -/
def dsetR (n : Nat) (y z : D) (h : Sto) (Q : DK) : Prop := match h[n]? with
  | some (.dK kvs) => match keyD y with
    | some k => kvs.length < 16777216 ∧ match valD kvs k with
      | some d => Q d h
      | none => Q z (h.set n (.dK (putD kvs k z)))
    | none => False
  | _ => False
def isDk (x : D) (h : Sto) : Prop := ∃ n kvs, x = .ref n ∧ h[n]? = some (.dK kvs)
def tDSetd3 (td ty tx : E3) : E3 := fun ρ h Q => td ρ h fun x h1 => isDk x h1 ∧ ty ρ h1 fun y h2 => tx ρ h2 fun z h3 => match x with
  | .ref n => dsetR n y z h3 Q
  | _ => False
section
variable {X : Cx}
theorem e3_dsetd {o e f : Expr} {td ty tx : E3} {apos cpos : Pos} (ho : PE3 X o td) (he : PE3 X e ty) (hf : PE3 X f tx) (m : M2 X o "setdefault" apos e f cpos) : PE3 X (.Call (.Attribute o "setdefault" apos) [e, f] [] cpos) (tDSetd3 td ty tx) := by
  refine ⟨PE.weak (pe_dsetd ho.pe he.pe hf.pe m) fun σ H Q ⟨m0, h, ρ, R, S, q⟩ => ?_, fun ρ h Q Q' w q => ho.mono _ _ _ _ (fun x h1 q1 => ⟨q1.1, he.mono _ _ _ _ (fun y h2 q2 => hf.mono _ _ _ _ (fun z h3 q3 => ?_) q2) q1.2⟩) q⟩
  · refine LE.bind ho.mono R S q fun m1 H1 v x h1 s1 R1 rx S1 q1 => ?_
    obtain ⟨⟨n, kvs0, rfl, e0⟩, q1⟩ := q1
    obtain ⟨a, vs0, rfl, em0, ea0, _⟩ := R1.dk rx e0
    refine ⟨a, rfl, .inl ⟨vs0, .inl ea0⟩, ?_⟩
    refine LE.bind he.mono R1 S1 q1 fun m2 H2 u y h2 s2 R2 ry S2 q2 => ?_
    refine LE.bind hf.mono R2 S2 q2 fun m3 H3 w z h3 s3 R3 rz S3 q3 => ?_
    have rx3 := (rx.step R1 s2).step R2 s3
    have q3 : dsetR n y z h3 (Up X.K m0 H Q) := q3
    unfold dsetR at q3
    split at q3
    next kvs e1 =>
      split at q3
      next k ek =>
        obtain ⟨a', vs, ea', em, ea, rk⟩ := R3.dk rx3 e1
        have : a = a' := by injection ea'
        subst this
        have hm : a ∈ m3 := List.mem_of_getElem? em
        have st := (s1.trans s2).trans s3
        refine ⟨vs, k, ea, keyD_rel (ry.step R2 s3) ek, by rw [rk.len, sizeLine_eq]; exact q3.1, fun v hv => ?_, fun hv => ?_⟩
        · rcases rk.val k with ⟨_, z2⟩ | ⟨d, v', z1, z2, z3⟩
          · rw [z2] at hv; cases hv
          · rw [z2] at hv; cases hv
            have q4 := q3.2
            rw [z1] at q4
            exact q4 m3 H3 v st R3 z3
        · rcases rk.val k with ⟨z1, _⟩ | ⟨d, v', z1, z2, z3⟩
          · have q4 := q3.2
            rw [z1] at q4
            have rp := (rk.put k rz).step R3 (Step.put (o := .dK (putK vs k w)) hm)
            exact q4 m3 _ w (st.trans (Step.put hm)) (R3.put em ⟨_, upd_same, rp.keys, rp.vals⟩) (rz.step R3 (Step.put hm))
          · rw [z2] at hv; cases hv
      next => exact q3.elim
    next => exact q3.elim
  · split at q3
    · unfold dsetR at q3 ⊢
      split at q3
      · split at q3
        · refine ⟨q3.1, ?_⟩
          have q4 := q3.2
          split at q4
          · exact w _ _ q4
          · exact w _ _ q4
        · exact q3.elim
      · exact q3.elim
    · exact q3.elim
/-! sorted(d) -/
def rSortedDk : List V → Hp → VK → Prop := fun xs H Q => ∃ (a : Addr) (kvs : List (Key × V)) (ks : List Int), xs = [.ref a] ∧ Rd H a (.dK kvs) ∧ kvs.map (·.1) = ks.map Sum.inl ∧ ks.length ≤ 16777216 ∧
    ∀ (ys : List Int) (p : Addr), ys.Perm ks → ys.Pairwise (· ≤ ·) → H p = none → Q (.ref p) (upd H p (.lst (ys.map V.int)))
theorem call_sortedDk (calm : X.calm = true) : CallR X (.builtin "sorted") rSortedDk := by
  intro pins s σ H xs us Q I r q
  obtain ⟨a, kvs, ks, rfl, hd, hks, hsz, q⟩ := q
  obtain ⟨u, rfl, rx⟩ := vals1 r
  cases rx
  obtain ⟨z, lo, vs, rel, dd⟩ := dk_rd I.hok hd
  obtain ⟨ep, hat⟩ := dd.dictAt
  have keysE : vs.map (·.1) = ks.map Sum.inl := rel.keys.symm.trans hks
  have lenE : vs.length = ks.length := by
    have := congrArg List.length keysE
    simpa using this
  have fits : vs.length ≤ sizeLine := by rw [lenE, sizeLine_eq]; exact hsz
  refine Calls.call_function_entry PyProof.Rows.kind_sorted PyProof.Rows.plain_sorted PyProof.Rows.entry_sorted (PyProof.Rows.args_sorted1 _) ?_
  unfold Builtin.«sorted»
  refine wpAny_bind (m := checkCount "sorted" 1 1 _) (wpAny_pure (wpAny_bind (PySem.W.kdu_collect (A := X.A.in1) (PySem.W.kdl_dict (knd := mixKind X.prog X.w) (kvs := vs) (ep := ep) lo) (I.ok.hd calm) hat fits fun hp tk got hk hgot => ?_)))
  have lenG : got.toList.length = ks.length := by rw [Array.length_toList, hgot.1, lenE]
  have itsG : IntsAre got.toList ks := ints_each lenG fun j v e => by
    obtain ⟨k, x, e1, e2⟩ := hgot.2 j v (by rw [← Array.getElem?_toList]; exact e)
    have e3 : (ks.map (Sum.inl : Int → Key))[j]? = some k := by rw [← keysE, List.getElem?_map, e1]; rfl
    rw [List.getElem?_map] at e3
    cases e4 : ks[j]? with
    | none => rw [e4] at e3; cases e3
    | some y =>
      rw [e4] at e3
      have e5 : Sum.inl y = k := Option.some.inj e3
      subst e5
      rcases keyIs_shape (show keyIs (Sum.inl y) v = true from e2) with ⟨i, t, ek, ev⟩ | ⟨w, t, ek, ev⟩
      · cases ek; exact ⟨y, t, rfl, ev⟩
      · cases ek
  have I1 : Inv X pins σ H { s with heap := hp, toks := tk } := I.kept hk
  have gz : got.toList.length ≤ sizeLine := by rw [lenG, sizeLine_eq]; exact hsz
  refine wpAny_bind (wpAny_newList ?_ gz)
  have ob : (hp.push (seqObj "list" got.toList.toArray 0)).get? hp.objs.size = some (seqObj "list" got.toList.toArray 0) := Heap.get?_push_size _ rfl
  show wpAny _ _ _ _ _ { s with heap := hp.push (seqObj "list" got.toList.toArray 0), toks := tk }
  refine wpAny_bind (wpAny_holding (wpAny_call_entry PyProof.Rows.slot_list_sort ⟨_, ob, rfl⟩ PyProof.Rows.entry_list_sort
    (SrtO.list_sort_ord (s := { s with heap := hp.push (seqObj "list" got.toList.toArray 0), toks := tk }) SrtO.swo_int ob gz (fun h2 => SrtO.ints_sortable itsG h2) fun out h1 h2 => ⟨_, rfl, ?_⟩) (PyProof.Rows.args_list_sort _)))
  obtain ⟨k1, k2, k3⟩ := SrtO.ints_out itsG h1 h2
  obtain ⟨e', he'⟩ := PyProof.Rows.sortedHeap_at (vs := got.toList) (out := out.toArray) ob
  have lenO : ((out.map SrtO.iv).map V.int).length ≤ sizeLine := by
    rw [List.length_map, k2.length_eq, sizeLine_eq]; exact hsz
  refine wpAny_pure ⟨_, rfl, .ref hp.objs.size, upd H hp.objs.size (.lst ((out.map SrtO.iv).map V.int)), I1.laid (t' := tk) (fun b u e => ?_) (Nat.le_refl _)
    (show ObjOk X.prog X.w _ _ _ (.lst ((out.map SrtO.iv).map V.int)) from ⟨lenO, out, e', vals_of_ints k1, he'⟩), rfl, q _ _ k2 k3 (I1.hok.fresh (Nat.le_refl _))⟩
  have hb : b < hp.objs.size := Heap.lt_size e
  rw [PyProof.Rows.sortedHeap_old (Nat.ne_of_lt hb) (by rw [size_push']; exact Nat.lt_succ_of_lt hb)]
  exact Heap.get?_push_of_some _ e
/-- the int keys of a dict, sorted -/
def srtK : M3 := fun xs h Q => ∃ (n : Nat) (kvs : List (Key × D)) (ks : List Int), xs = [.ref n] ∧ h[n]? = some (.dK kvs) ∧ kvs.map (·.1) = ks.map Sum.inl ∧ ks.length ≤ 16777216 ∧ ∀ ys : List Int, ys.Perm ks → ys.Pairwise (· ≤ ·) → Q (ys.map .int) h
theorem kl_sortedDk (calm : X.calm = true) : CallL3 X (.builtin "sorted") srtK := by
  refine ⟨fun xs h Q Q' w q => ?_, _, call_sortedDk calm, fun m h H xs vs Q R rs q => ?_⟩
  · obtain ⟨n, kvs, ks, e1, e2, e3, e4, q⟩ := q
    exact ⟨n, kvs, ks, e1, e2, e3, e4, fun ys h1 h2 => w _ _ (q ys h1 h2)⟩
  · obtain ⟨n, kvs, ks, rfl, e2, e3, e4, q⟩ := q
    match vs, rs with
    | [v], .cons r .nil =>
      obtain ⟨a, us, rfl, em, ea, rk⟩ := R.dk r e2
      refine ⟨a, us, ks, rfl, .inl ea, rk.keys.trans e3, e4, fun ys p h1 h2 hp => ?_⟩
      exact UpX.laid R (rel_ints ys) (q ys h1 h2) p hp
end
end F3
/-! HX: refusals: raise, calls that may raise, try .. except .. as e. -/
namespace F3
open PySem PySem.Spec PyProof.Rows L2
/-- the plain name of a refusal, its slots, its store -/
abbrev X4 := String → S3 → Sto → Prop
def xV (E : String → Sto → Prop) : X3 := fun v h => ∃ c, v = .type c ∧ E c h
/-- the wish of a context, of plain names -/
def UpW (K : PySem.W.Frag) (bk : String → Addr) (m : List Addr) (H : Hp) (W : WX) : X4 := fun c ρ h' => ∀ m' H' σ', Step m H m' H' → Rep K m' h' H' → RelS K m' H' ρ σ' → W (.ref (bk c)) none σ' H'
def UpEx (K : PySem.W.Frag) (bk : String → Addr) (m : List Addr) (H : Hp) (E : XK) : X3 := xV fun c h' => ∀ m' H', Step m H m' H' → Rep K m' h' H' → E (.ref (bk c)) none H'
def LSpX (K : PySem.W.Frag) (bk : String → Addr) (sp : Sp3) : Sp := fun vs H Q E => ∃ m h ds, Rep K m h H ∧ RelDs K m H ds vs ∧ sp ds h (Up K m H Q) (UpEx K bk m H E)
def LCb (K : PySem.W.Frag) (m0 : List Addr) (H0 : Hp) (t : C3) : TS := fun D σ H => ∃ m h ρ, Step m0 H0 m H ∧ Rep K m h H ∧ RelS K m H ρ σ ∧ t (UpC K m H D) ρ h
def LEb (K : PySem.W.Frag) (m0 : List Addr) (H0 : Hp) (t : E3) : TE := fun σ H Q => ∃ m h ρ, Step m0 H0 m H ∧ Rep K m h H ∧ RelS K m H ρ σ ∧ t ρ h (Up K m H Q)
structure PEb (X : Cx) (m0 : List Addr) (H0 : Hp) (e : Expr) (t : E3) : Prop where
  pe : PE X e (LEb X.K m0 H0 t)
  mono : MonoE t
structure PCb (X : Cx) (m0 : List Addr) (H0 : Hp) (st : Stmt) (t : C3) : Prop where
  pe : PS X st (LCb X.K m0 H0 t)
  mono : MonoC t
structure PCsb (X : Cx) (m0 : List Addr) (H0 : Hp) (st : List Stmt) (t : C3) : Prop where
  pe : PSs X st (LCb X.K m0 H0 t)
  mono : MonoC t
section
variable {X : Cx} {m0 : List Addr} {H0 : Hp} {st : Stmt} {rest : List Stmt} {t u : C3} {e : Expr} {te : E3} {pos : Pos}
theorem PC3.b (h : PC3 X st t) : PCb X m0 H0 st t := ⟨PS.weak h.pe fun D σ H ⟨m, h, ρ, _, R, S, q⟩ => ⟨m, h, ρ, R, S, q⟩, h.mono⟩
theorem PCs3.b (h : PCs3 X rest t) : PCsb X m0 H0 rest t := ⟨PSs.weak h.pe fun D σ H ⟨m, h, ρ, _, R, S, q⟩ => ⟨m, h, ρ, R, S, q⟩, h.mono⟩
theorem PE3.b (h : PE3 X e te) : PEb X m0 H0 e te := ⟨PE.weak h.pe fun D σ H ⟨m, h, ρ, _, R, S, q⟩ => ⟨m, h, ρ, R, S, q⟩, h.mono⟩
theorem csb_cons (h1 : PCb X m0 H0 st t) (h2 : PCsb X m0 H0 rest u) : PCsb X m0 H0 (st :: rest) (cSeq t u) := by
  refine ⟨PSs.weak (pss_cons h1.pe h2.pe) fun D σ H ⟨m, h, ρ, s0, R, S, q⟩ => ?_, h1.mono.seq h2.mono⟩
  refine ⟨m, h, ρ, s0, R, S, h1.mono { UpC X.K m H D with nx := u (UpC X.K m H D) } _ _ _ ⟨fun ρ' h' q m' H' σ' s R' S' => ?_, fun _ _ q => q, fun _ _ q => q, fun _ _ q => q⟩ q⟩
  exact ⟨m', h', ρ', s0.trans s, R', S', h2.mono _ _ _ _ (UpC.step s) q⟩
theorem csb_one (h1 : PCb X m0 H0 st t) : PCsb X m0 H0 [st] t := ⟨pss_one h1.pe, h1.mono⟩
theorem cb_expr (he : PEb X m0 H0 e te) (hs : swapsWith e none pos.line X.env = pure false := by rfl) : PCb X m0 H0 (.Expr e pos) (cDrop te) := by
  refine ⟨PS.weak (ps_expr he.pe hs) fun D σ H ⟨m, h, ρ, s0, R, S, q⟩ => ?_, fun D D' ρ h w q => he.mono _ _ _ _ (fun _ _ q => w.nx _ _ q) q⟩
  exact ⟨m, h, ρ, s0, R, S, he.mono _ _ _ _ (fun d h' q1 m1 H1 v s1 R1 rx => q1 m1 H1 σ s1 R1 (S.step R s1)) q⟩
theorem cb_ret (he : PEb X m0 H0 e te) : PCb X m0 H0 (.Return (some e) pos) (cRet te) := by
  refine ⟨PS.weak (ps_ret he.pe) fun D σ H ⟨m, h, ρ, s0, R, S, q⟩ => ?_, fun D D' ρ h w q => he.mono _ _ _ _ (fun _ _ q => w.rt _ _ q) q⟩
  exact ⟨m, h, ρ, s0, R, S, q⟩
theorem cb_set (i : Nat) {x : Str} {pos' : Pos} (hN : X.N.Nodup) (he : PEb X m0 H0 e te) (hi : X.N[i]? = some x := by rfl) (hx : Loc X.env.scope x := by first | exact Or.inl rfl | exact Or.inr rfl) (hs : swapsWith e (some (.Name x pos')) pos.line X.env = pure false := by rfl)
    (hf : X.fn x = true ∨ X.env.scope.names.lookup x = some .local := by first | exact .inl rfl | exact .inr rfl | assumption) : PCb X m0 H0 (.Assign [.Name x pos'] e pos) (cAsg te (gN i)) := by
  refine ⟨PS.weak (ps_set hN hi hx he.pe hs hf) fun D σ H ⟨m, h, ρ, s0, R, S, q⟩ => ?_, fun D D' ρ h w q => he.mono _ _ _ _ (fun _ _ q => w.nx _ _ q) q⟩
  exact ⟨m, h, ρ, s0, R, S, he.mono _ _ _ _ (fun d h' q1 m1 H1 v s1 R1 rx => q1 m1 H1 _ s1 R1 ((S.step R s1).set rx i)) q⟩
theorem cb_if {c : Expr} {a b : List Stmt} {tc : B3} (hc : PB3 X c tc) (ha : PCsb X m0 H0 a t) (hb : PCsb X m0 H0 b u) : PCb X m0 H0 (.If c a b pos) (cIf tc t u) := by
  refine ⟨PS.weak (ps_if hc.pe ha.pe hb.pe) fun D σ H ⟨m, h, ρ, s0, R, S, q⟩ => ?_, fun D D' ρ h w q => hc.mono _ _ _ _ (fun b h1 q => ?_) q⟩
  · refine LB.bind hc.mono R S q fun m1 H1 k h1 s1 R1 S1 q1 => ?_
    cases k with
    | true => rw [if_pos rfl] at q1 ⊢; exact ⟨m1, h1, ρ, s0.trans s1, R1, S1, ha.mono _ _ _ _ (UpC.step s1) q1⟩
    | false => rw [if_neg Bool.false_ne_true] at q1 ⊢; exact ⟨m1, h1, ρ, s0.trans s1, R1, S1, hb.mono _ _ _ _ (UpC.step s1) q1⟩
  · cases b with
    | true => rw [if_pos rfl] at q ⊢; exact ha.mono _ _ _ _ w q
    | false => rw [if_neg Bool.false_ne_true] at q ⊢; exact hb.mono _ _ _ _ w q
end
/-- what is known of the classes of refusals -/
structure OwnE (K : PySem.W.Frag) (bmB : List Value) (newId : String) (C : Addr) : Prop where
  ex : PySem.W.excIn K C bmB newId = true
  kp : PySem.W.keepIn K (.ref C) = true
  sb : PySem.W.subIn K (.ref C) (.type "BaseException") = some true
  ty : PySem.W.typeIn K (.ref C) = some (.type "type")
def cRz (E : X4) (c : String) : C3 := fun _ ρ h => E c ρ h
section
variable {X : Cx} {m0 : List Addr} {H0 : Hp} {W : WX} {E : X4} {bk : String → Addr}
theorem cb_raise (c : String) {x m : Str} {j : Nat} {p p2 pos pos2 : Pos} {bmB : List Value} {B newId initId : String} (hc : X.calm = true) (F : ExcBaseFacts B newId initId bmB) (o : OwnE X.K bmB newId (bk c)) (gC : X.mg x = some (.ref (bk c))) (tk : Takes X W) (hE : ∀ c ρ h', E c ρ h' → UpW X.K bk m0 H0 W c ρ h') (hg : Gl X x := by rfl)
    (hdb : (x == ("__debug__" : Str)) = false := by decide) : PCb X m0 H0 (.Raise (some (.Call (.Name x p) [.Constant (.str m) j p2] [] pos)) none pos2) (cRz E c) := by
  refine ⟨PS.weak (ps_raise hc tk (pmk_own F o.ex gC o.kp (raises_own o.sb o.ty) hg hdb)) fun D σ H ⟨m, h, ρ, s0, R, S, q⟩ => ?_, fun D D' ρ h w q => q⟩
  exact hE c ρ h q m H σ s0 R S
end
/-- a def that may refuse, by its promise -/
structure Fn3X (P : Program) (w : World) (K : PySem.W.Frag) (mg : Str → Option Value) (base : Heap) (bk : String → Addr) (x : Str) (k : Nat) (ps : List Str) (sp : Sp3) : Prop where
  ex : ∃ f fd, mg x = some (.ref f) ∧ PySem.W.keepIn K (.ref f) = true ∧ Binds K fd ps [] ∧ FnOk P w K mg base (L2.CX P w) k f fd ps (LSpX K bk sp)
  mono : MonoS sp
def tCallX (sp : Sp3) (E : X4) (ta : A3) : E3 := fun ρ h Q => ta ρ h fun ds h1 => sp ds h1 Q (xV fun c h2 => E c ρ h2)
section
variable {X : Cx} {m0 : List Addr} {H0 : Hp} {W : WX} {E : X4} {bk : String → Addr}
theorem eb_call {x : Str} {k n : Nat} {ps : List Str} {sp : Sp3} {e : Expr} {es : List Expr} {ta : A3} {p pos : Pos} (F : Fn3X X.prog X.w X.K X.mg X.base bk x k ps sp) (hr : Room n X.A) (tk : Takes X W) (hE : ∀ c ρ h', E c ρ h' → UpW X.K bk m0 H0 W c ρ h') (ha : PA3 X (e :: es) ta) (hk : k ≤ n := by decide) (hg : Gl X x := by rfl)
    (hdb : (x == ("__debug__" : Str)) = false := by decide) (he : starEach (e :: es) X.env = (false, eval e X.env) :: starEach es X.env := by rfl) (hpl : (backTo pos (starEach es X.env)).any (·.1) = false := by rfl) :
    PEb X m0 H0 (.Call (.Name x p) (e :: es) [] pos) (tCallX sp E ta) := by
  obtain ⟨f, fd, hm, kp, hb, F0⟩ := F.ex
  refine ⟨PE.weak (pe_callS F0 (hr.mono hk) hg hm kp hb (passAt tk) ha.pe hdb he hpl) fun σ H Q ⟨m, h, ρ, s0, R, S, q⟩ => ?_, fun ρ h Q Q' w q => ha.mono _ _ _ _ (fun ds h1 q1 => F.mono _ _ _ _ _ _ w (fun _ _ z => z) q1) q⟩
  refine LA.bind ha.mono R S q fun m1 H1 vs ds h1 s1 R1 rs S1 q1 => ?_
  refine ⟨m1, h1, ds, R1, rs, F.mono _ _ _ _ _ _ (fun d h' u => Up.step s1 u) (fun v h' ⟨c, ec, z⟩ => ⟨c, ec, fun m' H' s' R' => ?_⟩) q1⟩
  exact hE c ρ h' z m' H' σ (s0.trans (s1.trans s')) R' (S1.step R1 s')
/-- a call that refuses nothing here -/
theorem e3_callX {x : Str} {k n : Nat} {ps : List Str} {sp : Sp3} {e : Expr} {es : List Expr} {ta : A3} {p pos : Pos} (F : Fn3X X.prog X.w X.K X.mg X.base bk x k ps sp) (hr : Room n X.A) (ha : PA3 X (e :: es) ta) (hk : k ≤ n := by decide) (hg : Gl X x := by rfl)
    (hdb : (x == ("__debug__" : Str)) = false := by decide) (he : starEach (e :: es) X.env = (false, eval e X.env) :: starEach es X.env := by rfl) (hpl : (backTo pos (starEach es X.env)).any (·.1) = false := by rfl) :
    PE3 X (.Call (.Name x p) (e :: es) [] pos) (tCall3 sp ta) := by
  obtain ⟨f, fd, hm, kp, hb, F0⟩ := F.ex
  refine ⟨PE.weak (pe_call (E := fun _ _ _ => False) F0 (hr.mono hk) hg hm kp hb .nil (fun pins σ H s e s' I h => by obtain ⟨_, _, _, _, _, _, _, _, _, _, _, _, z⟩ := h; exact z.elim) ha.pe hdb he hpl) fun σ H Q ⟨m, h, ρ, R, S, q⟩ => ?_, fun ρ h Q Q' w q => ha.mono _ _ _ _ (fun ds h1 q1 => F.mono _ _ _ _ _ _ w (fun _ _ z => z) q1) q⟩
  refine LA.bind ha.mono R S q fun m1 H1 vs ds h1 s1 R1 rs S1 q1 => ?_
  rw [List.append_nil]
  exact ⟨m1, h1, ds, R1, rs, F.mono _ _ _ _ _ _ (fun d h' u => Up.step s1 u) (fun _ _ z => z.elim) q1⟩
end
/-- what is wanted of a refusal: of the store, made smaller as one likes -/
def GE (n : Nat) (E : X3) : X4 := fun c _ h => E (.type c) h ∨ ∃ h2, Gc n .non h .non h2 ∧ E (.type c) h2
section
variable {P : Program} {w : World} {K : PySem.W.Frag} {mg : Str → Option Value} {base : Heap} {bk : String → Addr}
theorem fn3X {x qual : Str} {st : Stmt} {f : Addr} {fd : FuncData} {N ps : List Str} {k : Nat} {sp : Sp3} {t : X4 → C3} (F : Fun K x qual st f fd) (S : FnScope N ps (defScope st)) (len : ∀ ds h Q E, sp ds h Q E → ds.length = ps.length)
    (dv : ∀ (cdv : Value) (A : Around) (outer : List Env) (s : Shared) (H : Hp) (E : XK) (m0 : List Addr) (E4 : X4), Room k (A.deeper (envOfC qual (defScope st) s.heap.objs.size f cdv)) →
      (∀ c ρ h', E4 c ρ h' → UpW K bk m0 H (fun cls d _ H' => E cls d H') c ρ h') → Takes (cxOf (L2.CX P w) P w K mg base N qual (defScope st) f cdv A outer s H E) (fun cls d _ H' => E cls d H') →
      PCsb (cxOf (L2.CX P w) P w K mg base N qual (defScope st) f cdv A outer s H E) m0 H (defBody st) (t E4))
    (rd : ∀ ds h Q E, ClS h.length h → ClDs h.length ds → sp ds h Q E → t (GE h.length E) (ends3 (GQ h.length Q)) (start3 N.length ds) h) : FnOk P w K mg base (L2.CX P w) (k + 1) f fd ps (LSpX K bk sp) := by
  refine F.okX S (fun vs H Q E ⟨m, h, ds, R, rs, q⟩ => by rw [← rs.length]; exact len _ _ _ _ q) fun cdv A outer s H vs Q E hr ⟨m, h, ds, R, rs, q⟩ => ?_
  have d := dv cdv A outer s H E m (GE h.length (UpEx K bk m H E)) hr (fun c ρ h' g => ?_) (takes_of rfl rfl rfl rfl)
  · refine ⟨_, d.pe, m, h, _, .refl, R, relS_start rs, d.mono (ends3 (GQ h.length (Up K m H Q))) _ _ _ ⟨fun ρ h' g => ?_, fun v h' g => ?_, fun _ _ z => z.elim, fun _ _ z => z.elim⟩ (rd ds h _ _ R.cl (by rw [← R.len]; exact rs.cl) q)⟩
    · intro m' H' σ' s' R' S'
      rcases g with g | ⟨d2, h2, gc, g⟩
      · exact g m' H' .non s' R' .non
      · obtain ⟨m2, s2, R2, r2⟩ := gc.lift R.len.symm s' R' .non
        exact g m2 H' .non s2 R2 r2
    · intro m' H' u s' R' ru
      rcases g with g | ⟨d2, h2, gc, g⟩
      · exact g m' H' u s' R' ru
      · obtain ⟨m2, s2, R2, r2⟩ := gc.lift R.len.symm s' R' ru
        exact g m2 H' u s2 R2 r2
  · intro m' H' σ' s' R' S'
    rcases g with ⟨c', ec, g⟩ | ⟨h2, gc, c', ec, g⟩
    · cases ec; exact g m' H' s' R'
    · cases ec
      obtain ⟨m2, s2, R2, r2⟩ := gc.lift R.len.symm s' R' .non
      exact g m2 H' s2 R2
end
end F3
/-! HY: try .. except .. as e, isinstance(e, ..). -/
namespace F3
open PySem PySem.Spec PyProof.Rows L2
def sufE (i : Nat) (D : Ends3) : Ends3 := ⟨fun ρ h => D.nx (ρ.set i none) h, D.rt, fun ρ h => D.bk (ρ.set i none) h, fun ρ h => D.ct (ρ.set i none) h⟩
def cTryE (rs : List String) (i : Nat) (tb : X4 → C3) (su : Addr → String → C3) : C3 := fun D ρ h => tb (fun c ρ' h' => c ∈ rs ∧ ∀ a, su a c (sufE i D) (ρ'.set i (some (.adr a))) h') D ρ h
/-- of a body: the wish about refusals may be weaker, too -/
def MonoX (t : X4 → C3) : Prop := ∀ (E E' : X4) D D' ρ h, (∀ c ρ h, E c ρ h → E' c ρ h) → EndsLe D D' → t E D ρ h → t E' D' ρ h
def MonoXE (t : X4 → E3) : Prop := ∀ (E E' : X4) ρ h (Q Q' : DK), (∀ c ρ h, E c ρ h → E' c ρ h) → (∀ d h', Q d h' → Q' d h') → t E ρ h Q → t E' ρ h Q'
theorem mx_call {sp : Sp3} {ta : A3} (ms : MonoS sp) (ma : MonoA ta) : MonoXE fun E => tCallX sp E ta := fun E E' ρ h Q Q' w w2 q => ma _ _ _ _ (fun ds h1 q1 => ms _ _ _ _ _ _ w2 (fun v h' ⟨c, e, z⟩ => ⟨c, e, w _ _ _ z⟩) q1) q
theorem mx_drop {t : X4 → E3} (mt : MonoXE t) : MonoX fun E => cDrop (t E) := fun E E' D D' ρ h w w2 q => mt _ _ _ _ _ _ w (fun _ _ q => w2.nx _ _ q) q
theorem mx_ret {t : X4 → E3} (mt : MonoXE t) : MonoX fun E => cRet (t E) := fun E E' D D' ρ h w w2 q => mt _ _ _ _ _ _ w (fun _ _ q => w2.rt _ _ q) q
theorem mx_set {t : X4 → E3} {i : Nat} (mt : MonoXE t) : MonoX fun E => cAsg (t E) (gN i) := fun E E' D D' ρ h w w2 q => mt _ _ _ _ _ _ w (fun _ _ q => w2.nx _ _ q) q
theorem mx_k {t : C3} (mt : MonoC t) : MonoX fun _ => t := fun E E' D D' ρ h w w2 q => mt _ _ _ _ w2 q
theorem mx_seq {t u : X4 → C3} (mt : MonoX t) (mu : MonoX u) : MonoX fun E => cSeq (t E) (u E) := fun E E' D D' ρ h w w2 q => mt E E' { D with nx := u E D } { D' with nx := u E' D' } _ _ w ⟨fun ρ h q => mu _ _ _ _ _ _ w w2 q, w2.rt, w2.bk, w2.ct⟩ q
theorem mx_if {tc : B3} {t u : X4 → C3} (mc : MonoB tc) (mt : MonoX t) (mu : MonoX u) : MonoX fun E => cIf tc (t E) (u E) := fun E E' D D' ρ h w w2 q => mc _ _ _ _ (fun b h1 q => by
  cases b with
  | true => rw [if_pos rfl] at q ⊢; exact mt _ _ _ _ _ _ w w2 q
  | false => rw [if_neg Bool.false_ne_true] at q ⊢; exact mu _ _ _ _ _ _ w w2 q) q
theorem RelS.unset {K : PySem.W.Frag} {m : List Addr} {H : Hp} {ρ : S3} {σ : L2.St} (r : RelS K m H ρ σ) (i : Nat) : RelS K m H (ρ.set i none) (σ.set i none) := by
  refine ⟨by simpa using r.1, fun j e hj => ?_⟩
  by_cases hij : i = j
  · subst hij
    have hl : i < ρ.length := by
      have := (List.getElem?_eq_some_iff.mp hj).1
      simpa using this
    rw [List.getElem?_set_self hl] at hj
    cases hj
  · rw [List.getElem?_set_ne hij] at hj ⊢
    exact r.2 j e hj
section
variable {X : Cx} {bk : String → Addr}
theorem c3_try {rs : List String} {i : Nat} {x n : Str} {C : Addr} {body suite : List Stmt} {b₀ : Stmt} {np pos pos' : Pos} {tb : X4 → C3} {su : Addr → String → C3} (hN : X.N.Nodup) (hc : Names X x (.ref C)) (ctch : ∀ c ∈ rs, PySem.W.exmOne X.K (.ref (bk c)) (.ref C) = some true)
    (hb : ∀ (W : WX) (pn : List (Addr × Obj)) (xe : Value → Shared → Prop) (m0 : List Addr) (H0 : Hp) (E4 : X4), Takes (X.tr pn xe) W → PassesOwn (model X.prog X.w) X.A X.env xe → (∀ c ρ h', E4 c ρ h' → UpW X.K bk m0 H0 W c ρ h') → PCsb (X.tr pn xe) m0 H0 body (tb E4))
    (mb : MonoX tb)
    (hsu : ∀ (a : Addr) (oe : Obj) (c : String) (pn : List (Addr × Obj)), c ∈ rs → Zc (.ref (bk c)) none oe → (∃ vs, oe.data = .fields vs) → PCs3 (X.suite a ((a, oe) :: pn)) (b₀ :: suite) (su a c))
    (hs : X.stack = X.env :: X.outer := by rfl) (hf : X.env.frame = some X.env.locals := by rfl) (hi : X.N[i]? = some n := by rfl) (hln : X.env.kindOf n = some .local := by rfl) :
    PC3 X (.Try body [.ExceptHandler (some (.Name x np)) (some n) (b₀ :: suite) pos'] [] [] pos) (cTryE rs i tb su) := by
  have ms : ∀ c ∈ rs, ∀ a, MonoC (su a c) := fun c hc a => (hsu a { cls := .ref (bk c), dict := none, data := .fields #[] } c [] hc ⟨rfl, rfl⟩ ⟨_, rfl⟩).mono
  refine ⟨PS.weak (ps_try_as (i := i) (tb := fun W D σ H => ∃ m0 H0 E4, (∀ c ρ h', E4 c ρ h' → UpW X.K bk m0 H0 W c ρ h') ∧ LCb X.K m0 H0 (tb E4) D σ H) (ts := fun a cls d D σ H => ∃ c, c ∈ rs ∧ cls = .ref (bk c) ∧ d = none ∧ LC X.K (su a c) D σ H) (Wout := fun _ _ _ _ => False) hs hf hN hi hln hc (fun u s' ⟨a, B, sI, pins, σ, H, cls, d, e, I, nb, up, sky, na, os, ag, w⟩ => w.elim) (fun W pn xe tk po => ?_) (fun a oe cls d pn hz hd => ?_)) fun D σ H ⟨m, h, ρ, R, S, q⟩ => ?_, fun D D' ρ h w q => ?_⟩
  · refine ⟨fun pins s σ H D I h => ?_⟩
    obtain ⟨m0, H0, E4, hE, q⟩ := h
    exact (hb W pn xe m0 H0 E4 tk po hE).pe.run pins s σ H D I q
  · refine ⟨fun pins s σ H D I h => ?_⟩
    obtain ⟨c, hc, rfl, rfl, q⟩ := h
    exact (hsu a oe c pn hc hz hd).pe.run pins s σ H D I q
  · refine ⟨m, H, _, fun c ρ' h' z m' H' σ' s R' S' => ?_, m, h, ρ, .refl, R, S, q⟩
    obtain ⟨zc, z⟩ := z
    refine ⟨true, ctch c zc, fun _ a na => ⟨c, zc, rfl, rfl, m', h', _, R', S'.set (.adr a) i, ms c zc a _ _ _ _ ⟨fun ρ2 h2 q m2 H2 σ2 s2 R2 S2 => ?_, fun d2 h2 q => Up.step s q, fun ρ2 h2 q m2 H2 σ2 s2 R2 S2 => ?_, fun ρ2 h2 q m2 H2 σ2 s2 R2 S2 => ?_⟩ (z a)⟩, fun z => nomatch z⟩
    · exact q m2 H2 _ (s.trans s2) R2 (S2.unset i)
    · exact q m2 H2 _ (s.trans s2) R2 (S2.unset i)
    · exact q m2 H2 _ (s.trans s2) R2 (S2.unset i)
  · exact mb _ _ _ _ _ _ (fun c ρ' h' z => ⟨z.1, fun a => ms c z.1 a (sufE i D) (sufE i D') _ _ ⟨fun ρ2 _ q => w.nx (ρ2.set i none) _ q, w.rt, fun ρ2 _ q => w.bk (ρ2.set i none) _ q, fun ρ2 _ q => w.ct (ρ2.set i none) _ q⟩ (z.2 a)⟩) w q
def tIsE (i : Nat) (a : Addr) (b : Bool) : E3 := fun ρ h Q => ρ[i]? = some (some (.adr a)) ∧ Q (.bl b) h
theorem e3_isE {a C : Addr} {oe : Obj} {pn : List (Addr × Obj)} (i : Nat) {x : Str} {cY : V} {cv : Value} {b : Bool} {eY : Expr} {p px pos : Pos} (K : ExcC X.K C) (hz : Zc (.ref C) none oe) (hf : ∃ vs, oe.data = .fields vs) (hm : X.mg "isinstance" = none) (hY : PE (X.suite a ((a, oe) :: pn)) eY (tC cY)) (hcv : ∀ u, RelV cY u → u = cv) (kit : PySem.W.kitOne X.K (.ref C) cv = some b)
    (hN : X.N[i]? = some x := by rfl) (hv : Vis X.env.scope x := by first | exact Or.inl rfl | exact Or.inr (Or.inl rfl) | exact Or.inr (Or.inr rfl)) (hd : (x == ("__debug__" : Str)) = false := by decide) (hcd : (x == ("__classdict__" : Str)) = false := by decide) (hg : Gl X "isinstance" := by rfl)
    (he : starEach [.Name x px, eY] X.env = (false, eval (.Name x px) X.env) :: starEach [eY] X.env := by rfl) (he2 : starEach [eY] X.env = (false, eval eY X.env) :: starEach [] X.env := by rfl) (hpl : (backTo pos (starEach [eY] X.env)).any (·.1) = false := by rfl) : PE3 (X.suite a ((a, oe) :: pn)) (.Call (.Name "isinstance" p) [.Name x px, eY] [] pos) (tIsE i a b) := by
  refine ⟨PE.weak (pe_callB (call_isE K hz hf) hg hm (by decide +kernel) (pa_cons (pe_var hN hv hd hcd) (pa_cons hY pa_nil he2) he) (by decide) (by decide) he hpl) fun σ H Q ⟨m, h, ρ, R, S, e, q⟩ => ?_, fun ρ h Q Q' w q => ⟨q.1, w _ _ q.2⟩⟩
  obtain ⟨v, e1, r⟩ := S.2 i _ e
  cases r
  exact ⟨_, e1, cY, cv, b, rfl, hcv, kit, q m H _ .refl R (.bl b)⟩
/-- isinstance(e, Y), Y a class of the module -/
theorem e3_isC {a C Y : Addr} {oe : Obj} {pn : List (Addr × Obj)} (i : Nat) {x y : Str} {b : Bool} {p px py pos : Pos} (K : ExcC X.K C) (hz : Zc (.ref C) none oe) (hf : ∃ vs, oe.data = .fields vs) (hm : X.mg "isinstance" = none) (hY : X.mg y = some (.ref Y)) (kit : PySem.W.kitOne X.K (.ref C) (.ref Y) = some b) (hgy : Gl X y := by rfl) (hdy : (y == ("__debug__" : Str)) = false := by decide)
    (hN : X.N[i]? = some x := by rfl) (hv : Vis X.env.scope x := by first | exact Or.inl rfl | exact Or.inr (Or.inl rfl) | exact Or.inr (Or.inr rfl)) (hd : (x == ("__debug__" : Str)) = false := by decide) (hcd : (x == ("__classdict__" : Str)) = false := by decide) (hg : Gl X "isinstance" := by rfl)
    (he : starEach [.Name x px, .Name y py] X.env = (false, eval (.Name x px) X.env) :: starEach [.Name y py] X.env := by rfl) (he2 : starEach [.Name y py] X.env = (false, eval (.Name y py) X.env) :: starEach [] X.env := by rfl) (hpl : (backTo pos (starEach [.Name y py] X.env)).any (·.1) = false := by rfl) :
    PE3 (X.suite a ((a, oe) :: pn)) (.Call (.Name "isinstance" p) [.Name x px, .Name y py] [] pos) (tIsE i a b) :=
  e3_isE i (cY := .ref Y) K hz hf hm (pe_glob hgy hY rfl hdy) (fun u r => r) kit hN hv hd hcd hg he he2 hpl
/-- isinstance(e, ValueError) -/
theorem e3_isT {a C : Addr} {T : String} {oe : Obj} {pn : List (Addr × Obj)} (i : Nat) {x y : Str} {b : Bool} {p px py pos : Pos} (K : ExcC X.K C) (hz : Zc (.ref C) none oe) (hf : ∃ vs, oe.data = .fields vs) (hm : X.mg "isinstance" = none) (hY : X.mg y = none) (kit : PySem.W.kitOne X.K (.ref C) (.type T) = some b) (hgy : Gl X y := by rfl) (hvy : bootBuiltins y = some (.type T) := by decide +kernel) (hny : y ≠ "__name__" := by decide) (hdy : (y == ("__debug__" : Str)) = false := by decide)
    (hN : X.N[i]? = some x := by rfl) (hv : Vis X.env.scope x := by first | exact Or.inl rfl | exact Or.inr (Or.inl rfl) | exact Or.inr (Or.inr rfl)) (hd : (x == ("__debug__" : Str)) = false := by decide) (hcd : (x == ("__classdict__" : Str)) = false := by decide) (hg : Gl X "isinstance" := by rfl)
    (he : starEach [.Name x px, .Name y py] X.env = (false, eval (.Name x px) X.env) :: starEach [.Name y py] X.env := by rfl) (he2 : starEach [.Name y py] X.env = (false, eval (.Name y py) X.env) :: starEach [] X.env := by rfl) (hpl : (backTo pos (starEach [.Name y py] X.env)).any (·.1) = false := by rfl) :
    PE3 (X.suite a ((a, oe) :: pn)) (.Call (.Name "isinstance" p) [.Name x px, .Name y py] [] pos) (tIsE i a b) :=
  e3_isE i (cY := .ty T) K hz hf hm (pe_bltn hgy hY hvy rfl hny hdy) (fun u r => r) kit hN hv hd hcd hg he he2 hpl
end
end F3
set_option maxHeartbeats 1000000
/-! HZ: the book of refusals; head-first rows of refusals. -/
namespace F3
open PySem PySem.Spec PyProof.Rows L2
def subE (c y : String) : Bool := decide (c = y) || decide (y = "CordError")
structure Book (K : PySem.W.Frag) (mg : Str → Option Value) (bk : String → Addr) (rs ys : List String) : Prop where
  own : ∀ c ∈ rs, OwnE K [.type "ValueError", .type "Exception", .type "BaseException", .type "object"] "ValueError.__new__" (bk c)
  exc : ∀ c ∈ rs, ExcC K (bk c)
  ctch : ∀ c ∈ rs, PySem.W.exmOne K (.ref (bk c)) (.ref (bk "CordError")) = some true
  kit : ∀ c ∈ rs, ∀ y ∈ ys, PySem.W.kitOne K (.ref (bk c)) (.ref (bk y)) = some (subE c y)
  kitV : ∀ c ∈ rs, PySem.W.kitOne K (.ref (bk c)) (.type "ValueError") = some true
  mg : ∀ y ∈ ys, mg (PySem.Str.ofString y) = some (.ref (bk y))
theorem MonoA.c3 {te : E3} {t : A3} (me : MonoE te) (mt : MonoA t) : MonoA (tC3 te t) := fun ρ h Q Q' w q => me _ _ _ _ (fun _ _ q => mt _ _ _ _ (fun _ _ q => w _ _ q) q) q
def callX (sp : Sp3) (ds : List D) (h : Sto) (Q : DK) (E : String → Sto → Prop) (_ : Tag Q := ⟨⟩) (_ : Tag E := ⟨⟩) : Prop := sp ds h Q (xV E)
def tryW (rs : List String) (i : Nat) (su : Addr → String → C3) (D : Ends3) (ρ : S3) : String → Sto → Prop := fun c h' => c ∈ rs ∧ ∀ a, su a c (sufE i D) (ρ.set i (some (.adr a))) h'
def tryX (rs : List String) (i : Nat) (su : Addr → String → C3) (D : Ends3) : X4 := fun c ρ h => tryW rs i su D ρ c h
def isAd (o : Option (Option D)) (a : Addr) (q : Prop) (_ : Tag q := ⟨⟩) : Prop := o = some (some (.adr a)) ∧ q
section
variable {ρ : S3} {h : Sto} {Q : DK} {D : Ends3} {E : X4}
theorem tCallX_q {sp : Sp3} {ta : A3} : tCallX sp E ta ρ h Q = ta ρ h fun ds h1 => callX sp ds h1 Q (fun c h2 => E c ρ h2) := id rfl
theorem cRz_q {c : String} : cRz E c D ρ h = E c ρ h := id rfl
theorem cTryE_q {rs : List String} {i : Nat} {tb : X4 → C3} {su : Addr → String → C3} : cTryE rs i tb su D ρ h = tb (tryX rs i su D) D ρ h := id rfl
theorem tIsE_q {i : Nat} {a : Addr} {b : Bool} : tIsE i a b ρ h Q = isAd ρ[i]? a (Q (.bl b) h) := id rfl
theorem isAd_q {a : Addr} {q : Prop} : isAd (some (some (.adr a))) a q = q := by simp [isAd]
theorem sufE_nx {i : Nat} : (sufE i D).nx ρ h = D.nx (ρ.set i none) h := id rfl
theorem sufE_rt {i : Nat} {d : F3.D} : (sufE i D).rt d h = D.rt d h := id rfl
end
theorem xV_t {E : String → Sto → Prop} {c : String} {h : Sto} (q : E c h) : xV E (.type c) h := ⟨c, rfl, q⟩
/-- a refusal, the store as it was -/
theorem ge_tail {h g : Sto} {n : Nat} {E : X3} {c : String} {ρ : S3} (hn : n = h.length) (hs : ClS h.length h) (q : E (.type c) h) : GE n E c ρ (h ++ g) := by
  subst hn
  exact .inr ⟨_, Gc.tail (by simp only [ClD]) hs, q⟩
end F3
set_option maxHeartbeats 1000000
/-! HU: isinstance(e, (A, B, ..)) of a caught refusal. -/
namespace F3
open PySem PySem.Spec PyProof.Rows L2
def rIsET (K : PySem.W.Frag) (D a : Addr) : List V → Hp → VK → Prop := fun xs H Q => ∃ (tp : Addr) (cs : List V) (us : List Value) (b : Bool), xs = [.ref a, .ref tp] ∧ H tp = some (.tup cs) ∧ Paired ClsV cs us ∧ PySem.W.kitAny K (.ref D) us = some b ∧ Q (.bl b) H
theorem call_isET {X : Cx} {a D : Addr} {oe : Obj} {pn : List (Addr × Obj)} (C : ExcC X.K D) (hz : Zc (.ref D) none oe) (hf : ∃ vs, oe.data = .fields vs) : CallR (X.suite a ((a, oe) :: pn)) (.builtin "isinstance") (rIsET X.K D a) := by
  intro pins s σ H xs us Q I r h
  obtain ⟨tp, cs, ws, b, rfl, hT, k, e, q⟩ := h
  cases r with
  | cons rx rr =>
    cases rr with
    | @cons _ u2 _ _ rt rr =>
      cases rr
      cases rx
      cases (show u2 = Value.ref tp from rt)
      obtain ⟨_, its, rv, o, h1, h2, n, h3⟩ := (show ObjOk X.prog X.w H s.heap tp (.tup cs) from I.hok tp _ hT)
      have e3 := ClsV.all k rv
      subst e3
      obtain ⟨oc, od, dt, sl⟩ := o
      simp only at h2 h3
      subst h2 h3
      obtain ⟨hget, _⟩ := I.pin (a, oe) (List.mem_append.mpr (.inl List.mem_cons_self))
      obtain ⟨vs, hv⟩ := hf
      have J : PySem.W.InstAt s.heap a oe D none := by
        obtain ⟨oc, od, oda, osl⟩ := oe
        obtain ⟨h1, h2⟩ := hz
        dsimp only at h1 h2 hv
        subst h1 h2 hv
        exact ⟨hget, rfl, rfl, trivial⟩
      exact PySem.W.kia_tup (PySem.W.handS_kitx_exc C.hg C.hk C.hs C.hd C.ha C.hn C.ht C.hm) I.kIn J h1 e (fun z => nomatch z) fun tk => ⟨.bl b, H, I.kept (t' := tk) fun _ _ z => z, rfl, q⟩
def tConsts : List V → TA
  | [] => tNil
  | v :: r => tCons (tC v) (tConsts r)
theorem tConsts_q : ∀ {vs : List V} {σ : L2.St} {H : Hp} {Q : List V → Hp → Prop}, Q vs H → tConsts vs σ H Q
  | [], _, _, _, q => q
  | v :: r, σ, H, Q, q => tConsts_q (vs := r) (Q := fun xs H1 => Q (v :: xs) H1) q
def anyE (c : String) (ys : List String) : Bool := ys.any (subE c)
theorem kit_any {K : PySem.W.Frag} {t : Value} {bk : String → Addr} {c : String} : ∀ {ys : List String}, (∀ y ∈ ys, PySem.W.kitOne K t (.ref (bk y)) = some (subE c y)) → PySem.W.kitAny K t (ys.map fun y => .ref (bk y)) = some (anyE c ys)
  | [], _ => kitAny_nil
  | y :: r, h => by
    have ih := kit_any (ys := r) fun z hz => h z (List.mem_cons_of_mem _ hz)
    have h1 := h y List.mem_cons_self
    refine kitAny_cons h1 (fun e => ?_) (fun e => ?_)
    · rw [ih]
      unfold anyE
      rw [List.any_cons, e, Bool.false_or]
    · unfold anyE
      rw [List.any_cons, e, Bool.true_or]
theorem cls_all {bk : String → Addr} : ∀ ys : List String, Paired ClsV (ys.map fun y => V.ref (bk y)) (ys.map fun y => Value.ref (bk y))
  | [] => .nil
  | y :: r => .cons (.own _) (cls_all r)
section
variable {X : Cx} {bk : String → Addr}
/-- isinstance(e, (A, B, ..)), classes of the module -/
theorem e3_isCT {a : Addr} {oe : Obj} {pn : List (Addr × Obj)} (i : Nat) (c : String) (ys : List String) {x : Str} {es : List Expr} {k : Nat} {p px py pos : Pos} (K : ExcC X.K (bk c)) (hz : Zc (.ref (bk c)) none oe) (hf : ∃ vs, oe.data = .fields vs) (hm : X.mg "isinstance" = none) (hA : PA (X.suite a ((a, oe) :: pn)) es (tConsts (ys.map fun y => V.ref (bk y)))) (kit : ∀ y ∈ ys, PySem.W.kitOne X.K (.ref (bk c)) (.ref (bk y)) = some (subE c y)) (hl : ys.length ≤ sizeLine := by decide)
    (hN : X.N[i]? = some x := by rfl) (hv : Vis X.env.scope x := by first | exact Or.inl rfl | exact Or.inr (Or.inl rfl) | exact Or.inr (Or.inr rfl)) (hd : (x == ("__debug__" : Str)) = false := by decide) (hcd : (x == ("__classdict__" : Str)) = false := by decide) (hg : Gl X "isinstance" := by rfl)
    (he : starEach [.Name x px, .Tuple es k py] X.env = (false, eval (.Name x px) X.env) :: starEach [.Tuple es k py] X.env := by rfl) (he2 : starEach [.Tuple es k py] X.env = (false, eval (.Tuple es k py) X.env) :: starEach [] X.env := by rfl) (hpl : (backTo pos (starEach [.Tuple es k py] X.env)).any (·.1) = false := by rfl) :
    PE3 (X.suite a ((a, oe) :: pn)) (.Call (.Name "isinstance" p) [.Name x px, .Tuple es k py] [] pos) (tIsE i a (anyE c ys)) := by
  refine ⟨PE.weak (pe_callB (call_isET K hz hf) hg hm (by decide +kernel) (pa_cons (pe_var hN hv hd hcd) (pa_cons (pe_tup hA) pa_nil he2) he) (by decide) (by decide) he hpl) fun σ H Q ⟨m, h, ρ, R, S, e, q⟩ => ?_, fun ρ h Q Q' w q => ⟨q.1, w _ _ q.2⟩⟩
  obtain ⟨v, e1, r⟩ := S.2 i _ e
  cases r
  exact ⟨_, e1, tConsts_q ⟨by rw [List.length_map]; exact hl, fun t ht => ⟨t, _, _, _, rfl, upd_same, cls_all ys, kit_any kit, q m _ _ (Step.lay ht) (R.lay ht) (.bl _)⟩⟩⟩
end
/-! ### for over a call that may refuse -/
def LIb (K : PySem.W.Frag) (m0 : List Addr) (H0 : Hp) (t : I3) : TI := fun σ H R => ∃ m h ρ, Step m0 H0 m H ∧ Rep K m h H ∧ RelS K m H ρ σ ∧ t ρ h (UpI K m H R)
structure PIb (X : Cx) (m0 : List Addr) (H0 : Hp) (tg iter : Expr) (t : I3) : Prop where
  pe : PI X tg iter (LIb X.K m0 H0 t)
  mono : MonoI t
theorem eqR_mono : ∀ x y h (Q Q' : DK), (∀ d h', Q d h' → Q' d h') → eqR x y h Q → eqR x y h Q' := fun x y h Q Q' w q => by
  unfold eqR at q ⊢
  split
  · exact w _ _ (by simpa using q)
  · rename_i hne
    split at q
    · exact absurd rfl (hne _ _ rfl)
    · split at q
      · exact w _ _ q
      · exact q.elim
section
variable {X : Cx} {m0 : List Addr} {H0 : Hp} {tg : Expr} {pos : Pos}
theorem ib_seq {l : Expr} {t : E3} (hl : PEb X m0 H0 l t) : PIb X m0 H0 tg l (iSeq t) := by
  refine ⟨PI.weak (pi_any hl.pe) fun σ H R ⟨m, h, ρ, s0, Rp, S, q⟩ => ?_, fun ρ h Q Q' w q => hl.mono _ _ _ _ (fun d h1 q1 => ?_) q⟩
  · refine ⟨m, h, ρ, s0, Rp, S, hl.mono _ _ _ _ (fun x h1 q1 m1 H1 v s1 R1 rx => ?_) q⟩
    cases rx with
    | tup sq r => exact ⟨_, rfl, .inr ⟨⟨_, TH sq⟩, q1 m1 H1 _ s1 R1 (serves_tup (.of R1 (TH sq) r))⟩⟩
    | fl sq r => exact ⟨_, rfl, .inl ⟨⟨_, sq.sq⟩, q1 m1 H1 _ s1 R1 (serves_list (.fl R1 sq r))⟩⟩
    | @ref n a e =>
      simp only at q1
      split at q1
      next xs e2 =>
        obtain ⟨ws, q, r⟩ := R1.at_ n a _ e e2
        exact ⟨_, rfl, .inl ⟨⟨ws, .inl (.inl q)⟩, q1 m1 H1 _ s1 R1 (serves_list (.ref e))⟩⟩
      next => exact q1.elim
    | _ => exact q1.elim
  · cases d with
    | tup xs => exact w _ _ _ q1
    | fl xs => exact w _ _ _ q1
    | ref n =>
      simp only at q1 ⊢
      split at q1
      · exact w _ _ _ q1
      · exact q1.elim
    | _ => exact q1
theorem cb_for {iter : Expr} {body : List Stmt} {it : I3} {g : G3} {tb : C3} (hp : PassesOwn (model X.prog X.w) X.A X.env X.xe) (hc : X.calm = true) (hi : PIb X m0 H0 tg iter it) (hg : PG3 X tg g) (hb : PCs3 X body tb)
    (hs : ∀ x, foldedSetIterable iter X.env x = pure x := by intro _; rfl) : PCb X m0 H0 (.For tg iter body [] pos) (cFor it g tb) := by
  refine ⟨PS.weak (ps_for hp hc hi.pe hg.pe hb.pe hs) fun D σ H ⟨mz, h0, ρ0, sz, R0, S0, q⟩ => ?_, fun E E' ρ h w q => hi.mono _ _ _ _ (fun xs st h1 q1 => forI_mono hg.mono hb.mono w xs ρ h1 q1) q⟩
  refine ⟨mz, h0, ρ0, sz, R0, S0, hi.mono _ _ _ _ (fun items st h q m H J s0 R sv => ?_) q⟩
  have S := S0.step R0 s0
  refine ⟨fun i n σ' H' => ∃ m' h' ρ', Step m H m' H' ∧ Rep X.K m' h' H' ∧ RelS X.K m' H' ρ' σ' ∧ i ≤ items.length ∧ n = items.length - i ∧ forI g tb st (UpC X.K m H D) (items.drop i) ρ' h', ⟨items.length, m, h, ρ0, .refl, R, S, Nat.zero_le _, rfl, forI_mono hg.mono hb.mono (UpC.step s0) _ _ _ q⟩, ?_⟩
  rintro i n σ1 H1 ⟨m1, h1, ρ1, s1, R1, S1, hi', hn, q1⟩
  by_cases hlt : i < items.length
  · have ed : items.drop i = items[i] :: items.drop (i + 1) := List.drop_eq_getElem_cons hlt
    rw [ed] at q1
    obtain ⟨hst, q1⟩ := q1
    obtain ⟨jg, jy⟩ := sv.go m1 H1 h1 s1 R1 hst i items[i] (List.getElem?_eq_getElem hlt)
    refine .inr ⟨jg, fun σ' H' => ∃ m' h' ρ', Step m H m' H' ∧ Rep X.K m' h' H' ∧ RelS X.K m' H' ρ' σ' ∧ forI g tb st (UpC X.K m H D) (items.drop (i + 1)) ρ' h', fun σ' H' ⟨m', h', ρ', z1, z2, z3, z4⟩ => ⟨items.length - (i + 1), by omega, m', h', ρ', z1, z2, z3, hlt, rfl, z4⟩, fun v H2 hy => ?_⟩
    obtain ⟨s2, R2, rx⟩ := jy v H2 hy
    refine ⟨m1, h1, ρ1, items[i], R2, S1.step R1 s2, rx, hg.mono _ _ _ _ _ (fun ρ3 h3 q3 m3 H3 σ3 s3 R3 S3 => ?_) q1⟩
    have s13 := s1.trans (s2.trans s3)
    exact LC.of hb.mono R3 S3 ⟨fun ρ4 h4 q4 m4 H4 σ4 s4 R4 S4 => ⟨m4, h4, ρ4, s13.trans s4, R4, S4, q4⟩, fun d h u => Up.step s13 u, fun d h u => UpS.step s13 u, fun ρ4 h4 q4 m4 H4 σ4 s4 R4 S4 => ⟨m4, h4, ρ4, s13.trans s4, R4, S4, q4⟩⟩ q3
  · have e : i = items.length := by omega
    rw [List.drop_eq_nil_of_le (by omega)] at q1
    exact .inl ⟨sv.stop m1 H1 h1 s1 R1 q1.1 i (by omega), q1.2 m1 H1 σ1 s1 R1 S1⟩
end
end F3
set_option maxHeartbeats 1000000
/-! HR: targets = a call that may refuse. -/
namespace F3
open PySem PySem.Spec PyProof.Rows L2
section
variable {X : Cx} {m0 : List Addr} {H0 : Hp} {pos : Pos}
theorem cb_asg {tg e : Expr} {te : E3} {g : G3} (he : PEb X m0 H0 e te) (hg : PG3 X tg g) (hs : swapsWithSole [tg] e pos.line X.env = pure false := by rfl) (hw : swappedStores [tg] e X.env = pure none := by rfl)
    (h1 : (assignEach [tg] X.env).map (·.2) = [assign tg X.env] := by rfl) : PCb X m0 H0 (.Assign [tg] e pos) (cAsg te g) := by
  refine ⟨PS.weak (ps_asg he.pe hg.pe hs hw h1) fun D σ H ⟨m, h, ρ, s0, R, S, q⟩ => ?_, fun D D' ρ h w q => he.mono _ _ _ _ (fun _ _ q => hg.mono _ _ _ _ _ w.nx q) q⟩
  refine ⟨m, h, ρ, s0, R, S, he.mono _ _ _ _ (fun x h1 q1 m1 H1 v s1 R1 rx => ?_) q⟩
  exact ⟨m1, h1, ρ, x, R1, S.step R s1, rx, hg.mono _ _ _ _ _ (fun _ _ q => UpS.step s1 q) q1⟩
end
end F3
set_option maxHeartbeats 1000000
/-! SA: rules for sheets: int * list, x in xs (any data), xs.remove(x), xs.index(x), bits. -/
namespace F3
open PySem PySem.Spec PyProof.Rows L2
section
variable {X : Cx}
/-! ### int * list -/
def rRepR : R2 := fun x y H Q => ∃ l k xs, x = .int k ∧ y = .ref l ∧ H l = some (.lst xs) ∧ -(2 ^ 63) ≤ k ∧ k < 2 ^ 63 ∧ xs.length * k.toNat ≤ sizeLine ∧
  ∀ p, H p = none → Q (.ref p) (upd H p (.lst (List.replicate k.toNat xs).flatten))
theorem op_repR : OpR X (binaryOp .Mult) rRepR := by
  intro pins s σ H x y v u Q I rx ry h
  obtain ⟨l, k, xs, rfl, rfl, hH, h1, h2, hz, q⟩ := h
  cases ry
  obtain ⟨t, rfl⟩ := rx
  obtain ⟨z, its, n, r, hl, e⟩ := I.lstM hH
  have hlen : its.toArray.size * k.toNat ≤ sizeLine := by rw [List.size_toArray, ← hl]; exact hz
  have hcap : ¬ its.toArray.size * k.toNat > (2 ^ 63 - 1) / 8 := by
    have : (sizeLine : Nat) ≤ (2 ^ 63 - 1) / 8 := by decide
    omega
  have hfit : ¬ (!Builtin.List.listFitsIndex k) = true := by
    rw [fitsIndex_both h1 h2]
    exact Bool.false_ne_true
  have hlong : ¬ Builtin.List.listTooLong (its.toArray.size * k.toNat) = true := by
    rw [notLongL hlen]
    exact Bool.false_ne_true
  have hnew : List.foldl (fun x1 x2 => x1 ++ x2) #[] (List.replicate (if its.toArray.isEmpty = true then 0 else k.toNat) its.toArray) = (List.replicate k.toNat its).flatten.toArray := by
    have f0 : ∀ m : Nat, List.foldl (fun x1 x2 => x1 ++ x2) #[] (List.replicate m its.toArray) = (List.replicate m its).flatten.toArray := fun m => by
      have := foldl_rep its m []
      rw [List.nil_append] at this
      exact this
    rw [f0]
    cases its with
    | nil => simp
    | cons a r' => rw [if_neg (by simp)]
  refine lm_binaryOp_repeat_right (T := "list") (U := "int") (by decide) (fun s' => typeIs_int s' k t) ⟨_, e, rfl⟩ F.fills_int_mul noFill_list_mul F.slot_int_mul lm_noRepeat_int repeat_list F.slot_int_index.lookup
    (call_meets F.slot_int_mul (typeIs_int s k t) F.entry_int_mul (F.args_int_mul_2 _ _) (lm_int_mul_list_any k t l its.toArray n none #[])
      ⟨e, rfl, ⟨_, e, rfl⟩, call_meets F.slot_list_mul ⟨_, e, rfl⟩ F.entry_list_mul (F.args_list_mul_2 _ _) (AutoListH.list___mul___list_int_3 l its.toArray n k t hfit hcap hlong) ⟨e, ?_⟩⟩)
  rw [hnew]
  exact ⟨.ref _, _, I.lnew (t' := s.toks) (r.rep k.toNat) (by rw [PyProof.Rows.lm_len_rep_flat, Nat.mul_comm]; exact hz), rfl, q _ I.fresh⟩
def mulLR : R3 := fun x y h Q => match x, y with
  | .int k, .ref a => match h[a]? with
    | some (.lst xs) => (-(2 ^ 63) ≤ k ∧ k < 2 ^ 63 ∧ xs.length * k.toNat ≤ 16777216) ∧ Q (.ref h.length) (h ++ [.lst (List.replicate k.toNat xs).flatten])
    | _ => False
  | _, _ => False
theorem o_mulL : Op3 X (binaryOp .Mult) mulLR := by
  refine ⟨fun x y h Q Q' w q => ?_, _, op_repR, fun m h H x y v u Q R rx ry q => ?_⟩
  · unfold mulLR at q ⊢
    split at q
    · split at q
      · exact ⟨q.1, w _ _ q.2⟩
      · exact q.elim
    · exact q.elim
  · unfold mulLR at q
    split at q
    · split at q
      next e1 =>
        obtain ⟨a, vs, rfl, _, ea, r1⟩ := RelD.inst R ry e1
        cases rx
        exact ⟨a, _, vs, rfl, rfl, ea, q.1.1, q.1.2.1, by rw [sizeLine_eq, ← r1.length]; exact q.1.2.2, Up.laid R (r1.rep _) q.2⟩
      next => exact q.elim
    · exact q.elim
theorem mulLR_q {h : Sto} {Q : DK} {n : Nat} {k : Int} : mulLR (.int k) (.ref n) h Q = onC h[n]? fun xs => (-(2 ^ 63) ≤ k ∧ k < 2 ^ 63 ∧ xs.length * k.toNat ≤ 16777216) ∧ Q (.ref h.length) (h ++ [.lst (List.replicate k.toNat xs).flatten]) := by
  show mulLR (.int k) (.ref n) h Q = onLst h[n]? _
  cases e : h[n]? with
  | none => simp [mulLR, onLst, e]
  | some c => cases c <;> simp [mulLR, onLst, e]
/-! ### x in xs, xs a list that stands, of any data -/
def inRD (neg : Bool) : R3 := fun x y h Q => match toP h 9 x, toP h 9 y with
  | some p, some (.list qs) => Q (.bl (if neg then !(qs.any fun z => PyData.eqv z p) else qs.any fun z => PyData.eqv z p)) h
  | _, _ => False
theorem o_inD (hu : X.A.units + 65 < cLine) : Op3 X (compareOp .In) (inRD false) := by
  refine ⟨fun x y h Q Q' w q => ?_, _, op_inD hu, fun m h H x y v u Q R rx ry q => ?_⟩
  · unfold inRD at q ⊢
    split at q
    · exact w _ _ q
    · exact q.elim
  · unfold inRD at q
    split at q
    next p qs e1 e2 =>
      obtain ⟨a1, b1⟩ := toP_shaped R (by decide) e1 rx
      obtain ⟨a2, b2⟩ := toP_shaped R (by decide) e2 ry
      exact ⟨p, qs, a1, a2, b1, b2, q m H _ .refl R (.bl _)⟩
    next => exact q.elim
theorem o_ninD (hu : X.A.units + 65 < cLine) : Op3 X (compareOp .NotIn) (inRD true) := by
  refine ⟨fun x y h Q Q' w q => ?_, _, op_notInD hu, fun m h H x y v u Q R rx ry q => ?_⟩
  · unfold inRD at q ⊢
    split at q
    · exact w _ _ q
    · exact q.elim
  · unfold inRD at q
    split at q
    next p qs e1 e2 =>
      obtain ⟨a1, b1⟩ := toP_shaped R (by decide) e1 rx
      obtain ⟨a2, b2⟩ := toP_shaped R (by decide) e2 ry
      exact ⟨p, qs, a1, a2, b1, b2, q m H _ .refl R (.bl _)⟩
    next => exact q.elim
theorem inRD_of {neg : Bool} {x y : D} {h : Sto} {Q : DK} {p : PyData} {qs : List PyData} (e1 : toP h 9 x = some p) (e2 : toP h 9 y = some (.list qs)) (q : Q (.bl (if neg then !(qs.any fun z => PyData.eqv z p) else qs.any fun z => PyData.eqv z p)) h) : inRD neg x y h Q := by
  unfold inRD
  rw [e1, e2]
  exact q
/-! ### xs.remove(x), xs.index(x), of any data -/
def rRemD (K : PySem.W.Frag) : V → List V → Hp → VK → Prop := fun x xs H Q => ∃ (a : Addr) (ys : List V) (y : V) (d : PyData) (ds : List PyData) (j : Nat) (z : PyData), x = .ref a ∧ xs = [y] ∧ H a = some (.lst ys) ∧ DpAll K H ys ds ∧ Dp K H y d ∧
  SeqAt.shaped (.list ds) = true ∧ SeqAt.shaped d = true ∧ ds[j]? = some z ∧ PyData.eqv z d = true ∧ (∀ (m : Nat) (z' : PyData), m < j → ds[m]? = some z' → PyData.eqv z' d = false) ∧ Q .non (upd H a (.lst (ys.eraseIdx j)))
theorem mt_removeD (hu : X.A.units + 65 < cLine) : MtM X "list.remove" (rRemD X.K) := by
  intro pins s σ H x xs v us Q I rx rxs h
  obtain ⟨a, ys, y, d, ds, j, z, rfl, rfl, hH, ha, hy, sl, sd, hz, hzj, hno, q⟩ := h
  cases rx
  cases rxs with
  | cons ry rt =>
    rename_i uy ut
    cases rt
    obtain ⟨bs, r1⟩ := Dp.reads I d y uy hy ry
    have hxs : PyData.canLayAll0 ds = true := SeqAt.canLay_of_shaped sl
    have hroom : X.A.units + 1 + min (PyData.depthAll ds) d.depth < cLine := room_in_shaped sd hu
    obtain ⟨zz, its, n, r, hl, e⟩ := I.lstM hH
    obtain ⟨as, h4⟩ := Dp.readsAll I ds _ its ha r
    have hn : its.length = ds.length := SeqAt.ReadsAll.length ds its as h4
    have hmap : its.map (SeqAt.readOf s.heap) = ds := SeqAt.readsAll_map ds its as hxs h4
    obtain ⟨hjd, _⟩ := List.getElem?_eq_some_iff.mp hz
    have hjl : j < its.length := by omega
    have hj : j < its.toArray.size := by simpa using hjl
    have at_ : ∀ (m : Nat) (hm : m < its.toArray.size) (z' : PyData), ds[m]? = some z' → SeqAt.readOf s.heap its.toArray[m] = z' := by
      intro m hm z' hz'
      have hml : m < its.length := by simpa using hm
      rw [← hmap, List.getElem?_map, List.getElem?_eq_getElem hml] at hz'
      have e1 : SeqAt.readOf s.heap its[m] = z' := Option.some.inj (show some (SeqAt.readOf s.heap its[m]) = some z' from hz')
      simpa using e1
    refine call_meets PySem.F.slot_list_remove ⟨_, e, rfl⟩ PySem.F.entry_list_remove (PySem.F.args_list_remove_2 _ _)
      (SeqAt.list_removeAt a its.toArray n none #[] uy (fun u => PyData.eqv (SeqAt.readOf s.heap u) d) j hj ?_ ?_ (by rw [List.size_toArray]; omega)) ⟨e, SeqAt.items_eqAt (vs := its.toArray) (show ReadsAll s.heap its.toArray.toList ds as from h4) r1 hxs (SeqAt.canLay_of_shaped sd) hroom, ?_⟩
    · show PyData.eqv (SeqAt.readOf s.heap its.toArray[j]) d = true
      rw [at_ j hj z hz]
      exact hzj
    · intro m hm hmj
      have hmd : m < ds.length := by omega
      have hz' : ds[m]? = some ds[m] := List.getElem?_eq_getElem hmd
      show PyData.eqv (SeqAt.readOf s.heap its.toArray[m]) d = false
      rw [at_ m hm _ hz']
      exact hno m _ hmj hz'
    · have rr := r.eraseIdx j
      refine ⟨.non, _, I.lset (its' := its.eraseIdx j) (t' := s.toks) hH e ?_ rr ?_, rfl, q⟩
      · show its.toArray.eraseIdxIfInBounds j = (its.eraseIdx j).toArray
        rw [List.eraseIdxIfInBounds_toArray]
      · have := len_erase ys j
        omega
/-- where the first item that is alike stands -/
def placeP (ps : List PyData) (p : PyData) : Option Nat := ps.findIdx? fun z => PyData.eqv z p
theorem placeP_some {ps : List PyData} {p : PyData} {j : Nat} (h : placeP ps p = some j) : ∃ z, ps[j]? = some z ∧ PyData.eqv z p = true ∧ ∀ (m : Nat) (z' : PyData), m < j → ps[m]? = some z' → PyData.eqv z' p = false := by
  obtain ⟨hj, h1, h2⟩ := List.findIdx?_eq_some_iff_getElem.mp h
  refine ⟨ps[j], List.getElem?_eq_getElem hj, h1, fun m z' hm hz => ?_⟩
  obtain ⟨hm2, rfl⟩ := List.getElem?_eq_some_iff.mp hz
  have := h2 m hm
  simpa using this
def remT : T3 := fun xs ds h Q => match ds with
  | [y] => match xs.mapM (toP h 8), toP h 9 y with
    | some ps, some p => ∃ j, placeP ps p = some j ∧ Q .non (xs.eraseIdx j)
    | _, _ => False
  | _ => False
def idxT : T3 := fun xs ds h Q => match ds with
  | [y] => match xs.mapM (toP h 8), toP h 9 y with
    | some ps, some p => ∃ j, placeP ps p = some j ∧ Q (.int (j : Int)) xs
    | _, _ => False
  | _ => False
theorem units65 {k : Nat} {A : Around} (r : Room k A) : A.units + 65 < cLine := by have := r.un; omega
theorem m_remove (hu : X.A.units + 65 < cLine) : Mt3 X "list.remove" remT := by
  refine ⟨fun xs ds h Q Q' w q => ?_, _, mt_removeD hu, fun m h H a xs vs ds ws Q R ea hm rx rs q => ?_⟩
  · unfold remT at q ⊢
    split at q
    · split at q
      · obtain ⟨j, h1, q⟩ := q; exact ⟨j, h1, w _ _ q⟩
      · exact q.elim
    · exact q.elim
  · unfold remT at q
    split at q
    · split at q
      next ps p e1 e2 =>
        obtain ⟨j, hj, q⟩ := q
        obtain ⟨z, z1, z2, z3⟩ := placeP_some hj
        match ws, rs with
        | [u], .cons r .nil =>
          obtain ⟨a1, b1⟩ := toP_shaped R (by decide) e2 r
          obtain ⟨a2, b2⟩ := eqX_lift R ea rx e1
          exact ⟨a, vs, u, p, ps, j, z, rfl, rfl, ea, (mapM_dp (toP_dp R 8) e1 rx).1, a1, b2, b1, z1, z2, z3, q _ _ .non (rx.erase j)⟩
      next => exact q.elim
    · exact q.elim
theorem m_index (hu : X.A.units + 65 < cLine) : Mt3 X "list.index" idxT := by
  refine ⟨fun xs ds h Q Q' w q => ?_, _, mt_indexD hu, fun m h H a xs vs ds ws Q R ea hm rx rs q => ?_⟩
  · unfold idxT at q ⊢
    split at q
    · split at q
      · obtain ⟨j, h1, q⟩ := q; exact ⟨j, h1, w _ _ q⟩
      · exact q.elim
    · exact q.elim
  · unfold idxT at q
    split at q
    · split at q
      next ps p e1 e2 =>
        obtain ⟨j, hj, q⟩ := q
        obtain ⟨z, z1, z2, z3⟩ := placeP_some hj
        match ws, rs with
        | [u], .cons r .nil =>
          obtain ⟨a1, b1⟩ := toP_shaped R (by decide) e2 r
          obtain ⟨a2, b2⟩ := eqX_lift R ea rx e1
          have g := q _ _ (.int _) rx
          have eu : upd H a (.lst vs) = H := by
            funext b
            by_cases hb : b = a
            · rw [hb, upd_same, ea]
            · rw [upd_ne hb]
          rw [eu] at g
          exact ⟨a, u, p, ps, j, z, rfl, rfl, a2, a1, b2, b1, z1, z2, z3, g⟩
      next => exact q.elim
    · exact q.elim
theorem remT_of {xs : List D} {y : D} {h : Sto} {Q : D → List D → Prop} {ps : List PyData} {p : PyData} {j : Nat} (e1 : xs.mapM (toP h 8) = some ps) (e2 : toP h 9 y = some p) (hj : placeP ps p = some j) (q : Q .non (xs.eraseIdx j)) : remT xs [y] h Q := by
  unfold remT
  simp only [e1, e2]
  exact ⟨j, hj, q⟩
theorem idxT_of {xs : List D} {y : D} {h : Sto} {Q : D → List D → Prop} {ps : List PyData} {p : PyData} {j : Nat} (e1 : xs.mapM (toP h 8) = some ps) (e2 : toP h 9 y = some p) (hj : placeP ps p = some j) (q : Q (.int (j : Int)) xs) : idxT xs [y] h Q := by
  unfold idxT
  simp only [e1, e2]
  exact ⟨j, hj, q⟩
/-! ### bits -/
def andR : R3 := fun x y h Q => match x, y with
  | .int i, .int j => Q (.int (Builtin.bitAnd i j)) h
  | _, _ => False
def xorR : R3 := fun x y h Q => match x, y with
  | .int i, .int j => Q (.int (Builtin.bitXor i j)) h
  | _, _ => False
def shlR : R3 := fun x y h Q => match x, y with
  | .int i, .int j => CShl i j ∧ Q (.int (i * 2 ^ j.toNat)) h
  | _, _ => False
def shrR : R3 := fun x y h Q => match x, y with
  | .int i, .int j => 0 ≤ j ∧ Q (.int (i / 2 ^ j.toNat)) h
  | _, _ => False
theorem o_and : Op3 X (binaryOp .BitAnd) andR := by
  refine ⟨fun x y h Q Q' w q => ?_, _, op_and, fun m h H x y v u Q R rx ry q => ?_⟩
  · unfold andR at q ⊢
    split at q
    · exact w _ _ q
    · exact q.elim
  · unfold andR at q
    split at q
    · cases rx; cases ry
      exact ⟨_, _, rfl, rfl, q m H _ .refl R (.int _)⟩
    · exact q.elim
theorem o_xor : Op3 X (binaryOp .BitXor) xorR := by
  refine ⟨fun x y h Q Q' w q => ?_, _, op_xor, fun m h H x y v u Q R rx ry q => ?_⟩
  · unfold xorR at q ⊢
    split at q
    · exact w _ _ q
    · exact q.elim
  · unfold xorR at q
    split at q
    · cases rx; cases ry
      exact ⟨_, _, rfl, rfl, q m H _ .refl R (.int _)⟩
    · exact q.elim
theorem o_shl : Op3 X (binaryOp .LShift) shlR := by
  refine ⟨fun x y h Q Q' w q => ?_, _, op_shlW, fun m h H x y v u Q R rx ry q => ?_⟩
  · unfold shlR at q ⊢
    split at q
    · exact ⟨q.1, w _ _ q.2⟩
    · exact q.elim
  · unfold shlR at q
    split at q
    · cases rx; cases ry
      exact ⟨_, _, rfl, rfl, q.1, q.2 m H _ .refl R (.int _)⟩
    · exact q.elim
theorem o_shr : Op3 X (binaryOp .RShift) shrR := by
  refine ⟨fun x y h Q Q' w q => ?_, _, op_shr, fun m h H x y v u Q R rx ry q => ?_⟩
  · unfold shrR at q ⊢
    split at q
    · exact ⟨q.1, w _ _ q.2⟩
    · exact q.elim
  · unfold shrR at q
    split at q
    · cases rx; cases ry
      exact ⟨_, _, rfl, rfl, q.1, q.2 m H _ .refl R (.int _)⟩
    · exact q.elim
theorem andR_q {h : Sto} {Q : DK} {i j : Int} : andR (.int i) (.int j) h Q = Q (.int (Builtin.bitAnd i j)) h := id rfl
theorem xorR_q {h : Sto} {Q : DK} {i j : Int} : xorR (.int i) (.int j) h Q = Q (.int (Builtin.bitXor i j)) h := id rfl
theorem shlR_q {h : Sto} {Q : DK} {i j : Int} : shlR (.int i) (.int j) h Q = (CShl i j ∧ Q (.int (i * 2 ^ j.toNat)) h) := id rfl
theorem shrR_q {h : Sto} {Q : DK} {i j : Int} : shrR (.int i) (.int j) h Q = (0 ≤ j ∧ Q (.int (i / 2 ^ j.toNat)) h) := id rfl
end
end F3
set_option maxHeartbeats 1000000
/-! HE: enumerate of a tuple; name += number; place of a number in a tuple. -/
namespace F3
open PySem PySem.Spec PyProof.Rows L2
/-! ### enumerate of a tuple -/
def ItE (K : PySem.W.Frag) (a : Addr) : It where
  go := fun i H => ∃ (ys : List V) (y : V), SqT K H a ys ∧ ys[i]? = some y
  yld := fun i H v H' => ∃ T y, v = .ref T ∧ H T = none ∧ H' = upd H T (.tup [.int (i : Nat), y]) ∧ ∀ ys, SqT K H a ys → ys[i]? = some y
  stop := fun i H => ∃ ys : List V, SqT K H a ys ∧ ys.length ≤ i
theorem tup_ne {h : Heap} {a b : Addr} {items : Array Value} {o : Obj} (p : h.IsTuple a items) (e : h.get? b = some o) (hc : o.cls ≠ .type "tuple") : b ≠ a := by
  rintro rfl
  obtain ⟨o', e', c', _⟩ := p
  rw [e] at e'
  cases e'
  exact hc c'
theorem turn_en {P : Program} {w : World} {K : PySem.W.Frag} {els : List Expr} {k1 : Nat} {p1 : Pos} (a e it : Addr) :
    Turn P w K (.Tuple els k1 p1) (ItE K a) [e, it] e (fun i h => (∃ old, IsEnum h e it ((i : Nat) : Int) old) ∧ h.IsTupleIter it a i ∧ e ≠ it) where
  mem := by simp
  obj := by
    rintro i h ⟨⟨old, he⟩, ⟨o, ho, hc, hd⟩, _⟩ b hb
    rcases (show b = e ∨ b = it by simpa using hb) with rfl | rfl
    · exact ⟨_, he, fun v q => nomatch q⟩
    · exact ⟨o, ho, fun v q => by rw [hd] at q; cases q⟩
  keep := by
    rintro i h h' ⟨⟨old, he⟩, hi, hne⟩ k
    exact ⟨⟨old, k e (by simp) _ he⟩, hi.at fun o q => k it (by simp) o q, hne⟩
  item := by
    intro X hP hw hK hc i pins s σ H E I hf st hg
    subst hP hw hK
    obtain ⟨⟨old, he⟩, hit, hne⟩ := st
    obtain ⟨ys, y, hq, hy⟩ := hg
    obtain ⟨its, rv, p, _⟩ := I.tuple hq
    obtain ⟨u, hu, ru⟩ := rv.get hy
    have hel : e < s.heap.objs.size := Heap.lt_size he
    have hil : it < s.heap.objs.size := by obtain ⟨_, q, _⟩ := hit; exact Heap.lt_size q
    have ita : a ≠ it := by
      obtain ⟨o, ho, c, _⟩ := hit
      exact fun z => tup_ne p ho (by rw [show o.cls = _ from c]; decide) z.symm
    have ea : e ≠ a := tup_ne p he (show Value.type "enumerate" ≠ .type "tuple" by decide)
    have D := Draws.tuple (prog := X.prog) (w := X.w) (A := X.A.in1) (I.ok.hd hc) it a ita its.toArray
    have hlt : i < its.toArray.size := by
      have := (List.getElem?_eq_some_iff.mp hu).1
      simpa using this
    refine wpAny_pyNext_enum_itemD D he ⟨hit, p⟩ hlt hne (by simp [hne, ea]) fun x h' tk px ho st' hT hsz hk => ?_
    have exu : x = u := by
      have px : its.toArray[i]? = some x := px
      rw [List.getElem?_toArray, hu] at px
      exact (Option.some.inj px).symm
    subst exu
    refine ⟨_, rfl, wpAny_letOwnedTupleGo_enum (s := { s with heap := h', toks := tk + 1 }) ho fun h2 he2 sb => ?_⟩
    have hT2 : h2.get? s.heap.objs.size = some { cls := .type "tuple", data := .seq #[.int i tk, x] } := (sb.2 _ (Nat.ne_of_gt hel)).trans hT
    have new : ObjOk X.prog X.w (upd H s.heap.objs.size (.tup [.int (i : Nat), y])) h2 s.heap.objs.size (.tup [.int (i : Nat), y]) :=
      ⟨by show 2 ≤ sizeLine; decide, [.int i tk, x], .cons ⟨_, rfl⟩ (.cons ru .nil), ⟨_, hT2, rfl, _, rfl⟩⟩
    have J : Inv X pins σ (upd H s.heap.objs.size (.tup [.int (i : Nat), y])) { s with heap := h2, toks := tk + 1 } := by
      refine I.turnedNew (ch := [e, it]) (fun b o hb q => ?_) hf (Nat.le_refl _) new
      exact (sb.2 b (fun z => hb (by simp [z]))).trans (hk b o (fun z => hb (by simp [z])) (fun z => hb (by simp [z])) q)
    refine ⟨.ref s.heap.objs.size, _, J, rfl, ⟨_, y, rfl, I.hok.fresh (Nat.le_refl _), rfl, fun zs hz => by rw [I.tuple_inj hz hq]; exact hy⟩, ⟨⟨x, ?_⟩, st'.1.at fun o q => (sb.2 it (Ne.symm hne)).trans q, hne⟩, fun b hb => ?_⟩
    · rw [show ((i + 1 : Nat) : Int) = (i : Int) + 1 by omega]
      exact he2
    · rw [upd_ne]
      · exact (hf b hb).1
      · rcases (show b = e ∨ b = it by simpa using hb) with z | z
        · rw [z]; exact Nat.ne_of_lt hel
        · rw [z]; exact Nat.ne_of_lt hil
  done := by
    intro X hP hw hK hc i pins s σ H E I hf st hg
    subst hP hw hK
    obtain ⟨⟨old, he⟩, hit, hne⟩ := st
    obtain ⟨ys, hq, hy⟩ := hg
    obtain ⟨its, rv, p, _⟩ := I.tuple hq
    obtain ⟨f0, f1, f2, f3, f4, f5⟩ := hf it (by simp)
    have hl := rv.length
    have hn : its.toArray[i]? = none := by rw [List.getElem?_toArray]; exact List.getElem?_eq_none (by omega)
    have D : Draws X.prog X.w X.A.in1 it [it, a] i (fun _ _ => True) (fun j h => (h.IsTupleIter it a j ∧ h.IsTuple a its.toArray) ∧ j = i) :=
      { live := fun _ _ st => let ⟨o, ho, _⟩ := st.1.1; ⟨o, ho⟩
        frame := fun _ _ _ st k => ⟨⟨st.1.1.at fun o q => k it (by simp) o q, st.1.2.at fun o q => k a (by simp) o q⟩, st.2⟩
        item := fun j s Q E hj st _ => absurd hj (by rw [st.2]; exact Nat.lt_irrefl _)
        done := fun s Q E st hE => wpAny_nextOf_tuple_end (I.ok.hd hc) st.1.1 st.1.2 hn hE }
    exact wpAny_pyNext_enum_endD D he ⟨⟨hit, p⟩, rfl⟩ fun h' eb => ⟨rfl, I.turned (t' := s.toks) (fun b o hb q => eb b o hb q) f0 f1 f3 f4 f5⟩
  self := fun A i s Q E st h => let ⟨⟨_, he⟩, _⟩ := st; wpAny_pyIter_enum he h
theorem en_new {v : Value} {o : Obj} {G : Heap → Prop} (B : Begins v o G) : Meets (Builtin.«enumerate.__new__» ⟨[.type "enumerate", v], []⟩) (fun _ R s => G s.heap ∧
    R (.ok (.ret (.ref (s.heap.push o).objs.size))) { s with heap := (s.heap.push o).push { cls := .type "enumerate", data := .fields #[.none, .bool false, .ref s.heap.objs.size, rawInt 0, .none, .none] } }) :=
  .of_wp fun prog w A R s h => by
    obtain ⟨hp, g, d, tk, os⟩ := s
    obtain ⟨h1, h⟩ := h
    have hsub := sub_enumerate
    have q1 : ∀ {A' : Around} {E Q : Value → Shared → Prop}, Q (.ref hp.objs.size) ⟨hp.push o, g, d, tk, os⟩ → wpAny (model prog w) A' (pyIter v) Q E ⟨hp, g, d, tk, os⟩ := fun q => B.iter prog w _ _ _ _ h1 q
    wp_walk using q1
    refine wpAny_stack_any fun st => wpAny_pure ?_
    split
    · rename_i c _ _ _ _ _
      cases (c == Value.type "enumerate") <;> (wp_walk using q1; exact ⟨_, rfl, h⟩)
    · wp_walk using q1
      exact ⟨_, rfl, h⟩
theorem call_en {prog : Program} {w : World} {A : Around} {E : Value → Shared → Prop} {s : Shared} {v : Value} {o : Obj} {G : Heap → Prop} {Q : Value → Shared → Prop} (B : Begins v o G) (h1 : G s.heap)
    (h : ∀ h', IsEnum h' (s.heap.objs.size + 1) s.heap.objs.size 0 .none → h'.get? s.heap.objs.size = some o → (∀ b u, s.heap.get? b = some u → h'.get? b = some u) → Q (.ref (s.heap.objs.size + 1)) { s with heap := h' }) :
    wpAny (model prog w) A (call (.type "enumerate") [v]) Q E s := by
  refine callType_new F.called_enumerate (by decide) (F.typeCall_enumerate_1 _) (F.newCall_enumerate_1 _) (fun obj => F.args_object_init_2 obj _) F.entry_enumerate_new (en_new B) ⟨h1, ?_⟩
  have hz : (s.heap.push o).objs.size = s.heap.objs.size + 1 := Heap.size_push ..
  show _ ∧ _
  rw [hz]
  have he : IsEnum ((s.heap.push o).push { cls := .type "enumerate", data := .fields #[.none, .bool false, .ref s.heap.objs.size, rawInt 0, .none, .none] }) (s.heap.objs.size + 1) s.heap.objs.size 0 .none := by
    have q := Heap.get?_push_size (s.heap.push o) (o := { cls := .type "enumerate", data := .fields #[.none, .bool false, .ref s.heap.objs.size, rawInt 0, .none, .none] }) rfl
    rw [hz] at q
    exact q
  exact ⟨⟨_, he, rfl⟩, h _ he (Heap.get?_push_of_some _ (Heap.get?_push_size _ B.free)) fun b u x => Heap.get?_push_of_some _ (Heap.get?_push_of_some _ x)⟩
def iEnT (K : PySem.W.Frag) (ta : TA) : TI := fun σ H R => ta σ H fun vs H1 => ∃ a ys, vs = [.ref a] ∧ SqT K H1 a ys ∧ R (ItE K a) H1
theorem pi_enT {X : Cx} {e : Expr} {ta : TA} {p pos tpos : Pos} {elts : List Expr} {kk : Nat} (hg : Gl X "enumerate") (hm : X.mg "enumerate" = none) (ha : PA X [e] ta) (hs : starEach [e] X.env = [(false, eval e X.env)] := by rfl) :
    PI X (.Tuple elts kk tpos) (.Call (.Name "enumerate" p) [e] [] pos) (iEnT X.K ta) := by
  refine ⟨fun pins s σ H R I h => Call_ (ld_blt I hg hm boot_enumerate (PyProof.Rows.callWith_type1 (thn (ha.run pos pins s σ H _ I h) fun us s1 ⟨vs, H1, I1, r1, q1⟩ => ?_) hs rfl))⟩
  obtain ⟨a, ys, rfl, hq, q⟩ := q1
  cases r1 with
  | cons r rr =>
    cases rr
    cases r
    obtain ⟨its, rv, p', hz⟩ := I1.tuple hq
    refine call_en (begins_tuple a its.toArray) p' fun h' he hit hk => wpAny_pyIter_enum he ?_
    have I2 : Inv X pins σ H1 { s1 with heap := h' } := I1.kept (t' := s1.toks) hk
    refine ⟨s1.heap.objs.size + 1, [s1.heap.objs.size + 1, s1.heap.objs.size], _, _, H1, rfl, I2, turn_en a (s1.heap.objs.size + 1) s1.heap.objs.size, ⟨⟨.none, he⟩, ⟨_, hit, rfl, rfl⟩, Nat.succ_ne_self _⟩, fun b hb => ?_, q⟩
    have hle : s1.heap.objs.size ≤ b := by
      rcases (show b = s1.heap.objs.size + 1 ∨ b = s1.heap.objs.size by simpa using hb) with z | z
      · rw [z]; exact Nat.le_succ _
      · rw [z]; exact Nat.le_refl _
    exact I1.fpOk hle (I1.hok.fresh hle)
section
variable {K : PySem.W.Frag} {m : List Addr} {H : Hp} {a : Addr} {xs : List D}
theorem serves_enT (sq : StT K a xs m H) : Serves K (ItE K a) (xs.mapIdx fun i x => D.tup [.int i, x]) (fun _ => True) m H := by
  refine ⟨fun m1 H1 h1 s1 R1 _ i x hx => ?_, fun m1 H1 h1 s1 R1 _ i hi => ?_⟩
  · obtain ⟨ws, q, r⟩ := sq m1 H1 h1 s1 R1
    rw [List.getElem?_mapIdx] at hx
    obtain ⟨y, ey, rfl⟩ := Option.map_eq_some_iff.mp hx
    obtain ⟨v, ev, rv⟩ := r.get ey
    refine ⟨⟨ws, v, q, ev⟩, fun v' H' ⟨T, x', e1, nT, e2, f⟩ => ?_⟩
    subst e1; subst e2
    have e3 := f ws q
    rw [ev] at e3; cases e3
    exact ⟨Step.lay nT, R1.lay nT, .tup (TupA.of (mk3_len (by simp)) upd_same) (.cons (.int _) (.cons (rv.step R1 (Step.lay nT)) .nil))⟩
  · obtain ⟨ws, q, r⟩ := sq m1 H1 h1 s1 R1
    exact ⟨ws, q, by rw [← r.length]; simpa using hi⟩
end
/-- enumerate of a tuple -/
def iEnumT3 (ta : A3) : I3 := fun ρ h Q => ta ρ h fun vs h1 => match vs with
  | [.tup xs] => Q (xs.mapIdx fun i x => D.tup [.int i, x]) (fun _ => True) h1
  | _ => False
theorem i3_enumT {X : Cx} {e : Expr} {ta : A3} {p pos tpos : Pos} {elts : List Expr} {kk : Nat} (hg : Gl X "enumerate") (hm : X.mg "enumerate" = none) (ha : PA3 X [e] ta) (hs : starEach [e] X.env = [(false, eval e X.env)] := by rfl) : PI3 X (.Tuple elts kk tpos) (.Call (.Name "enumerate" p) [e] [] pos) (iEnumT3 ta) := by
  refine ⟨PI.weak (pi_enT hg hm ha.pe hs) fun σ H R ⟨m, h, ρ, Rp, S, q⟩ => ?_, fun ρ h Q Q' w q => ha.mono _ _ _ _ (fun d h1 q1 => ?_) q⟩
  · refine LA.bind ha.mono Rp S q fun m1 H1 v x h1 s1 R1 rx S1 q1 => ?_
    match x, rx, q1 with
    | [.tup xs], .cons (.tup sq r) .nil, q1 =>
      exact ⟨_, _, rfl, TH sq, q1 m1 H1 _ s1 R1 (serves_enT (.of R1 (TH sq) r))⟩
  · match d, q1 with
    | [.tup xs], q1 => exact w _ _ _ q1
def enT (vs : List D) (h : Sto) (Q : List D → (Sto → Prop) → Sto → Prop) : Prop := match vs with
  | [.tup xs] => Q (xs.mapIdx fun i x => D.tup [.int i, x]) (fun _ => True) h
  | _ => False
theorem enT_q {xs : List D} {h : Sto} {Q : List D → (Sto → Prop) → Sto → Prop} : enT [.tup xs] h Q = Q (xs.mapIdx fun i x => D.tup [.int i, x]) (fun _ => True) h := id rfl
theorem iEnumT3_q {ta : A3} {ρ : S3} {h : Sto} {Q : List D → (Sto → Prop) → Sto → Prop} : iEnumT3 ta ρ h Q = ta ρ h fun vs h1 => enT vs h1 Q := id rfl
/-! ### name += number -/
def cAug (i : Nat) (te : E3) : C3 := fun D ρ h => ∃ d, ρ[i]? = some (some d) ∧ te ρ h fun y h1 => match d, y with
  | .int a, .int b => D.nx (ρ.set i (some (.int (a + b)))) h1
  | _, _ => False
theorem c3_aug {X : Cx} (i : Nat) {x : Str} {e : Expr} {te : E3} {pos pos' : Pos} (hN : X.N.Nodup) (he : PE3 X e te) (hi : X.N[i]? = some x := by rfl) (hx : Loc X.env.scope x := by first | exact Or.inl rfl | exact Or.inr rfl)
    (hf : X.fn x = true ∨ X.env.scope.names.lookup x = some .local := by first | exact .inl rfl | exact .inr rfl | assumption) : PC3 X (.AugAssign (.Name x pos') .Add e pos) (cAug i te) := by
  refine ⟨PS.weak (ps_aug hN hi hx he.pe ip_add hf) fun D σ H ⟨m, h, ρ, R, S, d, e1, q⟩ => ?_, fun D D' ρ h w ⟨d, e1, q⟩ => ⟨d, e1, he.mono _ _ _ _ (fun y h1 q => ?_) q⟩⟩
  · obtain ⟨v, ev, rv⟩ := S.2 i d e1
    refine ⟨v, ev, LE.bind he.mono R S q fun m1 H1 u y h1 s1 R1 ry S1 q1 => ?_⟩
    match d, y, q1 with
    | .int a, .int b, q1 =>
      cases rv
      cases ry
      exact ⟨a, b, rfl, rfl, q1 m1 H1 _ s1 R1 (S1.set (.int _) i)⟩
  · match d, y, q with
    | .int a, .int b, q => exact w.nx _ _ q
def augD (d y : D) (q : Int → Prop) (_ : Tag q := ⟨⟩) : Prop := match d, y with
  | .int a, .int b => q (a + b)
  | _, _ => False
theorem augD_q {a b : Int} {q : Int → Prop} : augD (.int a) (.int b) q = q (a + b) := id rfl
theorem cAug_q {i : Nat} {te : E3} {D : Ends3} {ρ : S3} {h : Sto} : cAug i te D ρ h = onO ρ[i]? fun d => te ρ h fun y h1 => augD d y fun n => D.nx (ρ.set i (some (.int n))) h1 := by
  apply propext
  constructor
  · rintro ⟨d, e, q⟩
    rw [e]
    exact q
  · intro q
    cases e : ρ[i]? with
    | none => rw [e] at q; exact q.elim
    | some o =>
      cases o with
      | none => rw [e] at q; exact q.elim
      | some d =>
        rw [e] at q
        exact ⟨d, e, q⟩
end F3
set_option maxHeartbeats 1000000
/-! HG: list(d.values()). -/
namespace F3
open PySem PySem.Spec PyProof.Rows L2
section
variable {X : Cx}
theorem kv_vals : ∀ {kvs : List (Key × V)} {vs : List (Key × Value)}, KV kvs vs → ∀ {acc : List Value}, acc.length = vs.length → (∀ (j : Nat) (v : Value), acc[j]? = some v → ∃ k, vs[j]? = some (k, v)) → Vals (kvs.map (·.2)) acc := by
  intro kvs
  induction kvs with
  | nil =>
    intro vs r acc hl h
    cases r
    have : acc = [] := List.eq_nil_of_length_eq_zero hl
    subst this
    exact .nil
  | cons p kvs ih =>
    intro vs r acc hl h
    cases r with
    | cons h1 h2 =>
      match acc, hl with
      | a :: acc, hl =>
        obtain ⟨k, hk⟩ := h 0 a rfl
        have e := Option.some.inj (show some _ = some (k, a) from hk)
        refine .cons ?_ (ih h2 (by simpa using hl) fun j v e => by
          obtain ⟨k, hk⟩ := h (j + 1) v (by simpa using e)
          exact ⟨k, by simpa using hk⟩)
        have := h1.2
        rw [e] at this
        exact this
def tLV (td : TE) : TE := fun σ H Q => td σ H fun x H1 => ∃ a kvs, x = V.ref a ∧ H1 a = some (.dK kvs) ∧ ∀ p, H1 p = none → Q (.ref p) (upd H1 p (.lst (kvs.map (·.2))))
theorem pe_lv {o : Expr} {p pos apos mpos : Pos} {td : TE} (hc : X.calm = true) (hg : Gl X "list") (hm : X.mg "list" = none) (hd : PE X o td) (hbase : attributeBase o "values" X.env (eval o X.env) = eval o X.env := by rfl) (hline : (apos.endLine == mpos.line) = true := by rfl)
    (hse : starEach [Expr.Call (.Attribute o "values" apos) [] [] mpos] X.env = [(false, eval (Expr.Call (.Attribute o "values" apos) [] [] mpos) X.env)] := by rfl) :
    PE X (.Call (.Name "list" p) [.Call (.Attribute o "values" apos) [] [] mpos] [] pos) (tLV td) := by
  refine ⟨fun pins s σ H Q I h => wpAny_Call_Name_kw (ld_blt I hg hm (u := .type "list") (by first | rfl | decide +kernel) ?_ (by first | decide +kernel | decide) (by first | decide +kernel | decide))⟩
  rw [hse]
  refine PySem.callWith_type1 (wpAny_Call_method0_late hbase hline (thn (hd.run pins s σ H _ I h) fun v s1 ⟨x, H1, I1, r1, a, kvs, ex, ha, q⟩ => ?_))
  subst ex
  obtain rfl : v = Value.ref a := r1
  obtain ⟨hz, hsys, vs, rel, dof⟩ := dk_of I1.hok ha
  obtain ⟨ep, dat⟩ := dof.dictAt
  obtain ⟨ob, es, ho, ex, hdat, hko, hpr, hnd⟩ := id dat
  refine ⟨"dict", "dict.values", F.plainAttrs_dict, F.slot_dict_values, F.type_dict_values, ⟨ob, ho, ex.1⟩, fun b e => by cases e; exact ⟨ob, ho, ex.2.1⟩, Calls.callWith_builtin rfl (PySem.evalArgs_none ?_)⟩
  refine call_meetsIn F.slot_dict_values ⟨ob, ho, ex.1⟩ F.entry_dict_values (F.args_dict_values_1 _) (meets_dict_values (mixKind X.prog X.w) a hsys) ⟨⟨vs, dof⟩, ?_⟩
  have k1 : ∀ b u, s1.heap.get? b = some u → (s1.heap.push { cls := .type "dict_values", data := .fields #[.ref a] }).get? b = some u := fun b u e => Heap.get?_push_of_some _ e
  have hl := KV.length rel
  refine PySem.W.kdl_call (PySem.W.kdl_values (knd := mixKind X.prog X.w) (d := a) (r := s1.heap.objs.size) (kvs := vs) (ep := ep)) (I1.ok.hd hc) ⟨⟨_, Heap.get?_push_size _ rfl, rfl, rfl⟩, dat.keep k1⟩ (by rw [← hl]; exact hz) fun h' tk acc c' hk hD hacc => ?_
  have hv : Vals (kvs.map (·.2)) acc.toList := kv_vals rel (by rw [Array.length_toList]; exact hacc.1) fun j v e => hacc.2 j v (by rw [← Array.getElem?_toList]; exact e)
  have hs2 : (s1.heap.push { cls := .type "dict_values", data := .fields #[.ref a] }).objs.size = s1.heap.objs.size + 1 := Heap.size_push _ _
  have hf : H1 (s1.heap.push { cls := .type "dict_values", data := .fields #[.ref a] }).objs.size = none := I1.hok.fresh (by rw [hs2]; exact Nat.le_succ _)
  refine ⟨.ref (s1.heap.push { cls := .type "dict_values", data := .fields #[.ref a] }).objs.size, upd H1 _ (.lst (kvs.map (·.2))), I1.laid (t' := tk) (fun b u e => hk b u (k1 b u e)) (by rw [hs2]; exact Nat.le_succ _)
    (show ObjOk X.prog X.w _ _ _ (.lst (kvs.map (·.2))) from ⟨by rw [List.length_map]; exact hz, acc.toList, c', hv, by rw [Array.toArray_toList]; exact hD⟩), rfl, q _ hf⟩
/-- list(x.values()): the values of a dict of int or text keys -/
def tVals (t : E3) : A3 := fun ρ h Q => t ρ h fun x h1 => match x with
  | .ref n => match h1[n]? with
    | some (.dK kvs) => Q (kvs.map Prod.snd) h1
    | _ => False
  | _ => False
theorem x3_vals {o : Expr} {p pos apos mpos : Pos} {t : E3} (hc : X.calm = true) (hg : Gl X "list") (hm : X.mg "list" = none) (hd : PE3 X o t) (hbase : attributeBase o "values" X.env (eval o X.env) = eval o X.env := by rfl) (hline : (apos.endLine == mpos.line) = true := by rfl)
    (hse : starEach [Expr.Call (.Attribute o "values" apos) [] [] mpos] X.env = [(false, eval (Expr.Call (.Attribute o "values" apos) [] [] mpos) X.env)] := by rfl) :
    PX3 X (.Call (.Name "list" p) [.Call (.Attribute o "values" apos) [] [] mpos] [] pos) (tVals t) := by
  refine ⟨PE.weak (pe_lv hc hg hm hd.pe hbase hline hse) fun σ H Q ⟨m, h, ρ, R, S, q⟩ => ?_, fun ρ h Q Q' w q => hd.mono _ _ _ _ (fun d h1 q1 => ?_) q⟩
  · refine LE.bind hd.mono R S q fun m1 H1 u y h1 s1 R1 ry S1 q1 => ?_
    cases ry with
    | @ref n a em =>
      dsimp only at q1
      split at q1
      next kvs e =>
        obtain ⟨vs, ea, rk⟩ := R1.at_ _ _ _ em e
        exact ⟨a, vs, rfl, ea, UpX.laid R1 rk.2 (UpX.step s1 R1 q1)⟩
      next => exact q1.elim
    | _ => exact q1.elim
  · match d, q1 with
    | .ref n, q1 =>
      dsimp only at q1 ⊢
      split at q1
      · exact w _ _ q1
      · exact q1.elim
def valD3 (x : D) (h : Sto) (Q : List D → Sto → Prop) : Prop := match x with
  | .ref n => match h[n]? with
    | some (.dK kvs) => Q (kvs.map Prod.snd) h
    | _ => False
  | _ => False
theorem tVals_q {t : E3} {ρ : S3} {h : Sto} {Q : List D → Sto → Prop} : tVals t ρ h Q = t ρ h fun x h1 => valD3 x h1 Q := id rfl
theorem valD3_of {n : Nat} {kvs : List (Key × D)} {h : Sto} {Q : List D → Sto → Prop} (e : h[n]? = some (.dK kvs)) (q : Q (kvs.map Prod.snd) h) : valD3 (.ref n) h Q := by
  unfold valD3
  simp only [e]
  exact q
theorem dninR_mono : ∀ x y h (Q Q' : DK), (∀ d h', Q d h' → Q' d h') → dninR x y h Q → dninR x y h Q' := fun x y h Q Q' w q => by
  unfold dninR at q ⊢
  split at q
  · split at q
    · split at q
      · exact w _ _ q
      · exact q.elim
    · exact q.elim
  · exact q.elim
theorem dnin_lift {ta tb : E3} (ma : MonoE ta) (mb : MonoE tb) {σ : L2.St} {H : Hp} {Q : VK} (q : LE X.K (tO dninR ta tb) σ H Q) : tDNotIn (LE X.K ta) (LE X.K tb) σ H Q := by
  obtain ⟨m, h, ρ, R, S, q⟩ := q
  refine LE.bind ma R S q fun m1 H1 v x h1 s1 R1 rx S1 q1 => ?_
  refine LE.bind mb R1 S1 q1 fun m2 H2 u y h2 s2 R2 ry S2 q2 => ?_
  unfold dninR at q2
  split at q2
  next n =>
    split at q2
    next kvs e =>
      split at q2
      next k ek =>
        obtain ⟨aa, vs, rfl, em, ea, rk⟩ := R2.dk ry e
        refine ⟨aa, valV vs k, rfl, ?_, ?_⟩
        · rw [keyD_rel (rx.step R1 s2) ek]
          exact DGet.k ea
        · have : (valV vs k).isSome = (valD kvs k).isSome := by
            rcases rk.val k with ⟨z1, z2⟩ | ⟨d', v', e1, e2, rd⟩
            · rw [z1, z2]; rfl
            · rw [e1, e2]; rfl
          rw [this]
          exact q2 m2 H2 _ (s1.trans s2) R2 (.bl _)
      next => exact q2.elim
    next => exact q2.elim
  next => exact q2.elim
theorem e3_dnin {a b : Expr} {ta tb : E3} {pos : Pos} (hu : X.A.units + 64 < cLine) (ha : PE3 X a ta) (hb : PE3 X b tb) (hm : behindInMarks .NotIn b = false := by first | exact nomark _ | with_unfolding_all rfl) : PE3 X (.Compare a [.NotIn] [b] pos) (tO dninR ta tb) :=
  ⟨PE.weak (pe_cmp (pc_dnotin (by omega) ha.pe hb.pe) hm) fun σ H Q q => dnin_lift ha.mono hb.mono q, MonoE.op dninR_mono ha.mono hb.mono⟩
theorem b3_dnin {a b : Expr} {ta tb : E3} {pos : Pos} (hu : X.A.units + 64 < cLine) (ha : PE3 X a ta) (hb : PE3 X b tb) (hm : behindInMarks .NotIn b = false := by first | exact nomark _ | with_unfolding_all rfl) : PB3 X (.Compare a [.NotIn] [b] pos) (tT (tO dninR ta tb)) := by
  have mo : MonoE (tO dninR ta tb) := MonoE.op dninR_mono ha.mono hb.mono
  exact ⟨PT.weak (pt_cmp (pc_dnotin (by omega) ha.pe hb.pe) hm) fun σ H Q q => dnin_lift ha.mono hb.mono (tT_lift mo q), MonoB.tT mo⟩
theorem dinR_of {x : Int} {n : Nat} {kvs : List (Key × D)} {h : Sto} {Q : DK} (e : h[n]? = some (.dK kvs)) : dinR (.int x) (.ref n) h Q = Q (.bl (valD kvs (Sum.inl x)).isSome) h := by
  unfold dinR
  simp only [e, keyD]
theorem dninR_of {x : Int} {n : Nat} {kvs : List (Key × D)} {h : Sto} {Q : DK} (e : h[n]? = some (.dK kvs)) : dninR (.int x) (.ref n) h Q = Q (.bl (!(valD kvs (Sum.inl x)).isSome)) h := by
  unfold dninR
  simp only [e, keyD]
end
end F3
set_option maxHeartbeats 1000000
/-! HI: o[i] += e, of a list of ints. -/
namespace F3
open PySem PySem.Spec PyProof.Rows L2
section
variable {X : Cx}
def rGet0 : V → V → Hp → VK → Prop := fun o i H Q => ∃ p xs k v, o = .ref p ∧ i = .int k ∧ 0 ≤ k ∧ H p = some (.lst xs) ∧ atI xs k = some v ∧ Q v H
theorem get_list0 : PGet X rGet0 := by
  intro pins s σ H o i ov iv Q I ro ri h
  obtain ⟨p, xs, k, z, rfl, rfl, h0, hp, he, q⟩ := h
  cases ro
  obtain ⟨t, rfl⟩ := ri
  obtain ⟨its, r, pl, hz⟩ := I.list (.inl (.inl hp))
  obtain ⟨j, h1, h2, h3, h4, h5⟩ := L2.atI_get he
  obtain ⟨w, ew, rw'⟩ := r.get h2
  have hl := r.length
  have hn := line63
  have hj : k.toNat = j := by
    rw [seqIndex_of h0 h5] at h1
    exact Option.some.inj h1
  exact wpAny_getItem_list (x := w) pl.isList h0 (by omega) (by rw [hj]; simpa using ew) ⟨z, H, I, rw', q⟩
/-- o[i] += e : o a list of ints -/
def augSR (o i : D) (h : Sto) (te : (D → Sto → Prop) → Prop) (Q : Sto → Prop) : Prop := match o, i with
  | .ref n, .int k => 0 ≤ k ∧ match h[n]? with
    | some (.lst xs) => match ixN xs.length k with
      | some j => match xs[j]? with
        | some (.int a) => te fun y h1 => match y, h1[n]? with
          | .int b, some (.lst ys) => ys.length = xs.length ∧ Q (h1.set n (.lst (ys.set j (.int (a + b)))))
          | _, _ => False
        | _ => False
      | none => False
    | _ => False
  | _, _ => False
def cAugS (to ti te : E3) : C3 := fun E ρ h => to ρ h fun o h1 => ti ρ h1 fun i h2 => augSR o i h2 (te ρ h2) (E.nx ρ)
theorem c3_augS {o i e : Expr} {to ti te : E3} {tpos pos : Pos} (ho : PE3 X o to) (hi : PE3 X i ti) (he : PE3 X e te)
    (ha : ∀ ov iv new, augStore i ov iv new = (do holding [new, ov, iv] (setItem ov iv new); release [new, ov, iv] []; pure .next) := by intros; rfl) : PC3 X (.AugAssign (.Subscript o i tpos) .Add e pos) (cAugS to ti te) := by
  refine ⟨PS.weak (ps_augS ho.pe hi.pe get_list0 he.pe ip_add set_list ha) fun D σ H ⟨m, h, ρ, R, S, q⟩ => ?_, fun D D' ρ h w q => ho.mono _ _ _ _ (fun o h1 q1 => hi.mono _ _ _ _ (fun i h2 q2 => ?_) q1) q⟩
  · refine LE.bind ho.mono R S q fun m1 H1 ov o' h1 s1 R1 ro S1 q1 => ?_
    refine LE.bind hi.mono R1 S1 q1 fun m2 H2 iv i' h2 s2 R2 ri S2 q2 => ?_
    unfold augSR at q2
    split at q2
    next n k =>
      cases ri
      obtain ⟨k0, q2⟩ := q2
      split at q2
      next xs e =>
        obtain ⟨a, vs, rfl, em, ea, rs⟩ := RelD.inst R2 (ro.step R1 s2) e
        split at q2
        next j ej =>
          split at q2
          next x ex =>
            obtain ⟨v, ev, rv⟩ := rs.get ex
            cases rv
            have at_ : atI vs k = some (.int x) := by
              unfold atI
              rw [← rs.length]
              rw [ej]
              exact ev
            refine ⟨a, vs, k, _, rfl, rfl, k0, ea, at_, ?_⟩
            refine LE.bind he.mono R2 S2 q2 fun m3 H3 yv y h3 s3 R3 ry S3 q3 => ?_
            split at q3
            next b ys ey =>
              cases ry
              obtain ⟨yl, q3⟩ := q3
              have em3 : m3[n]? = some a := s3.get em
              obtain ⟨a', us, e', em', ea', rs'⟩ := RelD.inst R3 ((ro.step R1 s2).step R2 s3) ey
              cases e'
              refine ⟨x, b, rfl, rfl, a, us, k, j, rfl, rfl, ea', by rw [← rs'.length, yl]; exact ej, ?_⟩
              have st := (s1.trans s2).trans s3
              have hm : a ∈ m3 := List.mem_of_getElem? em3
              refine q3 m3 _ σ (st.trans (Step.put hm)) (R3.put em3 ⟨_, upd_same, ?_⟩) (S3.step R3 (Step.put hm))
              exact ((rs'.set (.int _) j).step R3 (Step.put hm))
            next => exact q3.elim
          next => exact q2.elim
        next => exact q2.elim
      next => exact q2.elim
    next => exact q2.elim
  · unfold augSR at q2 ⊢
    split at q2
    · obtain ⟨k0, q2⟩ := q2
      refine ⟨k0, ?_⟩
      split at q2
      · split at q2
        · split at q2
          · refine he.mono _ _ _ _ (fun y h3 q3 => ?_) q2
            split at q3
            · exact ⟨q3.1, w.nx _ _ q3.2⟩
            · exact q3.elim
          · exact q2.elim
        · exact q2.elim
      · exact q2.elim
    · exact q2.elim
end
end F3
set_option maxHeartbeats 1000000
/-! HJ: sorted(d) of a dict of int keys. -/
namespace F3
open PySem PySem.Spec PyProof.Rows L2
section
variable {X : Cx}
theorem coll_dk {A : Around} {E : Value → Shared → Prop} {s : Shared} {T : String} {r d : Addr} {n : Nat} {P : Nat → Value → Prop} {OK : Heap → Prop} {R : List Value → Shared → Prop} (K : PySem.W.KdlSrc X.prog X.w T r d n P OK) (hh : A.handled = none) (hok : OK s.heap) (hn : n ≤ sizeLine)
    (h : ∀ (h' : Heap) (tk : Nat) (acc : Array Value), (∀ b o, s.heap.get? b = some o → h'.get? b = some o) → s.heap.objs.size < h'.objs.size → ItemsOf P acc n → R acc.toList { s with heap := h', toks := tk }) :
    wpAny (model X.prog X.w) A (collect (.ref r)) R E s := by
  have lt := K.there _ hok
  unfold collect
  refine wpAny_bind (wpAny_runValue (codeAny_builtin entry_proto_collect' ?_))
  rw [Around.under_plainId PySem.F.plain_proto_collect _]
  show wpAny _ A.in1 (newList [] >>= fun l => again (.builtin "list.__iadd__" ⟨[l, .ref r], []⟩)) _ _ s
  refine wpAny_bind (wpAny_newObj_type (wpAny_pure ⟨plainId_quiet PySem.F.plain_list_iadd _, codeAny_builtin entry_list_iadd' ?_⟩))
  rw [Around.under_plainId PySem.F.plain_list_iadd _]
  show wpAny _ A.in1 (Builtin.List.listExtendWith (.ref s.heap.objs.size) (.ref r) (.ref s.heap.objs.size)) _ _ _
  -- what the walk leaves
  have go := PySem.W.kdl_extend (A := A) (s := { s with heap := s.heap.push { cls := .type "list", data := .seq ([] : List Value).toArray } })
    (R := fun (q : Result) (s' : Shared) => ∃ h' tk acc c', q = .ok (.ret (.ref s.heap.objs.size)) ∧ s' = { s with heap := h', toks := tk } ∧ (∀ b o, s.heap.get? b = some o → h'.get? b = some o) ∧
      h'.get? s.heap.objs.size = some { cls := .type "list", dict := none, data := .seq acc c', slots := #[] } ∧ ItemsOf P acc n)
    K hh (K.keep _ _ hok fun b _ o e => Heap.get?_push_of_some _ e) s.heap.objs.size (Nat.ne_of_gt lt.1) (Nat.ne_of_gt lt.2) (.ref s.heap.objs.size) 0 (Heap.get?_push_size _ rfl)
    (fun h' tk acc c' k at_ it => ⟨h', tk, acc, c', rfl, rfl, fun b o e => k b o (Nat.ne_of_lt (Heap.lt_size e)) (Heap.get?_push_of_some _ e), at_, it⟩) hn
  have fin : ∀ {q : Result} {s' : Shared}, (∃ h' tk acc c', q = .ok (.ret (.ref s.heap.objs.size)) ∧ s' = { s with heap := h', toks := tk } ∧ (∀ b o, s.heap.get? b = some o → h'.get? b = some o) ∧
      h'.get? s.heap.objs.size = some { cls := .type "list", dict := none, data := .seq acc c', slots := #[] } ∧ ItemsOf P acc n) → ∃ h' tk acc c', q = .ok (.ret (.ref s.heap.objs.size)) ∧ s' = { s with heap := h', toks := tk } ∧ h'.get? s.heap.objs.size = some { cls := .type "list", dict := none, data := .seq acc c', slots := #[] } ∧ R acc.toList { s with heap := h', toks := tk } :=
    fun ⟨h', tk, acc, c', e1, e2, k, at_, it⟩ => ⟨h', tk, acc, c', e1, e2, at_, h h' tk acc k (Heap.lt_size at_) it⟩
  refine wpAny_mono go (fun f s' x => ?_) fun e s' x => ?_
  · cases f with
    | done v =>
      obtain ⟨h', tk, acc, c', e, rfl, at_, z⟩ := fin x
      cases e
      show wpAny _ A (load s.heap.objs.size >>= _) _ _ _
      exact wpAny_bind (wpAny_load at_ (wpAny_pure z))
    | again c₁ =>
      refine ⟨x.1, codeAny_mono x.2 fun q s₂ y => ?_⟩
      obtain ⟨h', tk, acc, c', rfl, rfl, at_, z⟩ := fin y
      show wpAny _ A (load s.heap.objs.size >>= _) _ _ _
      exact wpAny_bind (wpAny_load at_ (wpAny_pure z))
  · obtain ⟨_, _, _, _, e', _⟩ := x
    cases e'
theorem key_int {P : Program} {w : World} {k : Key} {i : Int} {u : Value} (e : k = .inl i) (h : (mixKind P w).is k u = true) : RelV (V.int i) u := by
  rw [mixKind_is] at h
  rcases keyIs_shape h with ⟨j, t, e1, e2⟩ | ⟨x, t, e1, e2⟩
  · rw [e] at e1
    injection e1 with e1
    exact ⟨t, by rw [e1]; exact e2⟩
  · rw [e] at e1
    cases e1
theorem keys_vals {P : Program} {w : World} : ∀ {ws : List (Key × Value)} {ns : List Int} {acc : List Value}, ws.map (·.1) = ns.map Sum.inl → acc.length = ws.length → (∀ (j : Nat) (v : Value), acc[j]? = some v → ∃ k x, ws[j]? = some (k, x) ∧ (mixKind P w).is k v = true) → Vals (ns.map V.int) acc
  | [], [], [], _, _, _ => .nil
  | p :: ws, n :: ns, a :: acc, hk, hl, h => by
    injection hk with h1 h2
    obtain ⟨k, x, e1, e2⟩ := h 0 a rfl
    have e1 : p = (k, x) := Option.some.inj e1
    refine .cons (key_int (k := k) (by rw [← h1, e1]) e2) (keys_vals (P := P) (w := w) h2 (by simpa using hl) fun j v e => ?_)
    obtain ⟨k, x, h3, h4⟩ := h (j + 1) v (by simpa using e)
    exact ⟨k, x, by simpa using h3, h4⟩
  | [], [], _ :: _, _, hl, _ => by cases hl
  | [], _ :: _, _, hk, _, _ => by cases hk
  | _ :: _, [], _, hk, _, _ => by cases hk
  | _ :: _, _ :: _, [], _, hl, _ => by cases hl
def rSortedDK : List V → Hp → VK → Prop := fun vs H Q => ∃ (a : Addr) (kvs : List (Key × V)) (ns : List Int), vs = [V.ref a] ∧ H a = some (.dK kvs) ∧ kvs.map (·.1) = ns.map Sum.inl ∧
  ∀ (ns' : List Int) (p : Addr), ns'.Perm ns → ns'.Pairwise (· ≤ ·) → H p = none → Q (.ref p) (upd H p (.lst (ns'.map V.int)))
theorem cr_sortedDK (hc : X.calm = true) : CallR X (.builtin "sorted") rSortedDK := by
  intro pins s σ H vs us Q I r h
  obtain ⟨a, kvs, ns, rfl, ha, hk, q⟩ := h
  rw [Vals.ref1 r]
  obtain ⟨hz, hsys, ws, rel, dof⟩ := dk_of I.hok ha
  obtain ⟨ep, dat⟩ := dof.dictAt
  have hl := KV.length rel
  refine Calls.call_function_entry kind_sorted plain_sorted entry_sorted (args_sorted1 _) ?_
  unfold Builtin.«sorted»
  refine wpAny_bind (m := checkCount "sorted" 1 1 _) (wpAny_pure ?_)
  refine wpAny_bind (coll_dk (A := X.A.in1) (PySem.W.kdl_dict (knd := mixKind X.prog X.w) (kvs := ws) (ep := ep) hsys) (I.ok.hd hc) dat (by rw [← hl]; exact hz) fun h' tk acc hkp szl hacc => ?_)
  have wk : ws.map (·.1) = ns.map Sum.inl := by
    rw [← hk]
    have : ∀ {ks : List (Key × V)} {us : List (Key × Value)}, KV ks us → us.map (·.1) = ks.map (·.1) := by
      intro ks
      induction ks with
      | nil => intro us r; cases r; rfl
      | cons p ks ih =>
        intro us r
        cases r with
        | cons h1 h2 => rw [List.map_cons, List.map_cons, ih h2, h1.1]
    exact this rel
  have rv : Vals (ns.map V.int) acc.toList := keys_vals (P := X.prog) (w := X.w) wk (by rw [Array.length_toList]; exact hacc.1) fun j v e => hacc.2 j v (by rw [← Array.getElem?_toList]; exact e)
  have hi := rv.ints
  have al : acc.toList.length = ns.length := by
    have := rv.length
    rw [List.length_map] at this
    exact this.symm
  have nl : ns.length = kvs.length := by
    have := congrArg List.length hk
    rw [List.length_map, List.length_map] at this
    exact this.symm
  have hz' : acc.toList.length ≤ sizeLine := by rw [al, nl]; exact hz
  refine wpAny_bind (wpAny_newList ?_ hz')
  have hoL : (h'.push (seqObj "list" acc.toList.toArray 0)).get? h'.objs.size = some (seqObj "list" acc.toList.toArray 0) := Heap.get?_push_size _ rfl
  refine wpAny_bind (wpAny_holding (wpAny_call_entry slot_list_sort ⟨_, hoL, rfl⟩ entry_list_sort (SrtO.list_sort_ord SrtO.swo_int hoL hz' (fun h2 => SrtO.ints_sortable hi h2) fun out h1 h2 => ⟨_, rfl, ?_⟩) (args_list_sort _)))
  obtain ⟨k1, k2, k3⟩ := SrtO.ints_out hi h1 h2
  obtain ⟨ep2, he'⟩ := PyProof.Rows.sortedHeap_at (vs := acc.toList) (out := out.toArray) hoL
  have hlen : ((out.map SrtO.iv).map V.int).length ≤ sizeLine := by
    rw [List.length_map, k2.length_eq, ← al]
    exact hz'
  have sz : s.heap.objs.size ≤ h'.objs.size := Nat.le_of_lt szl
  refine wpAny_pure ⟨_, rfl, .ref _, upd H h'.objs.size (.lst ((out.map SrtO.iv).map V.int)), I.laid (t' := tk) (fun b u e => ?_) sz ⟨hlen, out, ep2, vals_of_ints k1, he'⟩, rfl, q _ _ k2 k3 (I.hok.fresh sz)⟩
  have hb := hkp b u e
  rw [PyProof.Rows.sortedHeap_old (Nat.ne_of_lt (Heap.lt_size hb)) (by rw [size_push']; exact Nat.lt_succ_of_lt (Heap.lt_size hb))]
  exact Heap.get?_push_of_some _ hb
/-- sorted(d) -/
def sdkM : M3 := fun xs h Q => match xs with
  | [.ref n] => match h[n]? with
    | some (.dK kvs) => ∃ ns : List Int, kvs.map (·.1) = ns.map Sum.inl ∧ ∀ ns' : List Int, ns'.Perm ns → ns'.Pairwise (· ≤ ·) → Q (ns'.map .int) h
    | _ => False
  | _ => False
theorem sdkM_of {n : Nat} {h : Sto} {kvs : List (Key × D)} {ns : List Int} {Q : List D → Sto → Prop} (e : h[n]? = some (.dK kvs)) (hk : kvs.map (·.1) = ns.map Sum.inl) (q : ∀ ns' : List Int, ns'.Perm ns → ns'.Pairwise (· ≤ ·) → Q (ns'.map .int) h) : sdkM [.ref n] h Q := by
  unfold sdkM
  simp only [e]
  exact ⟨ns, hk, q⟩
theorem kl_sortedK (hc : X.calm = true) : CallL3 X (.builtin "sorted") sdkM := by
  refine ⟨fun xs h Q Q' w q => ?_, _, cr_sortedDK hc, fun m h H xs vs Q R rs q => ?_⟩
  · unfold sdkM at q ⊢
    split at q
    · split at q
      · obtain ⟨ns, hk, q⟩ := q
        exact ⟨ns, hk, fun ns' h1 h2 => w _ _ (q ns' h1 h2)⟩
      · exact q.elim
    · exact q.elim
  · unfold sdkM at q
    split at q
    next n =>
      split at q
      next kvs e =>
        obtain ⟨ns, hk, q⟩ := q
        match vs, rs with
        | [_], .cons r .nil =>
          obtain ⟨a, ws, rfl, em, ea, rk⟩ := R.dk r e
          exact ⟨a, ws, ns, rfl, ea, by rw [rk.keys]; exact hk, fun ns' p h1 h2 hp => UpX.laid R (srt_ints ns') (q ns' h1 h2) p hp⟩
      next => exact q.elim
    next => exact q.elim
end
end F3
set_option maxHeartbeats 1000000
/-! HK: t.split(s), a new list of texts. -/
namespace F3
open PySem PySem.Spec PyProof.Rows L2
section
variable {X : Cx}
def splR (x y : D) (h : Sto) (Q : List D → Sto → Prop) : Prop := match x, y with
  | .str a, .str b => ((b.length == 0) = false ∧ a.length + 2 ≤ sizeLine) ∧ Q ((Txt.split a b).map D.str) h
  | _, _ => False
def tSplit (t s : E3) : A3 := fun ρ h Q => t ρ h fun x h1 => (∃ a, x = .str a) ∧ s ρ h1 fun y h2 => splR x y h2 Q
theorem rel_strs {K : PySem.W.Frag} {m : List Addr} {H : Hp} : ∀ l : List Str, RelDs K m H (l.map D.str) (l.map V.str)
  | [] => .nil
  | a :: r => .cons (.str a) (rel_strs r)
theorem x3_split {o e : Expr} {to te : E3} {apos pos : Pos} (ho : PE3 X o to) (he : PE3 X e te) (hs : starEach [e] X.env = [(false, eval e X.env)] := by rfl) (hbase : attributeBase o "split" X.env (eval o X.env) = eval o X.env := by rfl) (hline : (apos.endLine == pos.line) = true := by rfl) :
    PX3 X (.Call (.Attribute o "split" apos) [e] [] pos) (tSplit to te) := by
  refine ⟨PE.weak (pe_split ho.pe he.pe hs hbase hline) fun σ H Q ⟨m, h, ρ, R, S, q⟩ => ?_, fun ρ h Q Q' w q => ho.mono _ _ _ _ (fun x h1 q1 => ⟨q1.1, he.mono _ _ _ _ (fun y h2 q2 => ?_) q1.2⟩) q⟩
  · refine LE.bind ho.mono R S q fun m1 H1 v x h1 s1 R1 rx S1 q1 => ?_
    obtain ⟨⟨a, rfl⟩, q1⟩ := q1
    cases rx
    refine ⟨⟨a, rfl⟩, ?_⟩
    refine LE.bind he.mono R1 S1 q1 fun m2 H2 u y h2 s2 R2 ry S2 q2 => ?_
    unfold splR at q2
    split at q2
    next a' b e =>
      cases e
      cases ry
      exact ⟨a, b, rfl, rfl, q2.1.1, q2.1.2, UpX.laid R2 (rel_strs _) (UpX.step (s1.trans s2) R2 q2.2)⟩
    next => exact q2.elim
  · unfold splR at q2 ⊢
    split at q2
    · exact ⟨q2.1, w _ _ q2.2⟩
    · exact q2.elim
theorem tSplit_q {t s : E3} {ρ : S3} {h : Sto} {Q : List D → Sto → Prop} : tSplit t s ρ h Q = t ρ h fun x h1 => (∃ a, x = .str a) ∧ s ρ h1 fun y h2 => splR x y h2 Q := id rfl
end
end F3
set_option maxHeartbeats 1000000
/-! HL: int(text); the signs of a text, walked; a text in a text. -/
namespace F3
open PySem PySem.Spec PyProof.Rows L2
section
variable {X : Cx}
def intSR : N3 := fun xs h Q => match xs with
  | [.str a] => ∃ n, PySem.intText? a = some n ∧ a.length ≤ 640 ∧ Q (.int n) h
  | _ => False
theorem k_intSR : Call3 X (.type "int") intSR := by
  refine ⟨fun xs h Q Q' w q => ?_, _, call_int_str, fun m h H xs vs Q R rs q => ?_⟩
  · unfold intSR at q ⊢
    split at q
    · obtain ⟨n, a, b, q⟩ := q
      exact ⟨n, a, b, w _ _ q⟩
    · exact q.elim
  · unfold intSR at q
    split at q
    next a =>
      obtain ⟨n, e, hl, q⟩ := q
      match vs, rs with
      | [_], .cons r .nil =>
        cases r
        exact ⟨a, n, rfl, e, hl, q m H _ .refl R (.int n)⟩
    · exact q.elim
/-! ### the signs of a text -/
def sgs (z : Str) : List D := z.cps.toList.map fun c => D.str ⟨#[c]⟩
theorem serves_str {K : PySem.W.Frag} {m : List Addr} {H : Hp} (z : Str) : Serves K (Its z) (sgs z) (fun _ => True) m H := by
  refine ⟨fun m1 H1 h1 s1 R1 st i x hx => ?_, fun m1 H1 h1 s1 R1 st i hi => ?_⟩
  · unfold sgs at hx
    rw [List.getElem?_map] at hx
    cases e : z.cps.toList[i]? with
    | none => rw [e] at hx; cases hx
    | some c =>
      rw [e] at hx
      injection hx with hx
      subst hx
      have hl : i < z.cps.size := by
        have := (List.getElem?_eq_some_iff.mp e).1
        simpa using this
      refine ⟨hl, fun v' H' ⟨e1, c', e2, e3⟩ => ?_⟩
      subst e1
      subst e3
      have : c' = c := by
        rw [Array.getElem?_toList, e2] at e
        exact Option.some.inj e
      subst this
      exact ⟨.refl, R1, .str _⟩
  · show z.cps.size ≤ i
    unfold sgs at hi
    simpa using hi
def iSgs (t : E3) : I3 := fun ρ h Q => t ρ h fun d h1 => match d with
  | .str z => Q (sgs z) (fun _ => True) h1
  | _ => False
theorem i3_str {tg l : Expr} {t : E3} (hl : PE3 X l t) : PI3 X tg l (iSgs t) := by
  refine ⟨PI.weak (pi_str hl.pe) fun σ H R ⟨m, h, ρ, Rp, S, q⟩ => ?_, fun ρ h Q Q' w q => hl.mono _ _ _ _ (fun d h1 q1 => ?_) q⟩
  · refine LE.bind hl.mono Rp S q fun m1 H1 v x h1 s1 R1 rx S1 q1 => ?_
    cases rx with
    | str z => exact ⟨z, rfl, q1 m1 H1 _ s1 R1 (serves_str z)⟩
    | _ => exact q1.elim
  · cases d with
    | str z => exact w _ _ _ q1
    | _ => exact q1
/-! ### a text in a text -/
def inSR : R3 := fun x y h Q => match x, y with
  | .str i, .str j => Q (.bl (!(Builtin.Str.occurrences j i 0 j.length 1).isEmpty)) h
  | _, _ => False
theorem o_inS : Op3 X (compareOp .In) inSR := by
  refine ⟨fun x y h Q Q' w q => ?_, _, op_in_str, fun m h H x y v u Q R rx ry q => ?_⟩
  · unfold inSR at q ⊢
    split at q
    · exact w _ _ q
    · exact q.elim
  · unfold inSR at q
    split at q
    next i j =>
      cases rx
      cases ry
      exact ⟨i, j, rfl, rfl, q m H _ .refl R (.bl _)⟩
    next => exact q.elim
end
end F3
set_option maxHeartbeats 1000000
/-! HP: t.index(k) of a tuple of three ints. -/
namespace F3
open PySem PySem.Spec PyProof.Rows L2
def tTixV (to : TE) (t : TA) : TE := fun σ H Q => to σ H fun x H1 => ∃ a vs, x = .ref a ∧ Mk3 vs = true ∧ TupA H1 a vs ∧ t σ H1 fun xs H2 => ∃ (ns : List Int) (k : Int), xs = [.int k] ∧ TupA H2 a (ns.map V.int) ∧ k ∈ ns ∧ Q (.int (ns.idxOf k : Nat)) H2
section
variable {X : Cx} {o e : Expr} {es : List Expr} {name : Str} {to : TE} {t : TA} {apos cpos : Pos}
theorem pe_tix (slot : Slot "tuple" name "tuple.index") (ho : PE X o to) (ha : PA X (e :: es) t)
    (hb : attributeBase o name X.env (eval o X.env) = eval o X.env := by rfl)
    (hf : ((backTo cpos (starEach (e :: es) X.env)).all (fun x => !x.1) && (backToKw cpos (keywordEach [] X.env)).all (fun x => x.1.isSome) && decide ((e :: es).length + ([] : List Keyword).length + (if ([] : List Keyword).isEmpty then 0 else 1) < 30)) = true := by rfl)
    (hl : (apos.endLine == cpos.line) = true := by rfl) (hs : starEach (e :: es) X.env = (false, eval e X.env) :: starEach es X.env := by rfl) (hp : (backTo cpos (starEach es X.env)).any (·.1) = false := by rfl) :
    PE X (.Call (.Attribute o name apos) (e :: es) [] cpos) (tTixV to t) := by
  refine ⟨fun pins s σ H Q I h => ?_⟩
  unfold tTixV at h
  refine wpAny_Call_method_late (trees := backTo cpos (starEach (e :: es) X.env)) hb hf hl rfl ?_
  refine (thn (ho.run pins s σ H _ I h) fun v s1 ⟨x, H1, I1, r1, q⟩ => ?_)
  obtain ⟨a, vs, ex, h3, tx, q1⟩ := q
  subst ex
  obtain rfl : v = .ref a := r1
  obtain ⟨t1, t2⟩ := tupK_is I1 h3 tx
  refine ⟨"tuple", "tuple.index", PySem.F.plainAttrs_tuple, slot, PySem.F.type_tuple_index, t1, t2, ?_⟩
  have hA := ha.run cpos pins s1 σ H1 _ I1 q1
  rw [hs] at hA ⊢
  refine Calls.callWith_builtin (by show (false || (backTo cpos (starEach es X.env)).any (·.1)) = false; rw [hp] <;> rfl) (Calls.evalArgs_plain ?_)
  refine thn hA fun us s2 ⟨xs, H2, I2, r2, q⟩ => ?_
  obtain ⟨ns, k, ey, tx2, hk, q2⟩ := q
  subst ey
  obtain ⟨u, rfl, ru⟩ := vals1 r2
  obtain ⟨tk, rfl⟩ := ru
  obtain ⟨its, rv, pt, hz⟩ := I2.tuple (TH tx2)
  have ia : IntsAre its ns := intsAre_of rv
  have fin : EP X pins σ Q (.int (ns.idxOf k : Nat) s2.toks) { s2 with toks := s2.toks + 1 } := ⟨.int (ns.idxOf k : Nat), H2, I2.tok _, ⟨_, rfl⟩, q2⟩
  exact PySem.SeqAt.tuple_index_ints pt ia hk fin
/-- t.index(k) -/
def tixE (ns : List Int) (Q : DK) (ds : List D) (h : Sto) : Prop := match ds with
  | [.int k] => k ∈ ns ∧ Q (.int (ns.idxOf k : Nat)) h
  | _ => False
def tixD (x : D) (ta : A3) (ρ : S3) (h : Sto) (Q : DK) : Prop := match x with
  | .tup xs => onIs (intsOf xs) fun ns => ns.length = 3 ∧ ta ρ h fun ds h2 => tixE ns Q ds h2
  | _ => False
def tTix (to : E3) (ta : A3) : E3 := fun ρ h Q => to ρ h fun x h1 => tixD x ta ρ h1 Q
theorem mk3_of {K : PySem.W.Frag} {m : List Addr} {H : Hp} {ns : List Int} {vs : List V} (r : RelDs K m H (ns.map .int) vs) (h : ns.length = 3) : Mk3 vs = true := by
  rw [RelDs.ints r]
  match ns, h with
  | [a, b, c], _ => rfl
theorem tixE_mono {ns : List Int} {ds : List D} {h : Sto} {Q Q' : DK} (w : ∀ d h, Q d h → Q' d h) (q : tixE ns Q ds h) : tixE ns Q' ds h := by
  unfold tixE at q ⊢
  split at q
  · exact ⟨q.1, w _ _ q.2⟩
  · exact q.elim
theorem tixD_mono {x : D} {ta : A3} (ma : MonoA ta) {ρ : S3} {h : Sto} {Q Q' : DK} (w : ∀ d h, Q d h → Q' d h) (q : tixD x ta ρ h Q) : tixD x ta ρ h Q' := by
  cases x with
  | tup xs =>
    unfold tixD onIs at q ⊢
    dsimp only at q ⊢
    split at q
    · exact ⟨q.1, ma _ _ _ _ (fun ds h2 q2 => tixE_mono w q2) q.2⟩
    · exact q.elim
  | _ => exact q.elim
theorem e3_tix {to : E3} {ta : A3} (slot : Slot "tuple" name "tuple.index") (ho : PE3 X o to) (ha : PA3 X (e :: es) ta)
    (hb : attributeBase o name X.env (eval o X.env) = eval o X.env := by rfl)
    (hf : ((backTo cpos (starEach (e :: es) X.env)).all (fun x => !x.1) && (backToKw cpos (keywordEach [] X.env)).all (fun x => x.1.isSome) && decide ((e :: es).length + ([] : List Keyword).length + (if ([] : List Keyword).isEmpty then 0 else 1) < 30)) = true := by rfl)
    (hl : (apos.endLine == cpos.line) = true := by rfl) (hs : starEach (e :: es) X.env = (false, eval e X.env) :: starEach es X.env := by rfl) (hp : (backTo cpos (starEach es X.env)).any (·.1) = false := by rfl) :
    PE3 X (.Call (.Attribute o name apos) (e :: es) [] cpos) (tTix to ta) := by
  refine ⟨PE.weak (pe_tix slot ho.pe ha.pe hb hf hl hs hp) fun σ H Q ⟨m, h, ρ, R, S, q⟩ => ?_, fun ρ h Q Q' w q => ho.mono _ _ _ _ (fun d h1 q1 => tixD_mono ha.mono w q1) q⟩
  refine LE.bind ho.mono R S q fun m1 H1 v x h1 s1 R1 rx S1 q1 => ?_
  cases rx with
  | tup sq r =>
    unfold tixD onIs at q1
    dsimp only at q1
    split at q1
    next ns en =>
      have e1 := intsOf_eq en
      subst e1
      refine ⟨_, _, rfl, mk3_of r q1.1, sq, ?_⟩
      refine LA.bind ha.mono R1 S1 q1.2 fun m2 H2 vs ds h2 s2 R2 rs S2 q2 => ?_
      unfold tixE at q2
      split at q2
      next k =>
        match vs, rs with
        | [_], .cons (.int _) .nil =>
          have sq2 := TupA.step R1 s2 sq
          rw [RelDs.ints r] at sq2
          exact ⟨ns, k, rfl, sq2, q2.1, q2.2 m2 H2 _ (s1.trans s2) R2 (.int _)⟩
      next => exact q2.elim
    next => exact q1.elim
  | _ => exact q1.elim
end
theorem tTix_q {to : E3} {ta : A3} {ρ : S3} {h : Sto} {Q : DK} : tTix to ta ρ h Q = to ρ h fun x h1 => tixD x ta ρ h1 Q := id rfl
theorem tixD_q {xs : List D} {ta : A3} {ρ : S3} {h : Sto} {Q : DK} : tixD (.tup xs) ta ρ h Q = onIs (intsOf xs) fun ns => ns.length = 3 ∧ ta ρ h fun ds h2 => tixE ns Q ds h2 := id rfl
theorem tixE_q {ns : List Int} {k : Int} {h : Sto} {Q : DK} : tixE ns Q [.int k] h = (k ∈ ns ∧ Q (.int (ns.idxOf k : Nat)) h) := id rfl
end F3
set_option maxHeartbeats 400000
/-! SB: sheets drawn. -/
namespace F3
open PySem PySem.Spec PyProof.Rows L2
/-! ### a number drawn of a list of one -/
def Rs (h : Sto) (a : Nat) (x : Int) (g : Sto) : Sto := h.set a (.lst [.int x]) ++ g
section
variable {h g k : Sto} {a : Nat} {x y : Int}
theorem Rs_len : (Rs h a x g).length = h.length + g.length := by simp [Rs]
theorem Rs_app : Rs h a x g ++ k = Rs h a x (g ++ k) := by simp [Rs]
theorem Rs_getA (ha : a < h.length) : (Rs h a x g)[a]? = some (.lst [.int x]) := by
  unfold Rs
  rw [List.getElem?_append_left (by simpa using ha), List.getElem?_set_self (by simpa using ha)]
theorem Rs_setA (ha : a < h.length) : (Rs h a x g).set a (.lst [.int y]) = Rs h a y g := by
  unfold Rs
  rw [List.set_append, if_pos (by simpa using ha), List.set_set]
theorem Rs_get0 : (Rs h a x g)[h.length]? = g[0]? := by
  unfold Rs
  rw [List.getElem?_append_right (by simp)]; simp
theorem Rs_getk {n : Nat} : (Rs h a x g)[h.length + n]? = g[n]? := by
  unfold Rs
  rw [List.getElem?_append_right (by simp)]; simp
theorem Rs_set0 {c : Cell} : (Rs h a x g).set h.length c = Rs h a x (g.set 0 c) := by
  unfold Rs
  rw [List.set_append, if_neg (by simp)]; simp
theorem Rs_setk {n : Nat} {c : Cell} : (Rs h a x g).set (h.length + n) c = Rs h a x (g.set n c) := by
  unfold Rs
  rw [List.set_append, if_neg (by simp)]; simp
theorem Rs_mk (e : h[a]? = some (.lst [.int x])) : h = Rs h a x [] := by
  unfold Rs
  rw [List.append_nil, set_same e]
theorem cl_Rs (hs : ClS h.length h) : ClS (h.set a (.lst [.int x])).length (h.set a (.lst [.int x])) := by
  rw [List.length_set]
  exact hs.set a (by simp only [ClC, ClDs, ClD, and_self])
theorem gq_Rs {n : Nat} {xs : List D} {Q : DK} (hs : ClS h.length h) (hk : g[n]? = some (.lst xs)) (hx : ClDs h.length xs) (q : Q (.ref h.length) (Rs h a x [.lst xs])) : GQ h.length Q (.ref (h.length + n)) (Rs h a x g) := by
  have := gq_one (n := h.length) (h := h.set a (.lst [.int x])) (g := g) (k := n) (Q := Q) (by simp) hk (by simpa using hx) (cl_Rs hs) (by simpa [Rs] using q)
  simpa [Rs] using this
end
/-! ### numbers -/
def t_scell : C3 :=
  (cSeq (cIf (tT (tO ltR (tV 1) (tB3 lenR (tC3 (tV 0) tN3)))) (cRet (tO ixR (tV 0) (tV 1))) cNext)
    (cRet (tK (.int 0))))

def cellS (ns : List Int) (k : Int) : Int := if k < (ns.length : Int) then ns.getD k.toNat 0 else 0
def sp_scell : Sp3 := spD (fun (a__ : List Int × Int) => match a__ with | (ns, k) => [.fl (ns.map .int), .int k]) (fun (a__ : List Int × Int) (h : Sto) => match a__ with | (ns, k) => 0 ≤ k) (fun (a__ : List Int × Int) (h : Sto) => match a__ with | (ns, k) => .int (cellS ns k)) (fun (a__ : List Int × Int) (h : Sto) => match a__ with | (ns, k) => h)
theorem mono_scell : MonoS sp_scell := mono_spD
theorem len_scell : ∀ ds h Q E, sp_scell ds h Q E → ds.length = 2 := len_spD fun _ => rfl
theorem scell_q {ns : List Int} {k : Int} {h : Sto} {Q : DK} (hp : 0 ≤ k) (q : Q (.int (cellS ns k)) (h)) : callS sp_scell [.fl (ns.map .int), .int k] h Q := ⟨(ns, k), rfl, hp, q⟩
theorem rd_scell : ∀ ds h Q E, ClS h.length h → ClDs h.length ds → sp_scell ds h Q E → t_scell (ends3 (GQ h.length Q)) (start3 2 ds) h := by
  rintro ds h Q E hcl _ ⟨⟨ns, k⟩, rfl, hp0, q0⟩
  have hp : 0 ≤ k := hp0
  have q : Q (.int (cellS ns k)) (h) := q0
  clear hp0 q0
  try simp only [↓tV_q, ↓tO_q, ↓tT_q, ↓tN3_q, ↓tC3_q, ↓cSeq_q, ↓cIf_q, ↓tB3_q, ↓start3_q, ↓ltR_ii_q, ↓lenR_f_q, onO_some, onB_bl, List.getElem?_cons_zero, List.getElem?_cons_succ, List.map_cons, List.map_nil, List.cons_append, List.nil_append, List.length_cons, List.length_nil, List.replicate_zero, Nat.reduceAdd, Nat.reduceSub, t_scell]
  refine ifC_of (fun hc => ?_) (fun hc => ?_)
  · have hl : k < (ns.length : Int) := by simpa using hc
    obtain ⟨x, e, e2⟩ := atI_some (xs := ns) (k := k) hp hl
    have ex : cellS ns k = x := by
      unfold cellS
      rw [if_pos hl, List.getD_eq_getElem?_getD, e2]; rfl
    try simp only [↓tV_q, ↓tO_q, ↓cRet_q, ↓start3_q, ↓ixR_fi_q, onO_some, List.getElem?_cons_zero, List.getElem?_cons_succ, List.map_cons, List.map_nil, List.cons_append, List.nil_append, List.length_cons, List.length_nil, List.replicate_zero, Nat.reduceAdd, Nat.reduceSub]
    rw [atT_of (by rw [atI_map, e]; rfl), ← ex]
    exact .inl q
  · have hl : ¬ k < (ns.length : Int) := by simpa using hc
    have ex : cellS ns k = 0 := by
      unfold cellS
      rw [if_neg hl]
    try simp only [↓tK_q, ↓cNext_q, ↓cRet_q, ↓start3_q, thenE_nx, ends3_rt, List.map_cons, List.map_nil, List.cons_append, List.nil_append, List.length_cons, List.length_nil, List.replicate_zero, Nat.reduceAdd, Nat.reduceSub]
    rw [ex] at q
    exact .inl q
def b_sbig_1 : C3 :=
  (cSeq (cAsg (tO addR (tO addR (tO modR (tCall3 sp_scell (tC3 (tV 0) (tC3 (tO addR (tV 1) (tO modR (tV 6) (tK (.int 9)))) tN3))) (tO powR (tK (.int 10)) (tK (.int 18)))) (tK (.int 1))) (tO mulR (tV 6) (tV 6))) (gN 7))
    (cAsg (tO addR (tO mulR (tV 5) (tK (.int 7919))) (tO modR (tO modR (tO mulR (tV 7) (tO ixR (tV 2) (tO modR (tV 6) (tK (.int 8))))) (tO ixR (tV 3) (tO modR (tV 6) (tK (.int 8))))) (tK (.int 7919)))) (gN 5)))
def r_sbig_1 : C3 :=
  (cSeq (cAsg (tK (.int 0)) (gN 5))
    (cSeq (cFor (iRng (tC3 (tK (.int 60)) tN3)) (gN 6) b_sbig_1)
    (cRet (tV 5))))
def t_sbig : C3 :=
  (cSeq (cAsg (tTup3 (tC3 (tK (.int 48271)) (tC3 (tK (.int 69621)) (tC3 (tK (.int 16807)) (tC3 (tK (.int 39373)) (tC3 (tK (.int 21401)) (tC3 (tK (.int 60493)) (tC3 (tK (.int 87721)) (tC3 (tK (.int 31337)) tN3))))))))) (gN 2))
    (cSeq (cAsg (tTup3 (tC3 (tK (.int 99991)) (tC3 (tK (.int 99989)) (tC3 (tK (.int 99971)) (tC3 (tK (.int 99961)) (tC3 (tK (.int 99929)) (tC3 (tK (.int 99923)) (tC3 (tK (.int 99907)) (tC3 (tK (.int 99901)) tN3))))))))) (gN 3))
    (cSeq (cAsg (tCall3 sp_scell (tC3 (tV 0) (tC3 (tV 1) tN3))) (gN 4))
    (cSeq (cIf (tT (tO geR (tV 4) (tO powR (tK (.int 10)) (tK (.int 18))))) (cRet (tV 4)) cNext)
    r_sbig_1))))

def sp_sbig : Sp3 := spR (fun (a : List Int × Int) => [.fl (a.1.map .int), .int a.2]) (fun a _ => 0 ≤ a.2) (fun a h d h' => ∃ b : Int, d = .int b ∧ h' = h)
theorem mono_sbig : MonoS sp_sbig := mono_spR
theorem len_sbig : ∀ ds h Q E, sp_sbig ds h Q E → ds.length = 2 := len_spR fun _ => rfl
theorem sbig_q {ns : List Int} {k : Int} {h : Sto} {Q : DK} (hk : 0 ≤ k) (q : ∀ b : Int, Q (.int b) h) : callS sp_sbig [.fl (ns.map .int), .int k] h Q := ⟨(ns, k), rfl, hk, by rintro _ _ ⟨b, rfl, rfl⟩; exact q b⟩
theorem rd_sbig : ∀ ds h Q E, ClS h.length h → ClDs h.length ds → sp_sbig ds h Q E → t_sbig (ends3 (GQ h.length Q)) (start3 8 ds) h := by
  rintro ds h Q E hcl _ ⟨⟨ns, k⟩, rfl, k0, q⟩
  have k0' : 0 ≤ k := k0
  have q' : ∀ b : Int, Q (.int b) h := fun b => q _ _ ⟨b, rfl, rfl⟩
  clear q k0
  try simp only [↓tV_q, ↓tK_q, ↓tN3_q, ↓tC3_q, ↓tTup3_q, ↓cSeq_q, ↓cAsg_q, ↓gN_q, ↓tCall3_q, ↓start3_q, thenE_nx, onO_some, List.getElem?_cons_zero, List.getElem?_cons_succ, List.set_cons_zero, List.set_cons_succ, List.map_cons, List.map_nil, List.cons_append, List.nil_append, List.length_cons, List.length_nil, List.replicate_succ, List.replicate_zero, Nat.reduceAdd, Nat.reduceSub, t_sbig]
  refine scell_q k0' ?_
  try simp only [↓tV_q, ↓tK_q, ↓tO_q, ↓tT_q, ↓cSeq_q, ↓cIf_q, ↓gN_q, ↓powR_ii_q, ↓geR_ii_q, thenE_nx, onO_some, onB_bl, List.getElem?_cons_zero, List.getElem?_cons_succ, List.set_cons_zero, List.set_cons_succ, true_and, Int.reduceLE]
  refine ⟨by decide, ?_⟩
  refine ifC_of (fun _ => ?_) (fun _ => ?_)
  · try simp only [↓tV_q, ↓cRet_q, thenE_rt, ends3_rt, onO_some, List.getElem?_cons_zero, List.getElem?_cons_succ]
    exact .inl (q' _)
  · try simp only [↓tK_q, ↓tN3_q, ↓tC3_q, ↓cNext_q, ↓cSeq_q, ↓cAsg_q, ↓gN_q, ↓cFor_q, ↓iRng_q, ↓rngD_1q, thenE_nx, List.set_cons_zero, List.set_cons_succ, r_sbig_1]
    refine ⟨by decide, ?_⟩
    refine forL (f := fun (j : Nat) => D.int (j : Int)) (fun l ρ h' => ∃ (b : Int) (o6 o7 : Option D), ρ = [some (.fl (ns.map .int)), some (.int k), some (.tup [.int 48271, .int 69621, .int 16807, .int 39373, .int 21401, .int 60493, .int 87721, .int 31337]), some (.tup [.int 99991, .int 99989, .int 99971, .int 99961, .int 99929, .int 99923, .int 99907, .int 99901]), some (.int (cellS ns k)), some (.int b), o6, o7] ∧ h' = h) ⟨0, _, _, rfl, rfl⟩ (fun _ _ _ _ => trivial) ?_ ?_
    · rintro ρ h' ⟨b, o6, o7, rfl, rfl⟩
      try simp only [↓tV_q, ↓cRet_q, thenE_nx, ends3_rt, onO_some, List.getElem?_cons_zero, List.getElem?_cons_succ]
      exact .inl (q' _)
    · rintro l j r ρ h' F e ⟨b, o6, o7, rfl, rfl⟩ hF
      have hj : j < 60 := List.mem_range.mp (by rw [show (60 : Nat) = Int.toNat 60 from rfl, e]; simp)
      have m0 := Int.emod_nonneg (j : Int) (b := 9) (by decide)
      try simp only [↓tV_q, ↓tK_q, ↓tO_q, ↓tN3_q, ↓tC3_q, ↓cSeq_q, ↓cAsg_q, ↓gN_q, ↓tCall3_q, ↓addR_ii_q, ↓modR_ii_q, onO_some, List.getElem?_cons_zero, List.getElem?_cons_succ, List.set_cons_zero, List.set_cons_succ, true_and, Int.reduceLT, b_sbig_1]
      refine scell_q (by omega) ?_
      try simp only [↓tV_q, ↓tK_q, ↓tO_q, ↓cAsg_q, ↓gN_q, ↓addR_ii_q, ↓mulR_ii_q, ↓modR_ii_q, ↓powR_ii_q, ↓ixR_ti_q, thenE_nx, onO_some, List.getElem?_cons_zero, List.getElem?_cons_succ, List.set_cons_zero, List.set_cons_succ, true_and, Int.reduceLT, Int.reduceLE]
      refine ⟨by decide, by decide, mulOk_w (a := 8) (b := 8) (by omega) (by omega) (by decide), mulOk_r (by decide), ?_⟩
      have i0 := Int.emod_nonneg (j : Int) (b := 8) (by decide)
      have i1 := Int.emod_lt_of_pos (j : Int) (show (0 : Int) < 8 by decide)
      refine atT_all i0 (by simpa using i1) fun y hy => ?_
      have hy : ∃ m : Int, y = .int m ∧ 0 < m ∧ m < 100000 := by
        simp only [List.mem_cons, List.not_mem_nil, or_false] at hy
        rcases hy with rfl | rfl | rfl | rfl | rfl | rfl | rfl | rfl
        all_goals exact ⟨_, rfl, by decide, by decide⟩
      obtain ⟨m, rfl, m0, m1⟩ := hy
      try simp only [↓tV_q, ↓tK_q, ↓tO_q, ↓mulR_ii_q, ↓modR_ii_q, ↓ixR_ti_q, onO_some, List.getElem?_cons_zero, List.getElem?_cons_succ, true_and, Int.reduceLT]
      refine ⟨mulOk_r (by omega), ?_⟩
      refine atT_all i0 (by simpa using i1) fun y hy => ?_
      have hy : ∃ m : Int, y = .int m ∧ 0 < m := by
        simp only [List.mem_cons, List.not_mem_nil, or_false] at hy
        rcases hy with rfl | rfl | rfl | rfl | rfl | rfl | rfl | rfl
        all_goals exact ⟨_, rfl, by decide⟩
      obtain ⟨p, rfl, p0⟩ := hy
      try simp only [↓tK_q, ↓gN_q, ↓addR_ii_q, ↓modR_ii_q, loopE_nx, List.set_cons_zero, List.set_cons_succ, true_and, Int.reduceLT]
      exact ⟨p0, hF _ _ ⟨_, _, _, rfl, rfl⟩⟩
def t_sdigit : C3 :=
  (cSeq (cAsg (tO modR (tO ixR (tV 0) (tK (.int 0))) (tV 1)) (gN 2))
    (cSeq (cAsg (tO divR (tO ixR (tV 0) (tK (.int 0))) (tV 1)) (gSub3 (tV 0) (tK (.int 0))))
    (cRet (tV 2))))

def sp_sdigit : Sp3 := spR (fun (a : Nat × Int × Int) => [.ref a.1, .int a.2.2]) (fun a h => h[a.1]? = some (.lst [.int a.2.1]) ∧ 0 < a.2.2 ∧ a.2.2 < 2 ^ 2000) (fun a h d h' => d = .int (a.2.1 % a.2.2) ∧ h' = h.set a.1 (.lst [.int (a.2.1 / a.2.2)]))
theorem mono_sdigit : MonoS sp_sdigit := mono_spR
theorem len_sdigit : ∀ ds h Q E, sp_sdigit ds h Q E → ds.length = 2 := len_spR fun _ => rfl
theorem rd_sdigit : ∀ ds h Q E, ClS h.length h → ClDs h.length ds → sp_sdigit ds h Q E → t_sdigit (ends3 (GQ h.length Q)) (start3 3 ds) h := by
  rintro ds h Q E _ _ ⟨⟨a, x, n⟩, rfl, ⟨ha, h0, h1⟩, q⟩
  have ha' : h[a]? = some (.lst [.int x]) := ha
  have h0' : 0 < n := h0
  have h1' : n < 2 ^ 2000 := h1
  try simp only [↓tV_q, ↓tK_q, ↓tO_q, ↓cSeq_q, ↓cRet_q, ↓cAsg_q, ↓gN_q, ↓gSub3_q, ↓setR_q, ↓start3_q, ↓divR_ii_q, ↓modR_ii_q, ↓ixR_rq, thenE_nx, ends3_rt, onO_some, onC_q, onN_q, atT_0, ixN1_0, List.getElem?_cons_zero, List.getElem?_cons_succ, List.set_cons_zero, List.set_cons_succ, List.map_cons, List.map_nil, List.cons_append, List.nil_append, List.length_cons, List.length_nil, List.replicate_succ, List.replicate_zero, Nat.reduceAdd, Nat.reduceSub, t_sdigit, ha']
  exact ⟨h0', divOk_of h0' (Int.lt_of_lt_of_le h1' (by decide)), .inl (q _ _ ⟨rfl, rfl⟩)⟩
theorem sdigit_q {h g : Sto} {a : Nat} {x n : Int} {Q : DK} (ha : a < h.length) (h0 : 0 < n) (h1 : n < 2 ^ 2000) (q : ∀ x' r : Int, 0 ≤ r → r < n → Q (.int r) (Rs h a x' g)) : callS sp_sdigit [.ref a, .int n] (Rs h a x g) Q :=
  ⟨(a, x, n), rfl, ⟨Rs_getA ha, h0, h1⟩, by
    rintro _ _ ⟨rfl, rfl⟩
    dsimp only
    rw [Rs_setA ha]
    exact q _ _ (Int.emod_nonneg _ (Int.ne_of_gt h0)) (Int.emod_lt_of_pos _ h0)⟩
/-! ### sheets -/
abbrev Tri := Int × Int × Int
def triD (t : Tri) : D := .tup [.int t.1, .int t.2.1, .int t.2.2]
def sidesS (sh : List Tri) : List Int := sh.flatMap fun t => [t.1, t.2.1, t.2.2]
def tiesL (m : Nat) : List Nat := (List.range (3 * m)).map (· + 1)
def ShOk (sh : List Tri) : Prop := ∃ m, 1 ≤ m ∧ m ≤ 6 ∧ sh.length = 2 * m ∧ ((sidesS sh).map Int.natAbs).Perm (tiesL m ++ tiesL m)
def chk : List Int → List Tri
  | a :: b :: c :: r => (a, b, c) :: chk r
  | _ => []
theorem chk_spec : ∀ (n : Nat) (o : List Int), o.length = 3 * n → sidesS (chk o) = o ∧ (chk o).length = n ∧ ∀ k, k < n → ∃ t, (chk o)[k]? = some t ∧ (o.drop (3 * k)).take 3 = [t.1, t.2.1, t.2.2]
  | 0, o, h => by
    have : o = [] := List.eq_nil_of_length_eq_zero (by omega)
    subst this
    exact ⟨rfl, rfl, fun k hk => absurd hk (by omega)⟩
  | n + 1, o, h => by
    match o, h with
    | a :: b :: c :: r, h =>
      obtain ⟨h1, h2, h3⟩ := chk_spec n r (by simp at h; omega)
      refine ⟨?_, ?_, fun k hk => ?_⟩
      · show sidesS ((a, b, c) :: chk r) = _
        unfold sidesS at h1 ⊢
        rw [List.flatMap_cons, h1]; rfl
      · show (chk r).length + 1 = n + 1
        rw [h2]
      · cases k with
        | zero => exact ⟨(a, b, c), rfl, rfl⟩
        | succ k =>
          obtain ⟨t, e1, e2⟩ := h3 k (by omega)
          refine ⟨t, e1, ?_⟩
          rw [show 3 * (k + 1) = 3 * k + 1 + 1 + 1 by omega]
          exact e2
theorem cl_tri {n : Nat} {sh : List Tri} : ClDs n (sh.map triD) := ClDs.all fun x hx => by obtain ⟨p, _, rfl⟩ := List.mem_map.mp hx; simp [triD, ClD, ClDs]
/-- a draw in hand: the list of one at a -/
def spS {α : Type} (args : α → List D) (pre : α → Sto → Prop) (res : α → Sto → D → Sto → Prop) : Sp3 :=
  spR (fun (a : Nat × Int × α) => .ref a.1 :: args a.2.2) (fun a h => h[a.1]? = some (.lst [.int a.2.1]) ∧ pre a.2.2 h) (fun a h d h' => ∃ x g, res a.2.2 h d g ∧ h' = Rs h a.1 x g)
def b_lsheet_1 : C3 :=
  (cDrop (tLM appT (tV 3) (tC3 (tO mulR (tLM popAtT (tV 2) (tC3 (tCall3 sp_sdigit (tC3 (tV 0) (tC3 (tB3 lenR (tC3 (tV 2) tN3)) tN3))) tN3)) (tO subR (tK (.int 1)) (tO mulR (tK (.int 2)) (tCall3 sp_sdigit (tC3 (tV 0) (tC3 (tK (.int 2)) tN3)))))) tN3)))
def e_lsheet_1 : E3 :=
  (tB3 tupR (tC3 (tSl3 (tV 3) (oSo (tO mulR (tK (.int 3)) (tV 4))) (oSo (tO addR (tO mulR (tK (.int 3)) (tV 4)) (tK (.int 3))))) tN3))
def r_lsheet_1 : C3 :=
  (cSeq (cAsg (tO mulLR (tK (.int 2)) (tNew (xRg2 (tK (.int 1)) (tO addR (tO divR (tO mulR (tV 1) (tK (.int 3))) (tK (.int 2))) (tK (.int 1)))))) (gN 2))
    (cSeq (cAsg (tNew tN3) (gN 3))
    (cSeq (cWhile (tT (tOX (eqX true) (tV 2) tN3)) b_lsheet_1)
    (cRet (tNew (tLc3 (iRng (tC3 (tV 1) tN3)) (gN 4) bYes e_lsheet_1 [4]))))))
def t_lsheet : C3 :=
  (cSeq (cAsg (tO addR (tK (.int 2)) (tO mulR (tK (.int 2)) (tCall3 sp_sdigit (tC3 (tV 0) (tC3 (tK (.int 4)) tN3))))) (gN 1))
    (cSeq (cIf (tT (tO eqR (tCall3 sp_sdigit (tC3 (tV 0) (tC3 (tK (.int 8)) tN3))) (tK (.int 1)))) (cAsg (tO addR (tK (.int 10)) (tO mulR (tK (.int 2)) (tCall3 sp_sdigit (tC3 (tV 0) (tC3 (tK (.int 2)) tN3))))) (gN 1)) cNext)
    r_lsheet_1))

def sp_lsheet : Sp3 := spR (fun (a : Nat × Int) => [.ref a.1]) (fun a h => h[a.1]? = some (.lst [.int a.2])) (fun a h d h' => ∃ (x : Int) (sh : List Tri), ShOk sh ∧ d = .ref h.length ∧ h' = Rs h a.1 x [.lst (sh.map triD)])
theorem mono_lsheet : MonoS sp_lsheet := mono_spR
theorem len_lsheet : ∀ ds h Q E, sp_lsheet ds h Q E → ds.length = 1 := len_spR fun _ => rfl
theorem lsheet_q {h g : Sto} {a : Nat} {x : Int} {Q : DK} (ha : a < h.length) (q : ∀ (x : Int) (sh : List Tri), ShOk sh → Q (.ref (h.length + g.length)) (Rs h a x (g ++ [.lst (sh.map triD)]))) : callS sp_lsheet [.ref a] (Rs h a x g) Q :=
  ⟨(a, x), rfl, Rs_getA ha, by
    rintro _ _ ⟨x', sh, ho, rfl, rfl⟩
    have e : Rs (Rs h a x g) a x' [.lst (sh.map triD)] = Rs h a x' (g ++ [.lst (sh.map triD)]) := by
      show (Rs h a x g).set a _ ++ _ = _
      rw [Rs_setA ha, Rs_app]
    dsimp only
    rw [e, Rs_len]
    exact q x' sh ho⟩
theorem perm_eraseIdx : ∀ {P : List Int} {k : Nat} (hl : k < P.length), P.Perm (P[k] :: P.eraseIdx k)
  | a :: P, 0, _ => List.Perm.refl _
  | a :: P, k + 1, hl => by
    have hl' : k < P.length := by simpa using hl
    exact ((perm_eraseIdx hl').cons a).trans (List.Perm.swap _ _ _)
theorem perm_pop {P : List Int} {O : List Int} {k : Nat} {i e : Int} {T : List Nat} (hk : P[k]? = some i) (he : e = 1 ∨ e = -1) (h : (O.map Int.natAbs ++ P.map Int.natAbs).Perm T) : ((O ++ [i * e]).map Int.natAbs ++ (P.eraseIdx k).map Int.natAbs).Perm T := by
  obtain ⟨hl, rfl⟩ := List.getElem?_eq_some_iff.mp hk
  have h1 : (P[k] * e).natAbs = P[k].natAbs := by rcases he with rfl | rfl <;> omega
  have h2 : P.Perm (P[k] :: P.eraseIdx k) := perm_eraseIdx hl
  refine List.Perm.trans ?_ h
  rw [List.map_append, List.map_singleton, h1, List.append_assoc]
  refine List.Perm.append_left _ ?_
  have := (h2.map Int.natAbs).symm
  rw [List.map_cons] at this
  exact this
def stubs (m : Nat) : List Int := (List.range (3 * m)).map (fun (k : Nat) => 1 + (k : Int)) ++ (List.range (3 * m)).map (fun (k : Nat) => 1 + (k : Int))
theorem stubs_abs {m : Nat} : (stubs m).map Int.natAbs = tiesL m ++ tiesL m := by
  have : ((List.range (3 * m)).map (fun (k : Nat) => 1 + (k : Int))).map Int.natAbs = tiesL m := by
    rw [List.map_map]
    refine List.map_congr_left fun k _ => ?_
    show (1 + (k : Int)).natAbs = k + 1
    omega
  unfold stubs
  rw [List.map_append, this]
theorem eqX_is {h : Sto} {n : Nat} {ns : List Int} {Q : DK} (e : h[n]? = some (.lst (ns.map .int))) : eqX true (.ref n) [] h Q = Q (.bl (decide (ns ≠ []))) h := by
  have t1 : toP h 9 (.ref n) = some (.list (ns.map PyData.int)) := toP_refI e
  unfold eqX
  rw [t1, List.mapM_nil]
  cases ns with
  | nil => rfl
  | cons a r => rfl
theorem cutMid {xs : List D} {k e : Nat} (hk : k ≤ e) (he : e ≤ xs.length) : cutD xs (some (k : Int)) (some (e : Int)) = (xs.drop k).take (e - k) := by
  unfold cutD
  rw [HT.sIx_nat, HT.sIx_nat, Nat.min_eq_left he, Nat.min_eq_left (Nat.le_trans hk he)]
theorem seqIx {r : Int} {n : Nat} (h0 : 0 ≤ r) (h1 : r < n) : seqIndex? r n = some r.toNat := by
  unfold seqIndex?
  simp only
  rw [if_neg (show ¬ r < 0 by omega), if_pos (by simp; omega)]
theorem map_erase : ∀ {P : List Int} {k : Nat}, (P.map D.int).eraseIdx k = (P.eraseIdx k).map D.int
  | [], _ => rfl
  | _ :: _, 0 => rfl
  | _ :: P, k + 1 => congrArg (D.int _ :: ·) (map_erase (P := P) (k := k))
theorem rng_at {n x : Nat} {l r : List Nat} (e : List.range n = l ++ x :: r) : x = l.length ∧ x < n := by
  have h1 : l.length < n := by
    have := congrArg List.length e
    simp at this
    omega
  have h2 : (List.range n)[l.length]? = some x := by rw [e, List.getElem?_append_right (Nat.le_refl _), Nat.sub_self]; rfl
  rw [List.getElem?_range h1] at h2
  injection h2 with h2
  exact ⟨h2.symm, h2 ▸ h1⟩
theorem rd_lsheet : ∀ ds h Q E, ClS h.length h → ClDs h.length ds → sp_lsheet ds h Q E → t_lsheet (ends3 (GQ h.length Q)) (start3 5 ds) h := by
  rintro ds h Q E hcl _ ⟨⟨a, x⟩, rfl, hx, q⟩
  have hx' : h[a]? = some (.lst [.int x]) := hx
  have ha : a < h.length := (List.getElem?_eq_some_iff.mp hx').1
  have q' : ∀ (x : Int) (sh : List Tri), ShOk sh → Q (.ref h.length) (Rs h a x [.lst (sh.map triD)]) := fun x sh ho => q _ _ ⟨x, sh, ho, rfl, rfl⟩
  conv => arg 3; rw [Rs_mk hx']
  clear q hx hx'
  try simp only [↓tV_q, ↓tK_q, ↓tO_q, ↓tN3_q, ↓tC3_q, ↓cSeq_q, ↓cAsg_q, ↓tCall3_q, ↓start3_q, onO_some, List.getElem?_cons_zero, List.map_cons, List.map_nil, List.cons_append, List.nil_append, List.length_cons, List.length_nil, List.replicate_succ, List.replicate_zero, Nat.reduceAdd, Nat.reduceSub, t_lsheet]
  refine sdigit_q ha (by decide) (by decide) fun x d d0 d1 => ?_
  try simp only [↓tV_q, ↓tK_q, ↓tO_q, ↓tT_q, ↓tN3_q, ↓tC3_q, ↓cSeq_q, ↓cIf_q, ↓gN_q, ↓tCall3_q, ↓start3_q, ↓addR_ii_q, ↓mulR_ii_q, thenE_nx, onO_some, List.getElem?_cons_zero, List.set_cons_zero, List.set_cons_succ, List.map_cons, List.map_nil, List.cons_append, List.nil_append, List.length_cons, List.length_nil, List.replicate_succ, List.replicate_zero, Nat.reduceAdd, Nat.reduceSub]
  have fin : ∀ (x : Int) (m : Nat), 1 ≤ m → m ≤ 6 → r_lsheet_1 (ends3 (GQ h.length Q)) [some (.ref a), some (.int (2 * m : Nat)), none, none, none] (Rs h a x []) := by
    intro x m m1 m6
    try simp only [↓tV_q, ↓tK_q, ↓tO_q, ↓tN3_q, ↓tNew_q, ↓cSeq_q, ↓cAsg_q, ↓gN_q, ↓xRg2_q, ↓xRg_q, ↓addR_ii_q, ↓mulR_ii_q, ↓divR_ii_q, ↓mulLR_q, ↓Rs_len, ↓Rs_app, ↓Rs_get0, thenE_nx, onO_some, onI_int, onC_q, List.getElem?_cons_zero, List.getElem?_cons_succ, List.set_cons_zero, List.set_cons_succ, List.cons_append, List.nil_append, List.length_cons, List.length_nil, Nat.reduceAdd, Nat.add_zero, r_lsheet_1]
    refine ⟨mulOk_r (by decide), divOk_of (by decide) (by decide), ?_⟩
    have eN : ((2 * m : Nat) : Int) * 3 / 2 + 1 - 1 = ((3 * m : Nat) : Int) := by omega
    rw [eN]
    refine ⟨⟨by decide, by decide, by omega, by omega, by omega⟩, ?_⟩
    have e0 : (List.replicate (Int.toNat 2) (List.map (fun (k : Nat) => D.int (1 + ↑k)) (List.range ((3 * m : Nat) : Int).toNat))).flatten = (stubs m).map D.int := by
      rw [Int.toNat_natCast]
      simp [stubs, Int.toNat, List.map_map, List.replicate_succ, Function.comp_def]
    have el : (List.map (fun (k : Nat) => D.int (1 + ↑k)) (List.range ((3 * m : Nat) : Int).toNat)).length = 3 * m := by simp; omega
    generalize List.map (fun (k : Nat) => D.int (1 + ↑k)) (List.range ((3 * m : Nat) : Int).toNat) = c0 at e0 el ⊢
    skip
    refine ⟨⟨by decide, by decide, by rw [el, show Int.toNat 2 = 2 from rfl]; omega⟩, ?_⟩
    rw [e0]
    skip
    refine whL (fun n ρ h' => ∃ (x : Int) (O P : List Int), n = P.length ∧ ρ = [some (.ref a), some (.int (2 * m : Nat)), some (.ref (h.length + 1)), some (.ref (h.length + 2)), none] ∧ h' = Rs h a x [.lst c0, .lst (P.map .int), .lst (O.map .int)] ∧ (O.map Int.natAbs ++ P.map Int.natAbs).Perm (tiesL m ++ tiesL m)) ⟨x, [], stubs m, rfl, rfl, rfl, by rw [List.map_nil, List.nil_append, stubs_abs]⟩ ?_
    rintro n ρ h' F ⟨x, O, P, rfl, rfl, rfl, hp⟩ hF
    have hlen : O.length + P.length = 6 * m := by
      have := hp.length_eq
      simp [tiesL] at this
      omega
    try simp only [↓tV_q, ↓tT_q, ↓tN3_q, ↓tOX_q, onO_some, List.getElem?_cons_zero, List.getElem?_cons_succ]
    rw [eqX_is (ns := P) (by rw [Rs_getk]; rfl)]
    try simp only [onB_bl]
    refine ifC_of (fun hc => ?_) (fun hc => ?_)
    · have hP : P ≠ [] := by simpa using hc
      have hl : 0 < P.length := List.length_pos_iff.mpr hP
      try simp only [↓tV_q, ↓tO_q, ↓tN3_q, ↓tC3_q, ↓cDrop_q, ↓tCall3_q, ↓tB3_q, ↓tLM_q, ↓lmD_q, ↓lenR_rq, ↓Rs_getk, onO_some, onC_q, List.getElem?_cons_zero, List.getElem?_cons_succ, b_lsheet_1]
      refine sdigit_q ha (by simpa using hl) (by simp only [List.length_map]; exact Int.lt_of_lt_of_le (show (P.length : Int) < 40 by omega) (by decide)) fun x r r0 r1 => ?_
      rw [List.length_map] at r1
      try simp only [↓tN3_q, ↓popAtT_q, ↓Rs_getk, onC_q, List.getElem?_cons_zero, List.getElem?_cons_succ]
      refine ⟨⟨by omega, by omega⟩, ?_⟩
      have hk : r.toNat < P.length := by omega
      rw [List.length_map, seqIx r0 r1, onN_q, List.getElem?_map, List.getElem?_eq_getElem hk, Option.map_some, onD_q, map_erase]
      try simp only [↓tV_q, ↓tK_q, ↓tO_q, ↓tN3_q, ↓tC3_q, ↓tCall3_q, ↓Rs_setk, onO_some, List.getElem?_cons_zero, List.set_cons_zero, List.set_cons_succ]
      refine sdigit_q ha (by decide) (by decide) fun x e e0' e1 => ?_
      try simp only [↓tN3_q, ↓appT_q, ↓subR_ii_q, ↓mulR_ii_q, ↓Rs_getk, ↓Rs_setk, loopE_nx, onC_q, List.getElem?_cons_zero, List.getElem?_cons_succ, List.set_cons_zero, List.set_cons_succ]
      refine ⟨mulOk_r (by omega), mulOk_r (by omega), by rw [List.length_map]; omega, hF _ _ _ ?_ ⟨x, O ++ [P[r.toNat] * (1 - 2 * e)], P.eraseIdx r.toNat, rfl, rfl, by rw [List.map_append, List.map_singleton], perm_pop (List.getElem?_eq_getElem hk) (by omega) hp⟩⟩
      rw [List.length_eraseIdx, if_pos hk]
      omega
    · have hP : P = [] := by simpa using hc
      subst hP
      try simp only [↓tV_q, ↓tN3_q, ↓tC3_q, ↓tNew_q, ↓cRet_q, ↓iRng_q, ↓rngD_1q, ↓tLc3_q, thenE_nx, onO_some, wipe3_nil, wipe3_cons, List.getElem?_cons_zero, List.getElem?_cons_succ, List.set_cons_zero, List.set_cons_succ, List.map_nil]
      have hO : O.length = 3 * (2 * m) := by simp at hlen; omega
      obtain ⟨s1, s2, s3⟩ := chk_spec (2 * m) O hO
      refine ⟨by omega, by simp; omega, ?_⟩
      rw [Int.toNat_natCast]
      refine lcL (f := fun (k : Nat) => D.int (k : Int)) (fun l acc h' => ∃ G, acc = ((chk O).take l.length).map triD ∧ h' = Rs h a x (.lst c0 :: .lst [] :: .lst (O.map .int) :: G)) ⟨[], rfl, rfl⟩ (fun _ _ _ _ => trivial) ?_ ?_
      · rintro acc h' ⟨G, rfl, rfl⟩
        rw [List.length_range, List.take_of_length_le (by omega)]
        try simp only [↓Rs_len, ↓Rs_app, ends3_rt, List.cons_append, List.length_cons]
        refine gq_Rs hcl (by simp) cl_tri (q' x (chk O) ⟨m, m1, m6, s2, ?_⟩)
        rw [s1]
        simpa using hp
      · rintro l k r acc h' F e ⟨G, rfl, rfl⟩ hF
        obtain ⟨ek, kl⟩ := rng_at e
        obtain ⟨t, t1, t2⟩ := s3 k kl
        try simp only [↓tV_q, ↓tK_q, ↓tO_q, ↓tN3_q, ↓tC3_q, ↓gN_q, ↓bYes_q, ↓tB3_q, ↓tSl3_q, ↓oSo_q, ↓addR_ii_q, ↓mulR_ii_q, ↓slR_rq, ↓tupR_rq, ↓Rs_len, ↓Rs_app, ↓Rs_getk, onO_some, onI_int, ifC_true, onC_q, List.getElem?_cons_zero, List.getElem?_cons_succ, List.set_cons_zero, List.set_cons_succ, List.cons_append, List.length_cons, e_lsheet_1]
        refine ⟨mulOk_r (by omega), mulOk_r (by omega), ?_⟩
        have ec : cutD (O.map D.int) (some (3 * (k : Int))) (some (3 * (k : Int) + 3)) = [.int t.1, .int t.2.1, .int t.2.2] := by
          have := cutMid (xs := O.map D.int) (k := 3 * k) (e := 3 * k + 3) (by omega) (by rw [List.length_map]; omega)
          rw [show 3 * k + 3 - 3 * k = 3 by omega, ← List.map_drop, ← List.map_take, t2] at this
          exact this
        rw [ec, get_new]
        try simp only [↓Rs_app, onC_q, List.cons_append]
        refine hF _ _ ⟨G ++ [.lst [.int t.1, .int t.2.1, .int t.2.2]], ?_, rfl⟩
        rw [List.length_append, List.length_singleton, List.take_add_one, ← ek, t1, List.map_append]; rfl
  refine ⟨mulOk_r (by omega), ?_⟩
  refine sdigit_q ha (by decide) (by decide) fun x b b0 b1 => ?_
  try simp only [↓tK_q, ↓eqR_ii_q, onB_bl]
  refine ifC_of (fun hc => ?_) (fun hc => ?_)
  · try simp only [↓tV_q, ↓tK_q, ↓tO_q, ↓tN3_q, ↓tC3_q, ↓cAsg_q, ↓tCall3_q, onO_some, List.getElem?_cons_zero]
    refine sdigit_q ha (by decide) (by decide) fun x e e0 e1 => ?_
    try simp only [↓gN_q, ↓addR_ii_q, ↓mulR_ii_q, thenE_nx, List.set_cons_zero, List.set_cons_succ]
    refine ⟨mulOk_r (by omega), ?_⟩
    have := fin x (5 + e.toNat) (by omega) (by omega)
    rw [show ((2 * (5 + e.toNat) : Nat) : Int) = 10 + 2 * e by omega] at this
    exact this
  · try simp only [↓cNext_q, thenE_nx]
    have := fin x (1 + d.toNat) (by omega) (by omega)
    rw [show ((2 * (1 + d.toNat) : Nat) : Int) = 2 + 2 * d by omega] at this
    exact this
end F3
set_option maxHeartbeats 400000
/-! SC: heaps (plain): parts of a list by pairs that join, and their sorted form. -/
namespace F3
open PySem PySem.Spec PyProof.Rows L2
section
variable {α : Type} [DecidableEq α]
/-- led from one to another by pairs, either way -/
inductive Ln (ps : List (α × α)) : α → α → Prop
  | refl (x : α) : Ln ps x x
  | fw {x y z : α} : Ln ps x y → (y, z) ∈ ps → Ln ps x z
  | bw {x y z : α} : Ln ps x y → (z, y) ∈ ps → Ln ps x z
theorem Ln.trans {ps : List (α × α)} {x y z : α} (h1 : Ln ps x y) (h2 : Ln ps y z) : Ln ps x z := by
  induction h2 with
  | refl => exact h1
  | fw _ m ih => exact ih.fw m
  | bw _ m ih => exact ih.bw m
theorem Ln.symm {ps : List (α × α)} {x y : α} (h : Ln ps x y) : Ln ps y x := by
  induction h with
  | refl => exact .refl _
  | fw _ m ih => exact ((Ln.refl _).bw m).trans ih
  | bw _ m ih => exact ((Ln.refl _).fw m).trans ih
theorem Ln.mono {ps qs : List (α × α)} (hs : ∀ p ∈ ps, p ∈ qs) {x y : α} (h : Ln ps x y) : Ln qs x y := by
  induction h with
  | refl => exact .refl _
  | fw _ m ih => exact ih.fw (hs _ m)
  | bw _ m ih => exact ih.bw (hs _ m)
theorem Ln.none {x y : α} (h : Ln [] x y) : y = x := by
  induction h with
  | refl => rfl
  | fw _ m _ => cases m
  | bw _ m _ => cases m
structure Part (E : List α) (ps : List (α × α)) (hs : List (List α)) : Prop where
  fl : hs.flatten.Perm E
  ne : ∀ H ∈ hs, H ≠ []
  cn : ∀ H ∈ hs, ∀ x ∈ H, ∀ y ∈ H, Ln ps x y
  cl : ∀ H ∈ hs, ∀ x ∈ H, ∀ y, Ln ps x y → y ∈ H
theorem Part.start {E : List α} : Part E [] (E.map fun x => [x]) where
  fl := by
    have : (E.map fun x => [x]).flatten = E := by
      induction E with
      | nil => rfl
      | cons a r ih => rw [List.map_cons, List.flatten_cons, ih]; rfl
    rw [this]
  ne := by
    intro H hH e
    obtain ⟨x, _, rfl⟩ := List.mem_map.mp hH
    cases e
  cn := by
    intro H hH x hx y hy
    obtain ⟨z, _, rfl⟩ := List.mem_map.mp hH
    rw [List.mem_singleton.mp hx, List.mem_singleton.mp hy]
    exact .refl _
  cl := by
    intro H hH x hx y h
    rw [h.none]
    exact hx
def isIn (x : α) (H : List α) : Bool := decide (x ∈ H)
theorem isIn_iff {x : α} {H : List α} : isIn x H = true ↔ x ∈ H := by simp [isIn]
theorem isIn_cons {x a : α} {r : List α} : isIn x (a :: r) = (decide (a = x) || isIn x r) := by
  unfold isIn
  by_cases h1 : a = x
  · subst h1; simp
  · have : ¬ x = a := fun e => h1 e.symm
    simp [h1, this]
/-- the heaps that hold one or the other are put together -/
def touch (a b : α) (H : List α) : Bool := decide (a ∈ H) || decide (b ∈ H)
def unite (hs : List (List α)) (a b : α) : List (List α) := hs.filter (fun H => !touch a b H) ++ [(hs.filter (touch a b)).flatten]
theorem Part.unite {E : List α} {ps : List (α × α)} {hs : List (List α)} {a b : α} (P : Part E ps hs) (ha : a ∈ E) (hb : b ∈ E) : Part E (ps ++ [(a, b)]) (unite hs a b) := by
  have up : ∀ {x y : α}, Ln ps x y → Ln (ps ++ [(a, b)]) x y := fun h => h.mono fun p hp => List.mem_append_left _ hp
  have ab : Ln (ps ++ [(a, b)]) a b := (Ln.refl a).fw (List.mem_append_right _ List.mem_cons_self)
  have inE : ∀ {z : α}, z ∈ E → ∃ H ∈ hs, z ∈ H := fun hz => List.mem_flatten.mp (P.fl.mem_iff.mpr hz)
  have both : ∀ {x : α}, x ∈ (hs.filter (touch a b)).flatten ↔ ∃ H ∈ hs, touch a b H = true ∧ x ∈ H := by
    intro x
    rw [List.mem_flatten]
    constructor
    · rintro ⟨H, h1, h2⟩
      obtain ⟨h1, h3⟩ := List.mem_filter.mp h1
      exact ⟨H, h1, h3, h2⟩
    · rintro ⟨H, h1, h3, h2⟩
      exact ⟨H, List.mem_filter.mpr ⟨h1, h3⟩, h2⟩
  have toA : ∀ {x : α}, x ∈ (hs.filter (touch a b)).flatten → Ln (ps ++ [(a, b)]) x a := by
    intro x hx
    obtain ⟨H, h1, h2, h3⟩ := both.mp hx
    rcases Bool.or_eq_true _ _ ▸ (show (decide (a ∈ H) || decide (b ∈ H)) = true from h2) with h | h
    · exact up (P.cn H h1 x h3 a (of_decide_eq_true h))
    · exact (up (P.cn H h1 x h3 b (of_decide_eq_true h))).trans ab.symm
  have aB : a ∈ (hs.filter (touch a b)).flatten := by
    obtain ⟨H, h1, h2⟩ := inE ha
    exact both.mpr ⟨H, h1, by simp [touch, h2], h2⟩
  have bB : b ∈ (hs.filter (touch a b)).flatten := by
    obtain ⟨H, h1, h2⟩ := inE hb
    exact both.mpr ⟨H, h1, by simp [touch, h2], h2⟩
  refine ⟨?_, ?_, ?_, ?_⟩
  · unfold F3.unite
    rw [List.flatten_append, List.flatten_cons, List.flatten_nil, List.append_nil]
    refine List.Perm.trans List.perm_append_comm ?_
    rw [← List.flatten_append]
    exact (List.filter_append_perm (touch a b) hs).flatten.trans P.fl
  · intro H hH
    rcases List.mem_append.mp hH with h | h
    · exact P.ne H (List.mem_filter.mp h).1
    · rw [List.mem_singleton.mp h]
      intro e
      rw [e] at aB
      cases aB
  · intro H hH x hx y hy
    rcases List.mem_append.mp hH with h | h
    · exact up (P.cn H (List.mem_filter.mp h).1 x hx y hy)
    · rw [List.mem_singleton.mp h] at hx hy
      exact (toA hx).trans (toA hy).symm
  · intro H hH x hx y hl
    have step : ∀ {u v : α}, u ∈ H → ((u, v) ∈ ps ∨ (v, u) ∈ ps) ∨ ((u = a ∧ v = b) ∨ (u = b ∧ v = a)) → v ∈ H := by
      intro u v hu c
      rcases List.mem_append.mp hH with h | h
      · obtain ⟨h1, h2⟩ := List.mem_filter.mp h
        rcases c with c | c
        · exact P.cl H h1 u hu v (by rcases c with c | c; exact (Ln.refl _).fw c; exact (Ln.refl _).bw c)
        · exfalso
          rcases c with ⟨rfl, _⟩ | ⟨rfl, _⟩
          · simp [touch, hu] at h2
          · simp [touch, hu] at h2
      · rw [List.mem_singleton.mp h] at hu ⊢
        rcases c with c | c
        · obtain ⟨H0, h1, h2, h3⟩ := both.mp hu
          exact both.mpr ⟨H0, h1, h2, P.cl H0 h1 u h3 v (by rcases c with c | c; exact (Ln.refl _).fw c; exact (Ln.refl _).bw c)⟩
        · rcases c with ⟨_, rfl⟩ | ⟨_, rfl⟩
          · exact bB
          · exact aB
    induction hl with
    | refl => exact hx
    | fw _ m ih =>
      refine step ih ?_
      rcases List.mem_append.mp m with m | m
      · exact .inl (.inl m)
      · have := List.mem_singleton.mp m
        exact .inr (.inl ⟨congrArg Prod.fst this, congrArg Prod.snd this⟩)
    | bw _ m ih =>
      refine step ih ?_
      rcases List.mem_append.mp m with m | m
      · exact .inl (.inr m)
      · have := List.mem_singleton.mp m
        exact .inr (.inr ⟨congrArg Prod.snd this, congrArg Prod.fst this⟩)
theorem Part.fold {E : List α} : ∀ (qs ps : List (α × α)) (hs : List (List α)), Part E ps hs → (∀ p ∈ qs, p.1 ∈ E ∧ p.2 ∈ E) → Part E (ps ++ qs) (qs.foldl (fun hs p => F3.unite hs p.1 p.2) hs)
  | [], ps, hs, P, _ => by rw [List.append_nil]; exact P
  | p :: qs, ps, hs, P, h => by
    have := Part.fold qs (ps ++ [p]) _ (P.unite (h p List.mem_cons_self).1 (h p List.mem_cons_self).2) fun q hq => h q (List.mem_cons_of_mem _ hq)
    rw [List.append_assoc] at this
    exact this
theorem Part.nodup {E : List α} {ps : List (α × α)} {hs : List (List α)} (hE : E.Nodup) (P : Part E ps hs) : hs.flatten.Nodup := P.fl.nodup_iff.mpr hE
theorem flat_nd : ∀ {hs : List (List α)}, hs.flatten.Nodup → ∀ H ∈ hs, H.Nodup
  | H :: hs, h, K, hK => by
    rw [List.flatten_cons, List.nodup_append] at h
    rcases List.mem_cons.mp hK with rfl | hK
    · exact h.1
    · exact flat_nd h.2.1 K hK
/-- heaps have the same members -/
theorem Part.like {E : List α} {ps qs : List (α × α)} {hs ks : List (List α)} (hE : E.Nodup) (P : Part E ps hs) (R : Part E qs ks) (same : ∀ x y, Ln ps x y ↔ Ln qs x y) : ∀ H ∈ hs, ∃ K ∈ ks, H.Perm K := by
  intro H hH
  match H, P.ne H hH with
  | x :: r, _ =>
    have hx : x ∈ E := P.fl.mem_iff.mp (List.mem_flatten.mpr ⟨_, hH, List.mem_cons_self⟩)
    obtain ⟨K, hK, xK⟩ := List.mem_flatten.mp (R.fl.mem_iff.mpr hx)
    refine ⟨K, hK, (List.perm_ext_iff_of_nodup (flat_nd (P.nodup hE) _ hH) (flat_nd (R.nodup hE) _ hK)).mpr fun y => ⟨fun hy => ?_, fun hy => ?_⟩⟩
    · exact R.cl K hK x xK y ((same x y).mp (P.cn _ hH x List.mem_cons_self y hy))
    · exact P.cl _ hH x List.mem_cons_self y ((same x y).mpr (R.cn K hK x xK y hy))
/-! the walk of the law -/
def ers (l : List α) (x : α) : List α := l.erase x
theorem ers_self {a : α} {r : List α} : ers (a :: r) a = r := by simp [ers]
theorem ers_ne {a y : α} {r : List α} (h : ¬ a = y) : ers (a :: r) y = a :: ers r y := by
  unfold ers
  rw [List.erase_cons_tail (by simpa using h)]
def vis (c : α) (p : α × α) (st : List α × List α) : List α × List α := if p.1 = c ∧ p.2 ∈ st.2 then (st.1 ++ [p.2], ers st.2 p.2) else st
def sweep (c : α) (ps : List (α × α)) (st : List α × List α) : List α × List α := ps.foldl (fun st p => vis c (p.2, p.1) (vis c p st)) st
structure WalkI (ps : List (α × α)) (st st' : List α × List α) : Prop where
  pm : (st.1 ++ st.2).Perm (st'.1 ++ st'.2)
  pre : st.1 <+: st'.1
  sub : ∀ x ∈ st'.2, x ∈ st.2
theorem WalkI.refl {ps : List (α × α)} {st : List α × List α} : WalkI ps st st := ⟨.refl _, List.prefix_refl _, fun _ h => h⟩
theorem WalkI.trans {ps : List (α × α)} {a b c : List α × List α} (h1 : WalkI ps a b) (h2 : WalkI ps b c) : WalkI ps a c := ⟨h1.pm.trans h2.pm, h1.pre.trans h2.pre, fun x h => h1.sub x (h2.sub x h)⟩
theorem vis_I {ps : List (α × α)} {c : α} {p : α × α} {st : List α × List α} : WalkI ps st (vis c p st) := by
  unfold vis
  split
  next h =>
    refine ⟨?_, List.prefix_append _ _, fun x hx => List.mem_of_mem_erase hx⟩
    rw [List.append_assoc]
    exact List.Perm.append_left _ (List.perm_cons_erase h.2)
  next => exact .refl
theorem vis_new {c : α} {p : α × α} {st : List α × List α} : ∀ x ∈ (vis c p st).1, x ∈ st.1 ∨ (p.1 = c ∧ x = p.2) := by
  intro x hx
  unfold vis at hx
  split at hx
  next h =>
    rcases List.mem_append.mp hx with h' | h'
    · exact .inl h'
    · exact .inr ⟨h.1, List.mem_singleton.mp h'⟩
  next => exact .inl hx
theorem vis_out {c : α} {p : α × α} {st : List α × List α} (nd : st.2.Nodup) (h : p.1 = c) : p.2 ∉ (vis c p st).2 := by
  unfold vis
  split
  next => exact fun hm => (List.Nodup.mem_erase_iff nd).mp hm |>.1 rfl
  next h' => exact fun hm => h' ⟨h, hm⟩
theorem WalkI.nd {ps : List (α × α)} {a b : List α × List α} (w : WalkI ps a b) (nd : (a.1 ++ a.2).Nodup) : (b.1 ++ b.2).Nodup := w.pm.nodup_iff.mp nd
theorem nd_r {a b : List α} (nd : (a ++ b).Nodup) : b.Nodup := (List.nodup_append.mp nd).2.1
theorem sweep_spec {ps : List (α × α)} {c : α} : ∀ (qs : List (α × α)) (st : List α × List α), (∀ p ∈ qs, p ∈ ps) → (st.1 ++ st.2).Nodup →
    WalkI ps st (sweep c qs st) ∧ (∀ x ∈ (sweep c qs st).1, x ∈ st.1 ∨ Ln ps c x) ∧ ∀ p ∈ qs, (p.1 = c → p.2 ∉ (sweep c qs st).2) ∧ (p.2 = c → p.1 ∉ (sweep c qs st).2)
  | [], st, _, _ => ⟨.refl, fun x h => .inl h, fun p hp => by cases hp⟩
  | p :: qs, st, hs, nd => by
    have w1 : WalkI ps st (vis c p st) := vis_I
    have w2 : WalkI ps (vis c p st) (vis c (p.2, p.1) (vis c p st)) := vis_I
    have n1 := w1.nd nd
    have n2 := w2.nd n1
    obtain ⟨a1, a2, a3⟩ := sweep_spec qs (vis c (p.2, p.1) (vis c p st)) (fun q hq => hs q (List.mem_cons_of_mem _ hq)) n2
    have hp := hs p List.mem_cons_self
    refine ⟨w1.trans (w2.trans a1), fun x hx => ?_, fun q hq => ?_⟩
    · rcases a2 x hx with h | h
      · rcases vis_new x h with h | ⟨h1, rfl⟩
        · rcases vis_new x h with h | ⟨h1, rfl⟩
          · exact .inl h
          · exact .inr ((Ln.refl c).fw (by rw [← h1]; exact hp))
        · exact .inr ((Ln.refl c).bw (by rw [← (show p.2 = c from h1)]; exact hp))
      · exact .inr h
    · rcases List.mem_cons.mp hq with rfl | hq
      · exact ⟨fun e hm => vis_out (nd_r nd) e (w2.sub _ (a1.sub _ hm)), fun e hm => vis_out (p := (q.2, q.1)) (nd_r n1) e (a1.sub _ hm)⟩
      · exact a3 q hq
structure Done (ps : List (α × α)) (hs : List (List α)) : Prop where
  ne : ∀ H ∈ hs, H ≠ []
  cn : ∀ H ∈ hs, ∀ x ∈ H, ∀ y ∈ H, Ln ps x y
  cl : ∀ H ∈ hs, ∀ x ∈ H, ∀ y, Ln ps x y → y ∈ H
structure HeapI (E : List α) (ps : List (α × α)) (hs : List (List α)) (st : List α × List α) (k : Nat) : Prop where
  pm : (hs.flatten ++ (st.1 ++ st.2)).Perm E
  dn : Done ps hs
  ln : ∀ x ∈ st.1, ∀ y ∈ st.1, Ln ps x y
  cv : ∀ j, j < k → ∀ c, st.1[j]? = some c → ∀ p ∈ ps, (p.1 = c → p.2 ∉ st.2) ∧ (p.2 = c → p.1 ∉ st.2)
  le : k ≤ st.1.length
  ne : st.1 ≠ []
theorem HeapI.begin {E : List α} {ps : List (α × α)} {hs : List (List α)} {x : α} {left : List α} (pm : (hs.flatten ++ x :: left).Perm E) (dn : Done ps hs) : HeapI E ps hs ([x], left) 0 where
  pm := pm
  dn := dn
  ln := by
    intro y hy z hz
    rw [List.mem_singleton.mp hy, List.mem_singleton.mp hz]
    exact .refl _
  cv := fun j hj => absurd hj (Nat.not_lt_zero _)
  le := Nat.zero_le _
  ne := by simp
theorem HeapI.step {E : List α} {ps : List (α × α)} {hs : List (List α)} {st : List α × List α} {k : Nat} {c : α} (hE : E.Nodup) (I : HeapI E ps hs st k) (hc : st.1[k]? = some c) : HeapI E ps hs (sweep c ps st) (k + 1) := by
  have nd : (st.1 ++ st.2).Nodup := nd_r (I.pm.nodup_iff.mpr hE)
  obtain ⟨w, a2, a3⟩ := sweep_spec ps st (fun p h => h) nd
  obtain ⟨hk, hc'⟩ := List.getElem?_eq_some_iff.mp hc
  have cm : c ∈ st.1 := List.mem_of_getElem? hc
  obtain ⟨t, et⟩ := w.pre
  have toC : ∀ x ∈ (sweep c ps st).1, Ln ps c x := fun x hx => by
    rcases a2 x hx with h | h
    · exact I.ln c cm x h
    · exact h
  refine ⟨(List.Perm.append_left _ w.pm.symm).trans I.pm, I.dn, fun x hx y hy => (toC x hx).symm.trans (toC y hy), ?_, ?_, ?_⟩
  · intro j hj d hd p hp
    have hjl : j < st.1.length := by omega
    rw [← et, List.getElem?_append_left hjl] at hd
    by_cases ej : j < k
    · obtain ⟨b1, b2⟩ := I.cv j ej d hd p hp
      exact ⟨fun e hm => b1 e (w.sub _ hm), fun e hm => b2 e (w.sub _ hm)⟩
    · have : j = k := by omega
      subst this
      rw [hc] at hd
      injection hd with hd
      subst hd
      exact a3 p hp
  · rw [← et, List.length_append]; omega
  · rw [← et]
    intro e
    exact I.ne (List.append_eq_nil_iff.mp e).1
theorem HeapI.close {E : List α} {ps : List (α × α)} {hs : List (List α)} {st : List α × List α} {k : Nat} (hE : E.Nodup) (hps : ∀ p ∈ ps, p.1 ∈ E ∧ p.2 ∈ E) (I : HeapI E ps hs st k) (hk : k = st.1.length) : Done ps (hs ++ [st.1]) := by
  have nd := I.pm.nodup_iff.mpr hE
  obtain ⟨_, nd2, dj⟩ := List.nodup_append.mp nd
  have go : ∀ {y z : α}, y ∈ st.1 → ((y, z) ∈ ps ∨ (z, y) ∈ ps) → z ∈ st.1 := by
    intro y z hy hm
    have zE : z ∈ E := by rcases hm with m | m; exact (hps _ m).2; exact (hps _ m).1
    rcases List.mem_append.mp (I.pm.mem_iff.mpr zE) with h | h
    · exfalso
      obtain ⟨H, hH, zH⟩ := List.mem_flatten.mp h
      have yH : y ∈ H := I.dn.cl H hH z zH y (by rcases hm with m | m; exact (Ln.refl _).bw m; exact (Ln.refl _).fw m)
      exact dj y (List.mem_flatten.mpr ⟨H, hH, yH⟩) y (List.mem_append_left _ hy) rfl
    · rcases List.mem_append.mp h with h | h
      · exact h
      · exfalso
        obtain ⟨j, hj, ej⟩ := List.getElem_of_mem hy
        rcases hm with m | m
        · exact (I.cv j (by omega) y (by rw [List.getElem?_eq_getElem hj, ej]) _ m).1 rfl h
        · exact (I.cv j (by omega) y (by rw [List.getElem?_eq_getElem hj, ej]) _ m).2 rfl h
  refine ⟨?_, ?_, ?_⟩
  · intro H hH
    rcases List.mem_append.mp hH with h | h
    · exact I.dn.ne H h
    · rw [List.mem_singleton.mp h]; exact I.ne
  · intro H hH
    rcases List.mem_append.mp hH with h | h
    · exact I.dn.cn H h
    · rw [List.mem_singleton.mp h]; exact I.ln
  · intro H hH x hx y hl
    rcases List.mem_append.mp hH with h | h
    · exact I.dn.cl H h x hx y hl
    · rw [List.mem_singleton.mp h] at hx ⊢
      induction hl with
      | refl => exact hx
      | fw _ m ih => exact go ih (.inl m)
      | bw _ m ih => exact go ih (.inr m)
theorem Done.nil {ps : List (α × α)} : Done ps [] := ⟨by simp, by simp, by simp⟩
theorem Done.part {E : List α} {ps : List (α × α)} {hs : List (List α)} (d : Done ps hs) (pm : hs.flatten.Perm E) : Part E ps hs := ⟨pm, d.ne, d.cn, d.cl⟩
end
/-! ### things and their sorted form -/
abbrev Th := Int ⊕ (Int × Int)
def thD : Th → D
  | .inl i => .int i
  | .inr p => .tup [.int p.1, .int p.2]
def thP : Th → PyData
  | .inl i => .int i
  | .inr p => .tuple [.int p.1, .int p.2]
def kd : Th → Bool
  | .inl _ => false
  | .inr _ => true
def tle (a b : List (Int ⊕ List Nat)) : Bool := !PyProof.Rows.lexLt PyProof.Rows.itemOrd b a
theorem tle_total (a b : List (Int ⊕ List Nat)) : (tle a b || tle b a) = true := by
  unfold tle
  cases h1 : PyProof.Rows.lexLt PyProof.Rows.itemOrd b a with
  | false => rfl
  | true =>
    cases h2 : PyProof.Rows.lexLt PyProof.Rows.itemOrd a b with
    | false => rfl
    | true =>
      have := PyProof.Rows.lex_trans (O := PyProof.Rows.itemOrd) _ _ _ h1 h2
      rw [PyProof.Rows.lex_irrefl] at this
      cases this
theorem tle_trans (a b c : List (Int ⊕ List Nat)) (h1 : tle a b = true) (h2 : tle b c = true) : tle a c = true := by
  unfold tle at *
  cases h : PyProof.Rows.lexLt PyProof.Rows.itemOrd c a with
  | false => rfl
  | true =>
    rcases PyProof.Rows.lex_negTrans (O := PyProof.Rows.itemOrd) c b a h with h' | h'
    · rw [h'] at h2; cases h2
    · rw [h'] at h1; cases h1
theorem tle_anti {a b : List (Int ⊕ List Nat)} (h1 : tle a b = true) (h2 : tle b a = true) : a = b := by
  unfold tle at *
  exact PyProof.Rows.lex_total (O := PyProof.Rows.itemOrd) a b (by simpa using h2) (by simpa using h1)
theorem dataLe_t {β : Type} (k : β → PyData) (x y : β) : PySem.W.dataLe false k x y = tle (PySem.W.keyToks (k x)) (PySem.W.keyToks (k y)) := rfl
theorem ms_toks {β : Type} (k : β → PyData) (l : List β) : (l.mergeSort (PySem.W.dataLe false k)).map (fun b => PySem.W.keyToks (k b)) = (l.map fun b => PySem.W.keyToks (k b)).mergeSort tle :=
  List.map_mergeSort fun a _ b _ => dataLe_t k a b
theorem tle_uniq {l m : List (List (Int ⊕ List Nat))} (h : l.Perm m) : l.mergeSort tle = m.mergeSort tle :=
  List.Perm.eq_of_pairwise (le := fun a b => tle a b = true) (fun _ _ _ _ h1 h2 => tle_anti h1 h2) (List.pairwise_mergeSort tle_trans tle_total l) (List.pairwise_mergeSort tle_trans tle_total m) ((List.mergeSort_perm l tle).trans (h.trans (List.mergeSort_perm m tle).symm))
theorem kt_all : ∀ {xs ys : List Th} {b : Bool}, (∀ x ∈ xs, kd x = b) → (∀ y ∈ ys, kd y = b) → PySem.W.keyToksAll (xs.map thP) = PySem.W.keyToksAll (ys.map thP) → xs = ys
  | [], [], _, _, _, _ => rfl
  | [], y :: ys, _, _, _, h => by
    simp [PySem.W.keyToksAll] at h
  | x :: xs, [], _, _, _, h => by
    simp [PySem.W.keyToksAll] at h
  | x :: xs, y :: ys, b, hx, hy, h => by
    have kx := hx x List.mem_cons_self
    have ky := hy y List.mem_cons_self
    have go : PySem.W.keyToksAll (xs.map thP) = PySem.W.keyToksAll (ys.map thP) → xs = ys := kt_all (b := b) (fun z hz => hx z (List.mem_cons_of_mem _ hz)) (fun z hz => hy z (List.mem_cons_of_mem _ hz))
    match x, y with
    | .inl i, .inl j =>
      simp [PySem.W.keyToksAll, PySem.W.keyToks, thP] at h
      rw [h.1, go h.2]
    | .inr p, .inr r =>
      simp [PySem.W.keyToksAll, PySem.W.keyToks, thP] at h
      obtain ⟨h1, h2, h3⟩ := h
      rw [show p = r from Prod.ext h1 h2, go h3]
    | .inl i, .inr r => rw [← ky] at kx; cases kx
    | .inr p, .inl j => rw [← ky] at kx; cases kx
theorem kt_one {x y : Th} (h : PySem.W.keyToks (thP x) = PySem.W.keyToks (thP y)) : x = y := by
  match x, y with
  | .inl i, .inl j => simp [PySem.W.keyToks, thP] at h; rw [h]
  | .inr p, .inr r =>
    simp [PySem.W.keyToksAll, PySem.W.keyToks, thP] at h
    rw [show p = r from Prod.ext h.1 h.2]
  | .inl i, .inr r => simp [PySem.W.keyToksAll, PySem.W.keyToks, thP] at h
  | .inr p, .inl j => simp [PySem.W.keyToksAll, PySem.W.keyToks, thP] at h
/-- sorted(heap) -/
def sortE (H : List Th) : List Th := H.mergeSort (PySem.W.dataLe false thP)
def heapP (H : List Th) : PyData := .list (H.map thP)
/-- sorted([sorted(heap) for heap in heaps]) -/
def sortHH (hs : List (List Th)) : List (List Th) := (hs.map sortE).mergeSort (PySem.W.dataLe false heapP)
theorem map_inj {β γ : Type} {f : β → γ} : ∀ {l m : List β}, (∀ x ∈ l, ∀ y ∈ m, f x = f y → x = y) → l.map f = m.map f → l = m
  | [], [], _, _ => rfl
  | [], _ :: _, _, h => by simp at h
  | _ :: _, [], _, h => by simp at h
  | x :: l, y :: m, hi, h => by
    rw [List.map_cons, List.map_cons] at h
    injection h with h1 h2
    rw [hi x List.mem_cons_self y List.mem_cons_self h1, map_inj (fun a ha b hb => hi a (List.mem_cons_of_mem _ ha) b (List.mem_cons_of_mem _ hb)) h2]
theorem sortE_perm {H : List Th} : (sortE H).Perm H := List.mergeSort_perm _ _
theorem sortE_uniq {H K : List Th} (h : H.Perm K) : sortE H = sortE K := by
  refine map_inj (f := fun b => PySem.W.keyToks (thP b)) (fun x _ y _ e => kt_one e) ?_
  unfold sortE
  rw [ms_toks, ms_toks]
  exact tle_uniq (h.map _)
theorem sortHH_uniq {b : Bool} {hs ks : List (List Th)} (hb : ∀ H ∈ hs, ∀ x ∈ H, kd x = b) (kb : ∀ H ∈ ks, ∀ x ∈ H, kd x = b) (h : (hs.map sortE).Perm (ks.map sortE)) : sortHH hs = sortHH ks := by
  have mem : ∀ {hs : List (List Th)}, (∀ H ∈ hs, ∀ x ∈ H, kd x = b) → ∀ H ∈ sortHH hs, ∀ x ∈ H, kd x = b := by
    intro hs hb H hH x hx
    obtain ⟨K, hK, rfl⟩ := List.mem_map.mp ((List.mergeSort_perm _ _).mem_iff.mp hH)
    exact hb K hK x (sortE_perm.mem_iff.mp hx)
  refine map_inj (f := fun H => PySem.W.keyToks (heapP H)) (fun x hx y hy e => ?_) ?_
  · exact kt_all (mem hb x hx) (mem kb y hy) e
  · unfold sortHH
    rw [ms_toks, ms_toks]
    exact tle_uniq (h.map _)
theorem sort_nd : ∀ {hs : List (List Th)}, hs.flatten.Nodup → (∀ H ∈ hs, H ≠ []) → (hs.map sortE).Nodup
  | [], _, _ => List.nodup_nil
  | H :: hs, nd, ne => by
    rw [List.flatten_cons, List.nodup_append] at nd
    rw [List.map_cons, List.nodup_cons]
    refine ⟨fun hm => ?_, sort_nd nd.2.1 fun K hK => ne K (List.mem_cons_of_mem _ hK)⟩
    obtain ⟨K, hK, e⟩ := List.mem_map.mp hm
    match H, ne H List.mem_cons_self, nd.2.2 with
    | x :: r, _, dj =>
      have : x ∈ sortE K := by rw [e]; exact sortE_perm.mem_iff.mpr List.mem_cons_self
      exact dj x List.mem_cons_self x (List.mem_flatten.mpr ⟨K, hK, sortE_perm.mem_iff.mp this⟩) rfl
theorem Part.uniq {b : Bool} {E : List Th} {ps qs : List (Th × Th)} {hs ks : List (List Th)} (hE : E.Nodup) (hk : ∀ x ∈ E, kd x = b) (P : Part E ps hs) (R : Part E qs ks) (same : ∀ x y, Ln ps x y ↔ Ln qs x y) : sortHH hs = sortHH ks := by
  have sub : ∀ {ps : List (Th × Th)} {hs : List (List Th)}, Part E ps hs → ∀ H ∈ hs, ∀ x ∈ H, kd x = b := fun P H hH x hx => hk x (P.fl.mem_iff.mp (List.mem_flatten.mpr ⟨H, hH, hx⟩))
  have one : ∀ {ps qs : List (Th × Th)} {hs ks : List (List Th)}, Part E ps hs → Part E qs ks → (∀ x y, Ln ps x y ↔ Ln qs x y) → ∀ S ∈ hs.map sortE, S ∈ ks.map sortE := by
    intro ps qs hs ks P R same S hS
    obtain ⟨H, hH, rfl⟩ := List.mem_map.mp hS
    obtain ⟨K, hK, e⟩ := P.like hE R same H hH
    exact List.mem_map.mpr ⟨K, hK, (sortE_uniq e).symm⟩
  refine sortHH_uniq (sub P) (sub R) ((List.perm_ext_iff_of_nodup (sort_nd (P.nodup hE) P.ne) (sort_nd (R.nodup hE) R.ne)).mpr fun S => ⟨one P R same S, one R P (fun x y => (same x y).symm) S⟩)
end F3
set_option maxHeartbeats 400000
/-! SD: heaps put together (program), points. -/
namespace F3
open PySem PySem.Spec PyProof.Rows L2
/-! ### a store that grows -/
def Ap (h g : Sto) : Sto := h ++ g
section
variable {h g k : Sto} {n : Nat} {c : Cell}
theorem Ap_len : (Ap h g).length = h.length + g.length := by simp [Ap]
theorem Ap_app : Ap h g ++ k = Ap h (g ++ k) := by simp [Ap]
theorem Ap_get0 : (Ap h g)[h.length]? = g[0]? := by
  unfold Ap
  rw [List.getElem?_append_right (by simp)]; simp
theorem Ap_getk : (Ap h g)[h.length + n]? = g[n]? := by
  unfold Ap
  rw [List.getElem?_append_right (by simp)]; simp
theorem Ap_set0 : (Ap h g).set h.length c = Ap h (g.set 0 c) := by
  unfold Ap
  rw [List.set_append, if_neg (by simp)]; simp
theorem Ap_setk : (Ap h g).set (h.length + n) c = Ap h (g.set n c) := by
  unfold Ap
  rw [List.set_append, if_neg (by simp)]; simp
theorem Ap_mk : h = Ap h [] := by unfold Ap; rw [List.append_nil]
end
/-! ### things -/
theorem toP_th {h : Sto} {k : Nat} (x : Th) : toP h (k + 2) (thD x) = some (thP x) := by
  cases x <;> rfl
theorem toP_ths {h : Sto} {k : Nat} (H : List Th) : (H.map thD).mapM (toP h (k + 2)) = some (H.map thP) := mapM_of fun x _ => toP_th x
theorem toP_heap {h : Sto} {n k : Nat} {H : List Th} (e : h[n]? = some (.lst (H.map thD))) : toP h (k + 3) (.ref n) = some (heapP H) := toP_lst e (toP_ths H)
theorem eqv_th (a b : Th) : PyData.eqv (thP a) (thP b) = decide (a = b) := by
  match a, b with
  | .inl i, .inl j => simp [thP, PyData.eqv]; rw [Bool.eq_iff_iff]; simp
  | .inr (i, j), .inr (k, l) => simp [thP, PyData.eqv, PyData.eqvAll]; rw [Bool.eq_iff_iff]; simp
  | .inl i, .inr (k, l) => simp [thP, PyData.eqv]
  | .inr (i, j), .inl l => simp [thP, PyData.eqv]
theorem any_th {H : List Th} {x : Th} : ((H.map thP).any fun z => PyData.eqv z (thP x)) = isIn x H := by
  induction H with
  | nil => rfl
  | cons a r ih =>
    rw [List.map_cons, List.any_cons, ih, eqv_th, isIn_cons]
theorem inRD_th {h : Sto} {n : Nat} {H : List Th} {x : Th} {Q : DK} (e : h[n]? = some (.lst (H.map thD))) : inRD false (thD x) (.ref n) h Q = Q (.bl (isIn x H)) h := by
  unfold inRD
  rw [toP_th (k := 7) x, toP_heap (k := 6) e]
  show Q (.bl ((H.map thP).any fun z => PyData.eqv z (thP x))) h = _
  rw [any_th]
theorem cl_th {n : Nat} (x : Th) : ClD n (thD x) := by cases x <;> simp [thD, ClD, ClDs]
theorem cl_ths {n : Nat} {H : List Th} : ClDs n (H.map thD) := ClDs.all fun x hx => by obtain ⟨p, _, rfl⟩ := List.mem_map.mp hx; exact cl_th p
/-- a list of heaps: cells with their lists -/
abbrev Zs := List (Nat × List Th)
def refD (z : Nat × List Th) : D := .ref z.1
def HsZ (h : Sto) (n : Nat) (zs : Zs) : Prop := h[n]? = some (.lst (zs.map refD)) ∧ ∀ z ∈ zs, h[z.1]? = some (.lst (z.2.map thD))
theorem HsZ.up {h g : Sto} {n : Nat} {zs : Zs} (H : HsZ h n zs) : HsZ (h ++ g) n zs := ⟨get_up H.1, fun z hz => get_up (H.2 z hz)⟩
def b_united_1 : C3 :=
  (cIf (tOr3 (tT (tO (inRD false) (tV 1) (tV 5))) (tT (tO (inRD false) (tV 2) (tV 5)))) (cDrop (tLM extT (tV 4) (tC3 (tV 5) tN3))) (cDrop (tLM appT (tV 3) (tC3 (tV 5) tN3))))
def t_united : C3 :=
  (cSeq (cAsg (tNew tN3) (gN 3))
    (cSeq (cAsg (tNew tN3) (gN 4))
    (cSeq (cFor (iSeq (tV 0)) (gN 5) b_united_1)
    (cRet (tO addR (tV 3) (tNew (tC3 (tV 4) tN3)))))))

def sp_united : Sp3 := spR (fun (a : Nat × Th × Th × Zs) => [.ref a.1, thD a.2.1, thD a.2.2.1]) (fun a h => HsZ h a.1 a.2.2.2 ∧ a.2.2.2.length ≤ 1000 ∧ (a.2.2.2.map Prod.snd).flatten.length ≤ 1000)
  (fun a h d h' => ∃ g n zs, d = .ref n ∧ h' = h ++ g ∧ HsZ h' n zs ∧ zs.map Prod.snd = unite (a.2.2.2.map Prod.snd) a.2.1 a.2.2.1)
theorem mono_united : MonoS sp_united := mono_spR
theorem len_united : ∀ ds h Q E, sp_united ds h Q E → ds.length = 3 := len_spR fun _ => rfl
theorem united_q {h : Sto} {n : Nat} {x y : Th} {zs : Zs} {Q : DK} (hz : HsZ h n zs) (h1 : zs.length ≤ 1000) (h2 : (zs.map Prod.snd).flatten.length ≤ 1000)
    (q : ∀ (g : Sto) (k : Nat) (ws : Zs), HsZ (h ++ g) k ws → ws.map Prod.snd = unite (zs.map Prod.snd) x y → Q (.ref k) (h ++ g)) : callS sp_united [.ref n, thD x, thD y] h Q :=
  ⟨(n, x, y, zs), rfl, ⟨hz, h1, h2⟩, by rintro _ _ ⟨g, k, ws, rfl, rfl, e1, e2⟩; exact q g k ws e1 e2⟩
theorem flat_len {p : Nat × List Th → Bool} : ∀ l : Zs, ((l.filter p).flatMap Prod.snd).length ≤ (l.flatMap Prod.snd).length
  | [] => Nat.le_refl _
  | z :: l => by
    have := flat_len (p := p) l
    rw [List.filter_cons, List.flatMap_cons]
    split
    · rw [List.flatMap_cons, List.length_append, List.length_append]; omega
    · rw [List.length_append]; omega
theorem rd_united : ∀ ds h Q E, ClS h.length h → ClDs h.length ds → sp_united ds h Q E → t_united (ends3 (GQ h.length Q)) (start3 6 ds) h := by
  rintro ds h Q E hcl _ ⟨⟨n, x, y, zs⟩, rfl, ⟨hz, h1, h2⟩, q⟩
  have hz' : HsZ h n zs := hz
  have h1' : zs.length ≤ 1000 := h1
  have h2' : (zs.map Prod.snd).flatten.length ≤ 1000 := h2
  have q' : ∀ (g : Sto) (k : Nat) (ws : Zs), HsZ (h ++ g) k ws → ws.map Prod.snd = unite (zs.map Prod.snd) x y → Q (.ref k) (h ++ g) := fun g k ws e1 e2 => q _ _ ⟨g, k, ws, rfl, rfl, e1, e2⟩
  clear q hz h1 h2
  have e0 : ∀ g : Sto, (Ap h g)[n]? = some (.lst (zs.map refD)) := fun g => get_up hz'.1
  have ez : ∀ z ∈ zs, ∀ g : Sto, (Ap h g)[z.1]? = some (.lst (z.2.map thD)) := fun z hz g => get_up (hz'.2 z hz)
  conv => arg 3; rw [Ap_mk (h := h)]
  try simp only [↓tV_q, ↓tN3_q, ↓tNew_q, ↓cSeq_q, ↓cAsg_q, ↓gN_q, ↓cFor_q, ↓iSeq_q, ↓iSeqD_rq, ↓start3_q, ↓Ap_len, ↓Ap_app, thenE_nx, onO_some, onC_q, List.getElem?_cons_zero, List.set_cons_zero, List.set_cons_succ, List.map_cons, List.map_nil, List.cons_append, List.nil_append, List.length_cons, List.length_nil, List.replicate_succ, List.replicate_zero, Nat.reduceAdd, Nat.reduceSub, Nat.add_zero, t_united, e0]
  refine forL (f := refD) (fun l ρ h' => ∃ o5, ρ = [some (.ref n), some (thD x), some (thD y), some (.ref h.length), some (.ref (h.length + 1)), o5] ∧ h' = Ap h [.lst ((l.filter fun z => !touch x y z.2).map refD), .lst (((l.filter fun z => touch x y z.2).flatMap Prod.snd).map thD)]) ⟨none, rfl, rfl⟩ ?_ ?_ ?_
  · rintro l ρ h' ⟨o5, rfl, rfl⟩
    exact e0 _
  · rintro ρ h' ⟨o5, rfl, rfl⟩
    try simp only [↓tV_q, ↓tO_q, ↓tN3_q, ↓tC3_q, ↓tNew_q, ↓cRet_q, ↓addR_rq, ↓Ap_len, ↓Ap_app, ↓Ap_get0, ↓Ap_getk, thenE_nx, ends3_rt, onO_some, onC_q, List.getElem?_cons_zero, List.getElem?_cons_succ, List.cons_append, List.nil_append, List.length_cons, List.length_nil, Nat.reduceAdd, Nat.reduceLeDiff]
    refine ⟨?_, .inl ?_⟩
    · have := List.length_filter_le (fun z : Nat × List Th => !touch x y z.2) zs
      simp only [List.length_map]
      omega
    refine q' [.lst ((zs.filter fun z => !touch x y z.2).map refD), .lst (((zs.filter fun z => touch x y z.2).flatMap Prod.snd).map thD), .lst [.ref (h.length + 1)], .lst ((zs.filter fun z => !touch x y z.2).map refD ++ [.ref (h.length + 1)])] (h.length + 3) ((zs.filter fun z => !touch x y z.2) ++ [(h.length + 1, (zs.filter fun z => touch x y z.2).flatMap Prod.snd)]) ⟨?_, ?_⟩ ?_
    · rw [get_app, List.map_append]; rfl
    · intro z hz
      rcases List.mem_append.mp hz with hz | hz
      · exact get_up (hz'.2 z (List.mem_filter.mp hz).1)
      · rw [List.mem_singleton.mp hz]
        exact get_app
    · unfold unite
      rw [List.map_append, List.filter_map, List.filter_map, List.flatMap_def]; rfl
  · rintro l z r ρ h' F e ⟨o5, rfl, rfl⟩ hF
    have zm : z ∈ zs := by rw [e]; exact List.mem_append_right _ List.mem_cons_self
    have ez' := ez z zm
    have hll : l.length ≤ 1000 := by rw [e, List.length_append] at h1'; omega
    have hfl : ((l.filter fun z => touch x y z.2).flatMap Prod.snd).length + z.2.length ≤ 1000 := by
      have h3 : ((l.filter fun z => touch x y z.2).flatMap Prod.snd).length ≤ (l.flatMap Prod.snd).length := flat_len l
      have h4 := h2'
      rw [e, List.map_append, List.flatten_append, List.length_append, List.map_cons, List.flatten_cons, List.length_append, ← List.flatMap_def] at h4
      omega
    have yes : touch x y z.2 = true → F [some (.ref n), some (thD x), some (thD y), some (.ref h.length), some (.ref (h.length + 1)), some (refD z)] (Ap h [.lst ((l.filter fun z => !touch x y z.2).map refD), .lst (((l.filter fun z => touch x y z.2).flatMap Prod.snd).map thD ++ z.2.map thD)]) := fun ht => hF _ _ ⟨some (refD z), rfl, by simp [List.filter_append, ht]⟩
    have no : touch x y z.2 = false → F [some (.ref n), some (thD x), some (thD y), some (.ref h.length), some (.ref (h.length + 1)), some (refD z)] (Ap h [.lst ((l.filter fun z => !touch x y z.2).map refD ++ [refD z]), .lst (((l.filter fun z => touch x y z.2).flatMap Prod.snd).map thD)]) := fun ht => hF _ _ ⟨some (refD z), rfl, by simp [List.filter_append, ht]⟩
    have et : touch x y z.2 = (isIn x z.2 || isIn y z.2) := rfl
    clear hF
    try simp only [↓tV_q, ↓tO_q, ↓tT_q, ↓tOr3_q, ↓cIf_q, ↓gN_q, onO_some, List.getElem?_cons_zero, List.getElem?_cons_succ, List.set_cons_zero, List.set_cons_succ, b_united_1]
    rw [show refD z = .ref z.1 from rfl] at yes no ⊢
    rw [inRD_th (ez' _)]
    try simp only [onB_bl]
    generalize hb : isIn x z.2 = b at et ⊢
    cases b with
    | true =>
      try simp only [↓tV_q, ↓tN3_q, ↓tC3_q, ↓cDrop_q, ↓tLM_q, ↓lmD_q, ↓extT_q, ↓Ap_getk, ↓Ap_setk, loopE_nx, onO_some, ifC_true, onC_q, List.getElem?_cons_zero, List.getElem?_cons_succ, List.set_cons_zero, List.set_cons_succ, ez']
      exact ⟨by simp only [List.length_map]; omega, yes (by rw [et]; rfl)⟩
    | false =>
      try simp only [↓tV_q, ↓tO_q, ↓tT_q, onO_some, ifC_false, List.getElem?_cons_zero, List.getElem?_cons_succ]
      rw [inRD_th (ez' _)]
      try simp only [onB_bl]
      generalize hb2 : isIn y z.2 = b2 at et ⊢
      cases b2 with
      | true =>
        try simp only [↓tV_q, ↓tN3_q, ↓tC3_q, ↓cDrop_q, ↓tLM_q, ↓lmD_q, ↓extT_q, ↓Ap_getk, ↓Ap_setk, loopE_nx, onO_some, ifC_true, onC_q, List.getElem?_cons_zero, List.getElem?_cons_succ, List.set_cons_zero, List.set_cons_succ, ez']
        exact ⟨by simp only [List.length_map]; omega, yes (by rw [et]; rfl)⟩
      | false =>
        try simp only [↓tV_q, ↓tN3_q, ↓tC3_q, ↓cDrop_q, ↓tLM_q, ↓lmD_q, ↓appT_q, ↓Ap_get0, ↓Ap_set0, loopE_nx, onO_some, ifC_false, onC_q, List.getElem?_cons_zero, List.getElem?_cons_succ, List.set_cons_zero]
        refine ⟨?_, no (by rw [et]; rfl)⟩
        have := List.length_filter_le (fun z : Nat × List Th => !touch x y z.2) l
        simp only [List.length_map]
        omega
/-! ### ends and points -/
def endT (s : Int) : Th := .inr (if s < 0 then -s else s, if 0 < s then 1 else 0)
def begT (s : Int) : Th := .inr (if s < 0 then -s else s, if s < 0 then 1 else 0)
/-- the corners' pairs of a triangle -/
def trPrs (t : Tri) : List (Th × Th) := [(endT t.1, begT t.2.1), (endT t.2.1, begT t.2.2), (endT t.2.2, begT t.1)]
def prsS (sh : List Tri) : List (Th × Th) := sh.flatMap trPrs
/-- both ends of all ties -/
def endsE (n : Nat) : List Th := (List.range n).flatMap fun (k : Nat) => [.inr (1 + (k : Int), 0), .inr (1 + (k : Int), 1)]
theorem ShOk.half {sh : List Tri} (h : ShOk sh) : ∃ m : Nat, 1 ≤ m ∧ m ≤ 6 ∧ sh.length = 2 * m ∧ (sh.length : Int) * 3 / 2 = (3 * m : Nat) := by
  obtain ⟨m, h1, h2, h3, _⟩ := h
  exact ⟨m, h1, h2, h3, by rw [h3]; omega⟩
theorem ShOk.side {sh : List Tri} (h : ShOk sh) {m : Nat} (hm : sh.length = 2 * m) : ∀ s ∈ sidesS sh, 1 ≤ s.natAbs ∧ s.natAbs ≤ 3 * m := by
  obtain ⟨m', h1, h2, h3, h4⟩ := h
  have : m' = m := by omega
  subst this
  intro s hs
  have := h4.mem_iff.mp (List.mem_map.mpr ⟨s, hs, rfl⟩)
  simp only [List.mem_append, or_self] at this
  obtain ⟨k, hk, e⟩ := List.mem_map.mp this
  have := List.mem_range.mp hk
  omega
theorem endsE_nd (n : Nat) : (endsE n).Nodup := by
  unfold endsE
  induction n with
  | zero => simp
  | succ n ih =>
    rw [List.range_succ, List.flatMap_append, List.nodup_append]
    refine ⟨ih, by simp, ?_⟩
    intro a ha b hb e
    subst e
    obtain ⟨k, hk, hka⟩ := List.mem_flatMap.mp ha
    have hk := List.mem_range.mp hk
    simp at hb hka
    rcases hb with rfl | rfl <;> simp at hka <;> omega
theorem endsE_kd {n : Nat} : ∀ x ∈ endsE n, kd x = true := by
  intro x hx
  obtain ⟨k, _, h⟩ := List.mem_flatMap.mp hx
  simp at h
  rcases h with rfl | rfl <;> rfl
theorem endsE_mem {n : Nat} {i j : Int} (h1 : 1 ≤ i) (h2 : i ≤ n) (hj : j = 0 ∨ j = 1) : (Sum.inr (i, j) : Th) ∈ endsE n := by
  refine List.mem_flatMap.mpr ⟨(i - 1).toNat, List.mem_range.mpr (by omega), ?_⟩
  have : 1 + (((i - 1).toNat : Nat) : Int) = i := by omega
  rw [this]
  rcases hj with rfl | rfl <;> simp
theorem endsE_len (n : Nat) : (endsE n).length = 2 * n := by
  unfold endsE
  induction n with
  | zero => rfl
  | succ n ih => rw [List.range_succ, List.flatMap_append, List.length_append, ih]; simp; omega
theorem endT_mem {n : Nat} {s : Int} (h1 : 1 ≤ s.natAbs) (h2 : s.natAbs ≤ n) : endT s ∈ endsE n := by
  unfold endT
  refine endsE_mem (by split <;> omega) (by split <;> omega) (by split <;> simp)
theorem begT_mem {n : Nat} {s : Int} (h1 : 1 ≤ s.natAbs) (h2 : s.natAbs ≤ n) : begT s ∈ endsE n := by
  unfold begT
  refine endsE_mem (by split <;> omega) (by split <;> omega) (by split <;> simp)
theorem prsS_mem {sh : List Tri} (h : ShOk sh) {m : Nat} (hm : sh.length = 2 * m) : ∀ p ∈ prsS sh, p.1 ∈ endsE (3 * m) ∧ p.2 ∈ endsE (3 * m) := by
  intro p hp
  obtain ⟨t, ht, hp⟩ := List.mem_flatMap.mp hp
  have sd : ∀ s : Int, s = t.1 ∨ s = t.2.1 ∨ s = t.2.2 → 1 ≤ s.natAbs ∧ s.natAbs ≤ 3 * m := fun s hs => h.side hm s (List.mem_flatMap.mpr ⟨t, ht, by simpa using hs⟩)
  obtain ⟨a1, a2⟩ := sd t.1 (by simp)
  obtain ⟨b1, b2⟩ := sd t.2.1 (by simp)
  obtain ⟨c1, c2⟩ := sd t.2.2 (by simp)
  simp only [trPrs, List.mem_cons, List.not_mem_nil, or_false] at hp
  rcases hp with rfl | rfl | rfl
  · exact ⟨endT_mem a1 a2, begT_mem b1 b2⟩
  · exact ⟨endT_mem b1 b2, begT_mem c1 c2⟩
  · exact ⟨endT_mem c1 c2, begT_mem a1 a2⟩
end F3
set_option maxHeartbeats 400000
/-! SE: points (program). -/
namespace F3
open PySem PySem.Spec PyProof.Rows L2
def t_how_many_ties : C3 :=
  (cRet (tO divR (tO mulR (tB3 lenR (tC3 (tV 0) tN3)) (tK (.int 3))) (tK (.int 2))))

def sp_how_many_ties : Sp3 := spD (fun (a__ : Nat × List Tri) => match a__ with | (n, sh) => [.ref n]) (fun (a__ : Nat × List Tri) (h : Sto) => match a__ with | (n, sh) => h[n]? = some (.lst (sh.map triD)) ∧ ShOk sh) (fun (a__ : Nat × List Tri) (h : Sto) => match a__ with | (n, sh) => .int ((sh.length : Int) * 3 / 2)) (fun (a__ : Nat × List Tri) (h : Sto) => match a__ with | (n, sh) => h)
theorem mono_how_many_ties : MonoS sp_how_many_ties := mono_spD
theorem len_how_many_ties : ∀ ds h Q E, sp_how_many_ties ds h Q E → ds.length = 1 := len_spD fun _ => rfl
theorem how_many_ties_q {n : Nat} {sh : List Tri} {h : Sto} {Q : DK} (hp : h[n]? = some (.lst (sh.map triD)) ∧ ShOk sh) (q : Q (.int ((sh.length : Int) * 3 / 2)) (h)) : callS sp_how_many_ties [.ref n] h Q := ⟨(n, sh), rfl, hp, q⟩
theorem rd_how_many_ties : ∀ ds h Q E, ClS h.length h → ClDs h.length ds → sp_how_many_ties ds h Q E → t_how_many_ties (ends3 (GQ h.length Q)) (start3 1 ds) h := by
  rintro ds h Q E hcl _ ⟨⟨n, sh⟩, rfl, hp0, q0⟩
  have hp : h[n]? = some (.lst (sh.map triD)) ∧ ShOk sh := hp0
  have q : Q (.int ((sh.length : Int) * 3 / 2)) (h) := q0
  clear hp0 q0
  obtain ⟨h1, h2⟩ := hp
  try simp only [↓tV_q, ↓tK_q, ↓tO_q, ↓tN3_q, ↓tC3_q, ↓cRet_q, ↓tB3_q, ↓start3_q, ↓mulR_ii_q, ↓divR_ii_q, ↓lenR_rq, ends3_rt, onO_some, onC_q, List.getElem?_cons_zero, List.map_cons, List.map_nil, List.cons_append, List.nil_append, List.length_cons, List.length_nil, List.replicate_zero, Nat.reduceAdd, Nat.reduceSub, t_how_many_ties, h1]
  exact ⟨mulOk_r (by decide), divOk_of (by decide) (by decide), .inl (by rw [List.length_map]; exact q)⟩
def t_end_of : C3 :=
  (cRet (tTup3 (tC3 (tB3 absR (tC3 (tV 0) tN3)) (tC3 (tB3 intR (tC3 (tO gtR (tV 0) (tK (.int 0))) tN3)) tN3))))

def sp_end_of : Sp3 := spD (fun (s : Int) => [.int s]) (fun (s : Int) (h : Sto) => True) (fun (s : Int) (h : Sto) => thD (endT s)) (fun (s : Int) (h : Sto) => h)
theorem mono_end_of : MonoS sp_end_of := mono_spD
theorem len_end_of : ∀ ds h Q E, sp_end_of ds h Q E → ds.length = 1 := len_spD fun _ => rfl
theorem end_of_q {s : Int} {h : Sto} {Q : DK} (q : Q (thD (endT s)) (h)) : callS sp_end_of [.int s] h Q := ⟨s, rfl, trivial, q⟩
theorem rd_end_of : ∀ ds h Q E, ClS h.length h → ClDs h.length ds → sp_end_of ds h Q E → t_end_of (ends3 (GQ h.length Q)) (start3 1 ds) h := by
  rintro ds h Q E hcl _ ⟨s, rfl, hp0, q0⟩
  have q : Q (thD (endT s)) (h) := q0
  clear hp0 q0
  try simp only [↓tV_q, ↓tK_q, ↓tO_q, ↓tN3_q, ↓tC3_q, ↓tTup3_q, ↓cRet_q, ↓tB3_q, ↓start3_q, ↓gtR_ii_q, ↓absR_i_q, ↓intR_b_q, ends3_rt, onO_some, List.getElem?_cons_zero, List.map_cons, List.map_nil, List.cons_append, List.nil_append, List.length_cons, List.length_nil, List.replicate_zero, Nat.reduceAdd, Nat.reduceSub, t_end_of]
  exact .inl (by simpa [endT, thD] using q)
def t_begin_of : C3 :=
  (cRet (tTup3 (tC3 (tB3 absR (tC3 (tV 0) tN3)) (tC3 (tB3 intR (tC3 (tO ltR (tV 0) (tK (.int 0))) tN3)) tN3))))

def sp_begin_of : Sp3 := spD (fun (s : Int) => [.int s]) (fun (s : Int) (h : Sto) => True) (fun (s : Int) (h : Sto) => thD (begT s)) (fun (s : Int) (h : Sto) => h)
theorem mono_begin_of : MonoS sp_begin_of := mono_spD
theorem len_begin_of : ∀ ds h Q E, sp_begin_of ds h Q E → ds.length = 1 := len_spD fun _ => rfl
theorem begin_of_q {s : Int} {h : Sto} {Q : DK} (q : Q (thD (begT s)) (h)) : callS sp_begin_of [.int s] h Q := ⟨s, rfl, trivial, q⟩
theorem rd_begin_of : ∀ ds h Q E, ClS h.length h → ClDs h.length ds → sp_begin_of ds h Q E → t_begin_of (ends3 (GQ h.length Q)) (start3 1 ds) h := by
  rintro ds h Q E hcl _ ⟨s, rfl, hp0, q0⟩
  have q : Q (thD (begT s)) (h) := q0
  clear hp0 q0
  try simp only [↓tV_q, ↓tK_q, ↓tO_q, ↓tN3_q, ↓tC3_q, ↓tTup3_q, ↓cRet_q, ↓tB3_q, ↓start3_q, ↓ltR_ii_q, ↓absR_i_q, ↓intR_b_q, ends3_rt, onO_some, List.getElem?_cons_zero, List.map_cons, List.map_nil, List.cons_append, List.nil_append, List.length_cons, List.length_nil, List.replicate_zero, Nat.reduceAdd, Nat.reduceSub, t_begin_of]
  exact .inl (by simpa [begT, thD] using q)
structure OwnZ (h : Sto) (n : Nat) (zs : Zs) : Prop where
  nd : (zs.map Prod.fst).Nodup
  lo : ∀ z ∈ zs, h.length ≤ z.1 ∧ z.1 ≠ n
  at_ : h.length ≤ n
theorem Part.len {α : Type} [DecidableEq α] {E : List α} {ps : List (α × α)} {hs : List (List α)} (P : Part E ps hs) : hs.flatten.length = E.length ∧ hs.length ≤ E.length := by
  have h1 := P.fl.length_eq
  refine ⟨h1, ?_⟩
  rw [← h1]
  have : ∀ l : List (List α), (∀ H ∈ l, H ≠ []) → l.length ≤ l.flatten.length := by
    intro l
    induction l with
    | nil => intro _; exact Nat.le_refl _
    | cons a r ih =>
      intro hn
      rw [List.flatten_cons, List.length_append, List.length_cons]
      have h2 : 0 < a.length := List.length_pos_iff.mpr (hn a List.mem_cons_self)
      have := ih fun H hH => hn H (List.mem_cons_of_mem _ hH)
      omega
  exact this hs P.ne
theorem ix3_1 {a b c : D} {q : D → Prop} : atT [a, b, c] 1 q = q b := id rfl
theorem ix3_2 {a b c : D} {q : D → Prop} : atT [a, b, c] 2 q = q c := id rfl
theorem ix3_m1 {a b c : D} {q : D → Prop} : atT [a, b, c] (-1) q = q c := id rfl
theorem ix3_m2 {a b c : D} {q : D → Prop} : atT [a, b, c] (-2) q = q b := id rfl
theorem alike_th {x y : Th} (h : kd x = kd y) : PySem.W.alike (thP x) (thP y) = true := by
  match x, y with
  | .inl _, .inl _ => simp [thP, PySem.W.alike]
  | .inr _, .inr _ => simp [thP, PySem.W.alike, PySem.W.alikeAll]
  | .inl _, .inr _ => cases h
  | .inr _, .inl _ => cases h
theorem alike_ths : ∀ {xs ys : List Th} {b : Bool}, (∀ x ∈ xs, kd x = b) → (∀ y ∈ ys, kd y = b) → PySem.W.alikeAll (xs.map thP) (ys.map thP) = true
  | [], _, _, _, _ => by simp [PySem.W.alikeAll]
  | _ :: _, [], _, _, _ => by simp [PySem.W.alikeAll]
  | x :: xs, y :: ys, b, hx, hy => by
    rw [List.map_cons, List.map_cons, PySem.W.alikeAll, alike_ths (b := b) (fun z hz => hx z (List.mem_cons_of_mem _ hz)) (fun z hz => hy z (List.mem_cons_of_mem _ hz)), Bool.and_true]
    exact alike_th ((hx x List.mem_cons_self).trans (hy y List.mem_cons_self).symm)
theorem srtG_th {b : Bool} {H : List Th} {h : Sto} {Q : List D → Sto → Prop} (hk : ∀ x ∈ H, kd x = b) (q : Q ((sortE H).map thD) h) : srtG (H.map thD) h Q := by
  refine ⟨Th, H, thD, thP, rfl, fun x _ => toP_th x, ?_, ?_, q⟩
  · intro d hd d' hd'
    obtain ⟨x, hx, rfl⟩ := List.mem_map.mp hd
    obtain ⟨y, hy, rfl⟩ := List.mem_map.mp hd'
    exact alike_th ((hk x hx).trans (hk y hy).symm)
  · cases b with
    | true =>
      refine .inl fun d hd => ?_
      obtain ⟨x, hx, rfl⟩ := List.mem_map.mp hd
      match x, hk x hx with
      | .inr p, _ => exact ⟨_, _, rfl⟩
    | false =>
      refine .inr fun d hd => ?_
      obtain ⟨x, hx, rfl⟩ := List.mem_map.mp hd
      match x, hk x hx with
      | .inl p, _ => exact ⟨by simp [thP], by simp [thP]⟩
/-- lists that stand side by side -/
def numZ : Nat → List (List Th) → Zs
  | _, [] => []
  | b, H :: r => (b, H) :: numZ (b + 1) r
theorem numZ_snoc : ∀ {b : Nat} {xs : List (List Th)} {H : List Th}, numZ b (xs ++ [H]) = numZ b xs ++ [(b + xs.length, H)]
  | b, [], H => rfl
  | b, x :: xs, H => by
    show (b, x) :: numZ (b + 1) (xs ++ [H]) = _
    rw [numZ_snoc, show b + 1 + xs.length = b + (x :: xs).length by simp; omega]; rfl
theorem numZ_snd : ∀ {b : Nat} {xs : List (List Th)}, (numZ b xs).map Prod.snd = xs
  | _, [] => rfl
  | b, x :: xs => congrArg (x :: ·) (numZ_snd (b := b + 1) (xs := xs))
theorem numZ_lo : ∀ {b : Nat} {xs : List (List Th)}, ∀ z ∈ numZ b xs, b ≤ z.1 ∧ z.1 < b + xs.length ∧ xs[z.1 - b]? = some z.2
  | b, x :: xs, z, hz => by
    rcases List.mem_cons.mp hz with rfl | hz
    · exact ⟨Nat.le_refl _, by simp, by simp⟩
    · obtain ⟨h1, h2, h3⟩ := numZ_lo z hz
      refine ⟨by omega, by simp; omega, ?_⟩
      rw [show z.1 - b = z.1 - (b + 1) + 1 by omega]
      exact h3
theorem numZ_nd : ∀ {b : Nat} {xs : List (List Th)}, ((numZ b xs).map Prod.fst).Nodup
  | _, [] => List.nodup_nil
  | b, x :: xs => by
    show ((b :: (numZ (b + 1) xs).map Prod.fst)).Nodup
    rw [List.nodup_cons]
    refine ⟨fun hm => ?_, numZ_nd⟩
    obtain ⟨z, hz, e⟩ := List.mem_map.mp hm
    have := (numZ_lo z hz).1
    omega
theorem sorted_heaps {h g : Sto} {k j : Nat} {ρ : S3} {ws : Zs} {E : List Th} {ps : List (Th × Th)} {b : Bool} (hw : HsZ (Ap h g) k ws) (P : Part E ps (ws.map Prod.snd)) (hk : ∀ x ∈ E, kd x = b) (hl : E.length ≤ 1000) {te : E3}
    (he : ∀ z ∈ ws, (∀ x ∈ z.2, kd x = b) → ∀ (g' : Sto) (Q : DK), Q (.ref (h.length + (g ++ g').length)) (Ap h (g ++ g' ++ [.lst ((sortE z.2).map thD)])) → gN j (refD z) ρ (Ap h (g ++ g')) fun ρ2 h2 => te ρ2 h2 Q) {Q : DK}
    (q : ∀ (g' : Sto) (n : Nat) (zs : Zs), HsZ (Ap h g') n zs → OwnZ h n zs → zs.map Prod.snd = sortHH (ws.map Prod.snd) → Q (.ref n) (Ap h g')) :
    lcT (gN j) bYes te (fun h' => h'[k]? = some (.lst (ws.map refD))) ρ (ws.map refD) [] (Ap h g) fun xs h1 => srtG xs h1 fun xs h1 => Q (.ref h1.length) (h1 ++ [.lst xs]) := by
  have kz : ∀ z ∈ ws, ∀ x ∈ z.2, kd x = b := fun z hz x hx => hk x (P.fl.mem_iff.mp (List.mem_flatten.mpr ⟨z.2, List.mem_map.mpr ⟨z, hz, rfl⟩, hx⟩))
  refine lcL (f := refD) (fun l acc h' => acc = (numZ (h.length + g.length) (l.map fun z => sortE z.2)).map refD ∧ h' = Ap h (g ++ l.map fun z => .lst ((sortE z.2).map thD))) ⟨rfl, by rw [List.map_nil, List.append_nil]⟩ ?_ ?_ ?_
  · rintro l acc h' ⟨rfl, rfl⟩
    rw [← Ap_app]
    exact get_up hw.1
  · rintro acc h' ⟨rfl, rfl⟩
    have cell : ∀ z ∈ numZ (h.length + g.length) (ws.map fun z => sortE z.2), (Ap h (g ++ ws.map fun z => .lst ((sortE z.2).map thD)))[z.1]? = some (.lst (z.2.map thD)) := by
      intro z hz
      obtain ⟨h1, h2, h3⟩ := numZ_lo z hz
      rw [show z.1 = h.length + (g.length + (z.1 - (h.length + g.length))) by omega, Ap_getk, get_app]
      rw [List.getElem?_map] at h3 ⊢
      cases e : ws[z.1 - (h.length + g.length)]? with
      | none => rw [e] at h3; cases h3
      | some w =>
        rw [e] at h3
        injection h3 with h3
        rw [Option.map_some, ← h3]
    refine ⟨Nat × List Th, numZ (h.length + g.length) (ws.map fun z => sortE z.2), refD, fun z => heapP z.2, rfl, fun z hz => toP_heap (k := 5) (cell z hz), ?_, .others fun z => ⟨by simp [heapP], by simp [heapP]⟩, ?_⟩
    · intro d hd d' hd'
      have kk : ∀ z ∈ numZ (h.length + g.length) (ws.map fun z => sortE z.2), ∀ x ∈ z.2, kd x = b := by
        intro z hz x hx
        obtain ⟨w, hw, e⟩ := List.mem_map.mp (show z.2 ∈ ws.map fun z => sortE z.2 by rw [← numZ_snd (b := h.length + g.length) (xs := ws.map fun z => sortE z.2)]; exact List.mem_map.mpr ⟨z, hz, rfl⟩)
        rw [← e] at hx
        exact kz w hw x (sortE_perm.mem_iff.mp hx)
      obtain ⟨x, hx, rfl⟩ := List.mem_map.mp hd
      obtain ⟨y, hy, rfl⟩ := List.mem_map.mp hd'
      show PySem.W.alike (.list _) (.list _) = true
      rw [PySem.W.alike]
      exact alike_ths (kk x hx) (kk y hy)
    · generalize hzs : (numZ (h.length + g.length) (ws.map fun z => sortE z.2)).mergeSort (PySem.W.dataLe false fun z => heapP z.2) = zs
      have pz : zs.Perm (numZ (h.length + g.length) (ws.map fun z => sortE z.2)) := hzs ▸ List.mergeSort_perm _ _
      have := q (g ++ (ws.map fun z => .lst ((sortE z.2).map thD)) ++ [.lst (zs.map refD)]) (h.length + (g.length + ws.length)) zs ⟨?_, fun z hz => ?_⟩ ⟨?_, fun z hz => ?_, by omega⟩ ?_
      · rw [Ap_app, Ap_len, List.length_append, List.length_map]
        exact this
      · rw [Ap_getk, show g.length + ws.length = (g ++ ws.map fun z => Cell.lst ((sortE z.2).map thD)).length by simp]
        exact get_new
      · rw [← Ap_app]
        exact get_up (cell z (pz.mem_iff.mp hz))
      · exact (pz.map Prod.fst).nodup_iff.mpr numZ_nd
      · obtain ⟨h1, h2, _⟩ := numZ_lo z (pz.mem_iff.mp hz)
        rw [List.length_map] at h2
        exact ⟨by omega, by omega⟩
      · have := List.map_mergeSort (r := PySem.W.dataLe false fun z : Nat × List Th => heapP z.2) (s := PySem.W.dataLe false heapP) (f := Prod.snd) (l := numZ (h.length + g.length) (ws.map fun z => sortE z.2)) (fun _ _ _ _ => rfl)
        rw [← hzs, this, numZ_snd]
        unfold sortHH
        rw [List.map_map]; rfl
  · rintro l z r acc h' F e ⟨rfl, rfl⟩ hF
    have zm : z ∈ ws := by rw [e]; exact List.mem_append_right _ List.mem_cons_self
    refine he z zm (kz z zm) _ _ (hF _ _ ⟨?_, ?_⟩)
    · rw [List.map_append, List.map_singleton, numZ_snoc, List.map_append, List.length_map]
      simp [refD, Nat.add_assoc]
    · rw [List.map_append, List.map_singleton, List.append_assoc]
def b_points_1 : C3 :=
  (cDrop (tLM extT (tV 1) (tC3 (tNew (tC3 (tNew (tC3 (tTup3 (tC3 (tV 2) (tC3 (tK (.int 0)) tN3))) tN3)) (tC3 (tNew (tC3 (tTup3 (tC3 (tV 2) (tC3 (tK (.int 1)) tN3))) tN3)) tN3))) tN3)))
def b_points_3 : C3 :=
  (cAsg (tCall3 sp_united (tC3 (tV 1) (tC3 (tCall3 sp_end_of (tC3 (tO ixR (tV 3) (tV 4)) tN3)) (tC3 (tCall3 sp_begin_of (tC3 (tO ixR (tV 3) (tO subR (tV 4) (tK (.int 2)))) tN3)) tN3)))) (gN 1))
def b_points_2 : C3 :=
  (cFor (iRng (tC3 (tK (.int 3)) tN3)) (gN 4) b_points_3)
def e_points_1 : E3 :=
  (tNew (tL3 (onLM srtG) (tC3 (tV 5) tN3)))
def t_points : C3 :=
  (cSeq (cAsg (tNew tN3) (gN 1))
    (cSeq (cFor (iRng (tC3 (tK (.int 1)) (tC3 (tO addR (tCall3 sp_how_many_ties (tC3 (tV 0) tN3)) (tK (.int 1))) tN3))) (gN 2) b_points_1)
    (cSeq (cFor (iSeq (tV 0)) (gN 3) b_points_2)
    (cRet (tNew (tL3 srtG (tLc3 (iSeq (tV 1)) (gN 5) bYes e_points_1 [5])))))))

def sp_points : Sp3 := spR (fun (a : Nat × List Tri) => [.ref a.1]) (fun a h => h[a.1]? = some (.lst (a.2.map triD)) ∧ ShOk a.2)
  (fun a h d h' => ∃ g n zs hs, d = .ref n ∧ h' = h ++ g ∧ HsZ h' n zs ∧ OwnZ h n zs ∧ Part (endsE (3 * (a.2.length / 2))) (prsS a.2) hs ∧ zs.map Prod.snd = sortHH hs)
theorem mono_points : MonoS sp_points := mono_spR
theorem len_points : ∀ ds h Q E, sp_points ds h Q E → ds.length = 1 := len_spR fun _ => rfl
theorem rd_points : ∀ ds h Q E, ClS h.length h → ClDs h.length ds → sp_points ds h Q E → t_points (ends3 (GQ h.length Q)) (start3 6 ds) h := by
  rintro ds h Q E hcl _ ⟨⟨n, sh⟩, rfl, ⟨hn, ok⟩, q⟩
  have hn' : h[n]? = some (.lst (sh.map triD)) := hn
  have ok' : ShOk sh := ok
  clear hn ok
  obtain ⟨m, m1, m6, hm, em⟩ := ok'.half
  have e0 : ∀ g : Sto, (Ap h g)[n]? = some (.lst (sh.map triD)) := fun g => get_up hn'
  conv => arg 3; rw [Ap_mk (h := h)]
  try simp only [↓tV_q, ↓tK_q, ↓tO_q, ↓tN3_q, ↓tC3_q, ↓tNew_q, ↓cSeq_q, ↓cAsg_q, ↓gN_q, ↓cFor_q, ↓iRng_q, ↓tCall3_q, ↓start3_q, ↓Ap_len, ↓Ap_app, thenE_nx, onO_some, List.getElem?_cons_zero, List.set_cons_zero, List.set_cons_succ, List.map_cons, List.map_nil, List.cons_append, List.nil_append, List.length_cons, List.length_nil, List.replicate_succ, List.replicate_zero, Nat.reduceAdd, Nat.reduceSub, Nat.add_zero, t_points]
  refine how_many_ties_q (sh := sh) ⟨e0 _, ok'⟩ ?_
  rw [em]
  try simp only [↓tK_q, ↓tN3_q, ↓rngD_2q, ↓addR_ii_q]
  refine ⟨⟨by omega, by omega, by omega, by omega⟩, ?_⟩
  have eT : (((3 * m : Nat) : Int) + 1 - 1).toNat = 3 * m := by omega
  rw [eT]
  refine forL (f := fun (k : Nat) => D.int (1 + (k : Int))) (fun l ρ h' => ∃ (G : Sto) (zs : Zs) (o2 : Option D), ρ = [some (.ref n), some (.ref h.length), o2, none, none, none] ∧ h' = Ap h (.lst (zs.map refD) :: G) ∧ (∀ z ∈ zs, ∃ j, z.1 = h.length + (j + 1) ∧ G[j]? = some (.lst (z.2.map thD))) ∧ zs.map Prod.snd = (endsE l.length).map fun x => [x]) ⟨[], [], none, rfl, rfl, by simp, rfl⟩ (fun _ _ _ _ => trivial) ?_ ?_
  · rintro ρ h' ⟨G, zs, o2, rfl, rfl, hz, ez⟩
    rw [List.length_range] at ez
    have hz0 : HsZ (Ap h (.lst (zs.map refD) :: G)) h.length zs := by
      refine ⟨by rw [Ap_get0]; rfl, fun z hz' => ?_⟩
      obtain ⟨j, j1, j2⟩ := hz z hz'
      rw [j1, Ap_getk, List.getElem?_cons_succ]
      exact j2
    have P0 : Part (endsE (3 * m)) [] (zs.map Prod.snd) := by rw [ez]; exact .start
    try simp only [↓tV_q, ↓cSeq_q, ↓cFor_q, ↓iSeq_q, ↓iSeqD_rq, thenE_nx, onO_some, onC_q, List.getElem?_cons_zero, e0]
    refine forL (f := triD) (fun l ρ h' => ∃ (g : Sto) (k : Nat) (ws : Zs) (o2 o3 o4 : Option D), ρ = [some (.ref n), some (.ref k), o2, o3, o4, none] ∧ h' = Ap h g ∧ HsZ (Ap h g) k ws ∧ Part (endsE (3 * m)) (prsS l) (ws.map Prod.snd)) ⟨_, _, zs, _, _, _, rfl, rfl, hz0, P0⟩ ?_ ?_ ?_
    · rintro l ρ h' ⟨g, k, ws, o2, o3, o4, rfl, rfl, _, _⟩
      exact e0 _
    · rintro ρ h' ⟨g, k, ws, o2, o3, o4, rfl, rfl, hw, P⟩
      try simp only [↓tV_q, ↓tNew_q, ↓cRet_q, ↓iSeq_q, ↓iSeqD_rq, ↓tLc3_q, ↓tL3_q, thenE_nx, onO_some, onC_q, wipe3_nil, wipe3_cons, List.getElem?_cons_zero, List.getElem?_cons_succ, List.set_cons_zero, List.set_cons_succ, hw.1]
      have pl := P.len
      rw [endsE_len] at pl
      refine ⟨by have := pl.2; rw [List.length_map] at this ⊢; omega, ?_⟩
      refine sorted_heaps (E := endsE (3 * m)) (b := true) hw P endsE_kd (by rw [endsE_len]; omega) (fun z hz hk g' Q hQ => ?_) (Q := GQ h.length Q) fun g' n2 zs hz ho es => .inl (q _ _ ⟨g', n2, zs, _, rfl, rfl, hz, ho, ?_, es⟩)
      · have ec : (Ap h (g ++ g'))[z.1]? = some (.lst (z.2.map thD)) := by rw [← Ap_app]; exact get_up (hw.2 z hz)
        try simp only [↓tV_q, ↓tN3_q, ↓tC3_q, ↓tNew_q, ↓gN_q, ↓tL3_q, ↓onLM_rq, onO_some, onC_q, List.getElem?_cons_zero, List.getElem?_cons_succ, List.set_cons_zero, List.set_cons_succ, e_points_1, refD, ec]
        exact srtG_th hk (by rw [Ap_len, Ap_app]; exact hQ)
      · show Part (endsE (3 * (sh.length / 2))) (prsS sh) (ws.map Prod.snd)
        rw [show sh.length / 2 = m by omega]
        exact P
    · rintro l t r ρ h' F e ⟨g, k, ws, o2, o3, o4, rfl, rfl, hw, P⟩ hF
      have pm : ∀ p ∈ trPrs t, p.1 ∈ endsE (3 * m) ∧ p.2 ∈ endsE (3 * m) := fun p hp => prsS_mem ok' hm p (List.mem_flatMap.mpr ⟨t, by rw [e]; exact List.mem_append_right _ List.mem_cons_self, hp⟩)
      try simp only [↓tK_q, ↓tN3_q, ↓tC3_q, ↓gN_q, ↓cFor_q, ↓iRng_q, ↓rngD_1q, List.set_cons_zero, List.set_cons_succ, b_points_2]
      have e3 : (List.range (Int.toNat 3)) = List.range 3 := rfl
      rw [e3]
      refine ⟨by decide, ?_⟩
      refine forL (f := fun (k : Nat) => D.int (k : Int)) (fun l2 ρ h' => ∃ (g : Sto) (k : Nat) (ws : Zs) (o4 : Option D), ρ = [some (.ref n), some (.ref k), o2, some (triD t), o4, none] ∧ h' = Ap h g ∧ HsZ (Ap h g) k ws ∧ Part (endsE (3 * m)) (prsS l ++ (trPrs t).take l2.length) (ws.map Prod.snd)) ⟨_, _, ws, _, rfl, rfl, hw, by rw [List.length_nil, List.take_zero, List.append_nil]; exact P⟩ (fun _ _ _ _ => trivial) ?_ ?_
      · rintro ρ h' ⟨g, k, ws, o4, rfl, rfl, hw, P⟩
        refine hF _ _ ⟨g, k, ws, o2, _, o4, rfl, rfl, hw, ?_⟩
        have : prsS (l ++ [t]) = prsS l ++ (trPrs t).take (List.range 3).length := by unfold prsS; rw [List.flatMap_append]; simp [trPrs]
        rw [this]
        exact P
      · rintro l2 i r2 ρ h' F e ⟨g, k, ws, o4, rfl, rfl, hw, P⟩ hF
        obtain ⟨ei, il⟩ := rng_at e
        have pl := P.len
        rw [endsE_len] at pl
        have pl2 : ws.length ≤ 1000 := by have := pl.2; rw [List.length_map] at this; omega
        have last : ∀ p, (trPrs t)[i]? = some p → ∀ (Q : DK), (∀ (g' : Sto) (k : Nat) (ws' : Zs), HsZ (Ap h g') k ws' → Part (endsE (3 * m)) (prsS l ++ (trPrs t).take (l2 ++ [i]).length) (ws'.map Prod.snd) → Q (.ref k) (Ap h g')) → callS sp_united [.ref k, thD p.1, thD p.2] (Ap h g) Q := by
          intro p hp Q hQ
          refine united_q hw pl2 (by omega) fun g2 k2 ws2 hz2 e2 => ?_
          have := P.unite (pm p (List.mem_of_getElem? hp)).1 (pm p (List.mem_of_getElem? hp)).2
          rw [← e2, List.append_assoc] at this
          have et : (trPrs t).take l2.length ++ [(p.1, p.2)] = (trPrs t).take (l2 ++ [i]).length := by
            rw [List.length_append, List.length_singleton, List.take_add_one, ← ei, hp]; rfl
          rw [et] at this
          have e3 : (Ap h g ++ g2) = Ap h (g ++ g2) := Ap_app
          rw [e3] at hz2 ⊢
          exact hQ _ _ _ hz2 this
        rcases (by omega : i = 0 ∨ i = 1 ∨ i = 2) with rfl | rfl | rfl
        · have c0 : ((0 : Nat) : Int) = 0 := rfl
          rw [c0]
          try simp only [↓tV_q, ↓tO_q, ↓tN3_q, ↓tC3_q, ↓cAsg_q, ↓gN_q, ↓tCall3_q, ↓ixR_ti_q, onO_some, atT_0, List.getElem?_cons_zero, List.getElem?_cons_succ, List.set_cons_zero, List.set_cons_succ, b_points_3, triD]
          refine end_of_q ?_
          try simp only [↓tV_q, ↓tK_q, ↓tO_q, ↓tN3_q, ↓tC3_q, ↓tCall3_q, ↓subR_ii_q, ↓ixR_ti_q, onO_some, List.getElem?_cons_zero, List.getElem?_cons_succ, ix3_m2, Int.reduceSub]
          refine begin_of_q ?_
          try simp only [↓tN3_q]
          refine last _ rfl _ fun g2 k2 ws2 hz2 P2 => ?_
          exact hF _ _ ⟨g2, k2, ws2, _, rfl, rfl, hz2, P2⟩
        · have c0 : ((1 : Nat) : Int) = 1 := rfl
          rw [c0]
          try simp only [↓tV_q, ↓tO_q, ↓tN3_q, ↓tC3_q, ↓cAsg_q, ↓gN_q, ↓tCall3_q, ↓ixR_ti_q, onO_some, atT_0, atT_1, List.getElem?_cons_zero, List.getElem?_cons_succ, List.set_cons_zero, List.set_cons_succ, b_points_3, triD]
          refine end_of_q ?_
          try simp only [↓tV_q, ↓tK_q, ↓tO_q, ↓tN3_q, ↓tC3_q, ↓tCall3_q, ↓subR_ii_q, ↓ixR_ti_q, onO_some, List.getElem?_cons_zero, List.getElem?_cons_succ, ix3_m1, Int.reduceSub]
          refine begin_of_q ?_
          try simp only [↓tN3_q]
          refine last _ rfl _ fun g2 k2 ws2 hz2 P2 => ?_
          exact hF _ _ ⟨g2, k2, ws2, _, rfl, rfl, hz2, P2⟩
        · have c0 : ((2 : Nat) : Int) = 2 := rfl
          rw [c0]
          try simp only [↓tV_q, ↓tO_q, ↓tN3_q, ↓tC3_q, ↓cAsg_q, ↓gN_q, ↓tCall3_q, ↓ixR_ti_q, onO_some, atT_0, atT_1, atT_2, List.getElem?_cons_zero, List.getElem?_cons_succ, List.set_cons_zero, List.set_cons_succ, b_points_3, triD]
          refine end_of_q ?_
          try simp only [↓tV_q, ↓tK_q, ↓tO_q, ↓tN3_q, ↓tC3_q, ↓tCall3_q, ↓subR_ii_q, ↓ixR_ti_q, onO_some, atT_0, List.getElem?_cons_zero, List.getElem?_cons_succ, Int.reduceSub]
          refine begin_of_q ?_
          try simp only [↓tN3_q]
          refine last _ rfl _ fun g2 k2 ws2 hz2 P2 => ?_
          exact hF _ _ ⟨g2, k2, ws2, _, rfl, rfl, hz2, P2⟩
  · rintro l k r ρ h' F e ⟨G, zs, o2, rfl, rfl, hz, ez⟩ hF
    obtain ⟨ek, kl⟩ := rng_at e
    have zl : zs.length ≤ 100 := by
      have := congrArg List.length ez
      rw [List.length_map, List.length_map, endsE_len] at this
      omega
    try simp only [↓tV_q, ↓tK_q, ↓tN3_q, ↓tC3_q, ↓tTup3_q, ↓tNew_q, ↓cDrop_q, ↓gN_q, ↓tLM_q, ↓lmD_q, ↓extT_q, ↓Ap_len, ↓Ap_app, ↓Ap_get0, ↓Ap_getk, onO_some, onC_q, List.getElem?_cons_zero, List.getElem?_cons_succ, List.set_cons_zero, List.set_cons_succ, List.cons_append, List.length_cons, b_points_1]
    rw [get_new]
    try simp only [↓Ap_len, ↓Ap_app, ↓Ap_set0, loopE_nx, onC_q, List.set_cons_zero, List.cons_append, List.length_cons, List.length_nil, Nat.reduceAdd, Nat.reduceLeDiff]
    refine ⟨by rw [List.length_map]; omega, hF _ _ ⟨G ++ [.lst [.tup [.int (1 + k), .int 0]]] ++ [.lst [.tup [.int (1 + k), .int 1]]] ++ [.lst [.ref (h.length + (G.length + 1)), .ref (h.length + (G.length + 1 + 1))]], zs ++ [(h.length + (G.length + 1), [.inr (1 + (k : Int), 0)]), (h.length + (G.length + 1 + 1), [.inr (1 + (k : Int), 1)])], _, rfl, ?_, ?_, ?_⟩⟩
    · simp [List.map_append, refD]
    · intro z hz'
      rcases List.mem_append.mp hz' with hz' | hz'
      · obtain ⟨j, j1, j2⟩ := hz z hz'
        exact ⟨j, j1, get_up (get_up (get_up j2))⟩
      · simp only [List.mem_cons, List.not_mem_nil, or_false] at hz'
        rcases hz' with rfl | rfl
        · exact ⟨G.length, rfl, get_up (get_up get_new)⟩
        · refine ⟨G.length + 1, rfl, get_up ?_⟩
          have : G.length + 1 = (G ++ [Cell.lst [.tup [.int (1 + (k : Int)), .int 0]]]).length := by simp
          rw [this]
          exact get_new
    · rw [List.map_append, ez, List.length_append, List.length_singleton]
      have : endsE (l.length + 1) = endsE l.length ++ [.inr (1 + (k : Int), 0), .inr (1 + (k : Int), 1)] := by
        unfold endsE
        rw [List.range_succ, List.flatMap_append, ek]; simp
      rw [this, List.map_append]; rfl
end F3
set_option maxHeartbeats 400000
/-! SF: points (the law's own walk). -/
namespace F3
open PySem PySem.Spec PyProof.Rows L2
def endL (s a : Int) : Th := .inr (if s < 0 then -s else s, if (decide (0 < s) == decide (a = 1)) = true then 1 else 0)
theorem endL_1 {s : Int} : endL s 1 = endT s := by
  unfold endL endT
  by_cases h : 0 < s <;> simp [h]
theorem endL_0 {s : Int} (h0 : s ≠ 0) : endL s 0 = begT s := by
  unfold endL begT
  by_cases h : 0 < s
  · have : ¬ s < 0 := by omega
    simp [h, this]
  · have : s < 0 := by omega
    simp [h, this]
def t_lend : C3 :=
  (cRet (tTup3 (tC3 (tB3 absR (tC3 (tV 0) tN3)) (tC3 (tB3 intR (tC3 (tO eqR (tO gtR (tV 0) (tK (.int 0))) (tO eqR (tV 1) (tK (.int 1)))) tN3)) tN3))))

def sp_lend : Sp3 := spD (fun (a__ : Int × Int) => match a__ with | (s, a) => [.int s, .int a]) (fun (a__ : Int × Int) (h : Sto) => match a__ with | (s, a) => True) (fun (a__ : Int × Int) (h : Sto) => match a__ with | (s, a) => thD (endL s a)) (fun (a__ : Int × Int) (h : Sto) => match a__ with | (s, a) => h)
theorem mono_lend : MonoS sp_lend := mono_spD
theorem len_lend : ∀ ds h Q E, sp_lend ds h Q E → ds.length = 2 := len_spD fun _ => rfl
theorem lend_q {s : Int} {a : Int} {h : Sto} {Q : DK} (q : Q (thD (endL s a)) (h)) : callS sp_lend [.int s, .int a] h Q := ⟨(s, a), rfl, trivial, q⟩
theorem rd_lend : ∀ ds h Q E, ClS h.length h → ClDs h.length ds → sp_lend ds h Q E → t_lend (ends3 (GQ h.length Q)) (start3 2 ds) h := by
  rintro ds h Q E hcl _ ⟨⟨s, a⟩, rfl, hp0, q0⟩
  have q : Q (thD (endL s a)) (h) := q0
  clear hp0 q0
  try simp only [↓tV_q, ↓tK_q, ↓tO_q, ↓tN3_q, ↓tC3_q, ↓tTup3_q, ↓cRet_q, ↓tB3_q, ↓start3_q, ↓gtR_ii_q, ↓eqR_ii_q, ↓eqR_bb_q, ↓absR_i_q, ↓intR_b_q, ends3_rt, onO_some, List.getElem?_cons_zero, List.getElem?_cons_succ, List.map_cons, List.map_nil, List.cons_append, List.nil_append, List.length_cons, List.length_nil, List.replicate_zero, Nat.reduceAdd, Nat.reduceSub, t_lend]
  exact .inl q
def b_lmeets_2 : C3 :=
  (cDrop (tLM appT (tV 1) (tC3 (tTup3 (tC3 (tCall3 sp_lend (tC3 (tV 5) (tC3 (tK (.int 1)) tN3))) (tC3 (tCall3 sp_lend (tC3 (tV 6) (tC3 (tK (.int 0)) tN3))) tN3))) tN3)))
def b_lmeets_1 : C3 :=
  (cFor (iSeq (tTup3 (tC3 (tTup3 (tC3 (tV 2) (tC3 (tV 3) tN3))) (tC3 (tTup3 (tC3 (tV 3) (tC3 (tV 4) tN3))) (tC3 (tTup3 (tC3 (tV 4) (tC3 (tV 2) tN3))) tN3))))) (gTup3 2 (gCons3 (gN 5) (gCons3 (gN 6) gNil3))) b_lmeets_2)
def t_lmeets : C3 :=
  (cSeq (cAsg (tNew tN3) (gN 1))
    (cSeq (cFor (iSeq (tV 0)) (gTup3 3 (gCons3 (gN 2) (gCons3 (gN 3) (gCons3 (gN 4) gNil3)))) b_lmeets_1)
    (cRet (tV 1))))

def thpD (p : Th × Th) : D := .tup [thD p.1, thD p.2]
theorem cl_thps {n : Nat} {ps : List (Th × Th)} : ClDs n (ps.map thpD) := ClDs.all fun x hx => by obtain ⟨p, _, rfl⟩ := List.mem_map.mp hx; simp only [thpD, ClD, ClDs, and_true]; exact ⟨cl_th _, cl_th _⟩
def sp_lmeets : Sp3 := spD (fun (a__ : Nat × List Tri) => match a__ with | (n, sh) => [.ref n]) (fun (a__ : Nat × List Tri) (h : Sto) => match a__ with | (n, sh) => h[n]? = some (.lst (sh.map triD)) ∧ ShOk sh) (fun (a__ : Nat × List Tri) (h : Sto) => match a__ with | (n, sh) => .ref h.length) (fun (a__ : Nat × List Tri) (h : Sto) => match a__ with | (n, sh) => h ++ [.lst ((prsS sh).map thpD)])
theorem mono_lmeets : MonoS sp_lmeets := mono_spD
theorem len_lmeets : ∀ ds h Q E, sp_lmeets ds h Q E → ds.length = 1 := len_spD fun _ => rfl
theorem lmeets_q {n : Nat} {sh : List Tri} {h : Sto} {Q : DK} (hp : h[n]? = some (.lst (sh.map triD)) ∧ ShOk sh) (q : Q (.ref h.length) (h ++ [.lst ((prsS sh).map thpD)])) : callS sp_lmeets [.ref n] h Q := ⟨(n, sh), rfl, hp, q⟩
theorem rd_lmeets : ∀ ds h Q E, ClS h.length h → ClDs h.length ds → sp_lmeets ds h Q E → t_lmeets (ends3 (GQ h.length Q)) (start3 7 ds) h := by
  rintro ds h Q E hcl _ ⟨⟨n, sh⟩, rfl, hp0, q0⟩
  have hp : h[n]? = some (.lst (sh.map triD)) ∧ ShOk sh := hp0
  have q : Q (.ref h.length) (h ++ [.lst ((prsS sh).map thpD)]) := q0
  clear hp0 q0
  obtain ⟨hn, ok⟩ := hp
  have q' : Q (.ref h.length) (h ++ [.lst ((prsS sh).map thpD)]) := q
  clear q
  obtain ⟨m, m1, m6, hm, em⟩ := ok.half
  have e0 : ∀ g : Sto, (Ap h g)[n]? = some (.lst (sh.map triD)) := fun g => get_up hn
  conv => arg 3; rw [Ap_mk (h := h)]
  try simp only [↓tV_q, ↓tN3_q, ↓tNew_q, ↓cSeq_q, ↓cAsg_q, ↓gN_q, ↓cFor_q, ↓iSeq_q, ↓iSeqD_rq, ↓start3_q, ↓Ap_len, ↓Ap_app, thenE_nx, onO_some, onC_q, List.getElem?_cons_zero, List.set_cons_zero, List.set_cons_succ, List.map_cons, List.map_nil, List.cons_append, List.nil_append, List.length_cons, List.length_nil, List.replicate_succ, List.replicate_zero, Nat.reduceAdd, Nat.reduceSub, Nat.add_zero, t_lmeets, e0]
  refine forL (f := triD) (fun l ρ h' => ∃ o2 o3 o4 o5 o6 : Option D, ρ = [some (.ref n), some (.ref h.length), o2, o3, o4, o5, o6] ∧ h' = Ap h [.lst ((prsS l).map thpD)]) ⟨_, _, _, _, _, rfl, rfl⟩ ?_ ?_ ?_
  · rintro l ρ h' ⟨o2, o3, o4, o5, o6, rfl, rfl⟩
    exact e0 _
  · rintro ρ h' ⟨o2, o3, o4, o5, o6, rfl, rfl⟩
    try simp only [↓tV_q, ↓cRet_q, thenE_nx, ends3_rt, onO_some, List.getElem?_cons_zero, List.getElem?_cons_succ]
    exact .inl q'
  · rintro l t r ρ h' F e ⟨o2, o3, o4, o5, o6, rfl, rfl⟩ hF
    have sd : ∀ s : Int, s = t.1 ∨ s = t.2.1 ∨ s = t.2.2 → s ≠ 0 := fun s hs => by
      have := ok.side hm s (List.mem_flatMap.mpr ⟨t, by rw [e]; exact List.mem_append_right _ List.mem_cons_self, by simpa using hs⟩)
      omega
    have len : (prsS l).length ≤ 1000 := by
      have : ∀ l : List Tri, (prsS l).length = 3 * l.length := by
        intro l
        induction l with
        | nil => rfl
        | cons a r ih => unfold prsS at ih ⊢; rw [List.flatMap_cons, List.length_append, ih]; simp [trPrs]; omega
      rw [this]
      have := congrArg List.length e
      simp at this
      omega
    try simp only [↓tV_q, ↓tN3_q, ↓tC3_q, ↓tTup3_q, ↓gN_q, ↓gNil3_q, ↓gCons3_q, ↓gTup3_q, ↓cFor_q, ↓iSeq_q, ↓iSeqD_tq, onO_some, List.getElem?_cons_zero, List.getElem?_cons_succ, List.set_cons_zero, List.set_cons_succ, List.length_cons, List.length_nil, Nat.reduceAdd, true_and, b_lmeets_1, triD]
    refine forL (f := fun (p : Int × Int) => D.tup [.int p.1, .int p.2]) (xs := [(t.1, t.2.1), (t.2.1, t.2.2), (t.2.2, t.1)]) (fun l2 ρ h' => ∃ o5 o6 : Option D, ρ = [some (.ref n), some (.ref h.length), some (.int t.1), some (.int t.2.1), some (.int t.2.2), o5, o6] ∧ h' = Ap h [.lst ((prsS l ++ l2.map fun p => (endT p.1, begT p.2)).map thpD)]) ⟨_, _, rfl, by rw [List.map_nil, List.append_nil]⟩ (fun _ _ _ _ => trivial) ?_ ?_
    · rintro ρ h' ⟨o5, o6, rfl, rfl⟩
      refine hF _ _ ⟨_, _, _, _, _, rfl, ?_⟩
      unfold prsS
      rw [List.flatMap_append]; rfl
    · rintro l2 p r2 ρ h' F e2 ⟨o5, o6, rfl, rfl⟩ hF
      have p2 : p.2 ≠ 0 := by
        have : p ∈ [(t.1, t.2.1), (t.2.1, t.2.2), (t.2.2, t.1)] := by rw [e2]; exact List.mem_append_right _ List.mem_cons_self
        simp only [List.mem_cons, List.not_mem_nil, or_false] at this
        rcases this with rfl | rfl | rfl
        · exact sd _ (by simp)
        · exact sd _ (by simp)
        · exact sd _ (by simp)
      have l2l : l2.length ≤ 3 := by
        have := congrArg List.length e2
        simp at this
        omega
      try simp only [↓tV_q, ↓tK_q, ↓tN3_q, ↓tC3_q, ↓tTup3_q, ↓cDrop_q, ↓gN_q, ↓gNil3_q, ↓gCons3_q, ↓gTup3_q, ↓tCall3_q, ↓tLM_q, ↓lmD_q, ↓Ap_get0, onO_some, onC_q, List.getElem?_cons_zero, List.getElem?_cons_succ, List.set_cons_zero, List.set_cons_succ, List.length_cons, List.length_nil, Nat.reduceAdd, true_and, b_lmeets_2]
      refine lend_q ?_
      try simp only [↓tV_q, ↓tK_q, ↓tN3_q, ↓tC3_q, ↓tCall3_q, onO_some, List.getElem?_cons_zero, List.getElem?_cons_succ]
      refine lend_q ?_
      try simp only [↓tN3_q, ↓appT_q, ↓Ap_get0, ↓Ap_set0, loopE_nx, onC_q, List.getElem?_cons_zero, List.set_cons_zero]
      refine ⟨by simp; omega, hF _ _ ⟨_, _, rfl, ?_⟩⟩
      rw [endL_1, endL_0 p2]
      simp [thpD]
end F3
set_option maxHeartbeats 400000
/-! SG: heaps (the law's own walk). -/
namespace F3
open PySem PySem.Spec PyProof.Rows L2
theorem eqX_th {h : Sto} {n : Nat} {H : List Th} {Q : DK} (e : h[n]? = some (.lst (H.map thD))) : eqX true (.ref n) [] h Q = Q (.bl (decide (H ≠ []))) h := by
  have t1 : toP h 9 (.ref n) = some (.list (H.map thP)) := toP_heap (k := 6) e
  unfold eqX
  rw [t1, List.mapM_nil]
  cases H with
  | nil => rfl
  | cons a r => rfl
theorem eqR_th {a b : Th} {h : Sto} {Q : DK} : eqR (thD a) (thD b) h Q = Q (.bl (decide (a = b))) h := by
  rw [← eqv_th]
  have e1 : toP h 9 (thD a) = some (thP a) := toP_th (k := 7) a
  have e2 : toP h 9 (thD b) = some (thP b) := toP_th (k := 7) b
  match a, b with
  | .inr p, b =>
    rw [show thD (.inr p) = .tup [.int p.1, .int p.2] from rfl] at e1 ⊢
    rw [eqR_tq, e1, e2, eqT_q]
  | .inl i, .inl j =>
    show Q (.bl (decide (i = j))) h = Q (.bl (PyData.eqv (thP (.inl i)) (thP (.inl j)))) h
    rw [eqv_th]
    congr 2
    rw [Bool.eq_iff_iff]; simp
  | .inl i, .inr p =>
    show (match toP h 9 (thD (.inl i)), toP h 9 (thD (.inr p)) with
      | some p, some q => Q (.bl (PyData.eqv p q)) h
      | _, _ => False) = _
    rw [e1, e2]
theorem place_th : ∀ {left : List Th} {y : Th}, y ∈ left → ∃ j, placeP (left.map thP) (thP y) = some j ∧ (left.map thD).eraseIdx j = (ers left y).map thD
  | a :: r, y, hy => by
    unfold placeP
    rw [List.map_cons, List.findIdx?_cons, eqv_th]
    by_cases h : a = y
    · subst h
      exact ⟨0, by simp, by rw [ers_self]; rfl⟩
    · obtain ⟨j, h1, h2⟩ := place_th (left := r) (y := y) (by rcases List.mem_cons.mp hy with e | e; exact absurd e.symm h; exact e)
      refine ⟨j + 1, ?_, ?_⟩
      · rw [if_neg (by simp [h])]
        unfold placeP at h1
        rw [h1]; rfl
      · rw [ers_ne h, List.map_cons, List.map_cons, List.eraseIdx_cons_succ, h2]
theorem set_last {G : Sto} {X Y : Cell} : (G ++ [X]).set G.length Y = G ++ [Y] := set_app0
theorem at_th {xs : List Th} {k : Nat} {c : Th} {q : D → Prop} (e : xs[k]? = some c) (h : q (thD c)) : atT (xs.map thD) (k : Int) q := by
  refine (atT_of ?_).symm ▸ h
  obtain ⟨hk, _⟩ := List.getElem?_eq_some_iff.mp e
  rw [atI_map, atI_get (by omega) (by omega), Int.toNat_natCast, e]; rfl
theorem flat_ge : ∀ {hs : List (List Th)}, (∀ H ∈ hs, H ≠ []) → hs.length ≤ hs.flatten.length
  | [], _ => Nat.le_refl _
  | H :: r, h => by
    have := flat_ge fun K hK => h K (List.mem_cons_of_mem _ hK)
    have h2 : 0 < H.length := List.length_pos_iff.mpr (h H List.mem_cons_self)
    rw [List.flatten_cons, List.length_append, List.length_cons]
    omega
def b_lheaps_4 : C3 :=
  (cIf (tAnd3 (tT (tO eqR (tV 8) (tO ixR (tV 4) (tV 5)))) (tT (tO (inRD false) (tV 9) (tV 3)))) (cSeq (cDrop (tLM remT (tV 3) (tC3 (tV 9) tN3)))
    (cDrop (tLM appT (tV 4) (tC3 (tV 9) tN3)))) cNext)
def b_lheaps_3 : C3 :=
  (cFor (iSeq (tTup3 (tC3 (tTup3 (tC3 (tV 6) (tC3 (tV 7) tN3))) (tC3 (tTup3 (tC3 (tV 7) (tC3 (tV 6) tN3))) tN3)))) (gTup3 2 (gCons3 (gN 8) (gCons3 (gN 9) gNil3))) b_lheaps_4)
def b_lheaps_2 : C3 :=
  (cSeq (cFor (iSeq (tV 1)) (gTup3 2 (gCons3 (gN 6) (gCons3 (gN 7) gNil3))) b_lheaps_3)
    (cAsg (tO addR (tV 5) (tK (.int 1))) (gN 5)))
def b_lheaps_1 : C3 :=
  (cSeq (cAsg (tNew (tC3 (tLM popAtT (tV 3) (tC3 (tK (.int 0)) tN3)) tN3)) (gN 4))
    (cSeq (cAsg (tK (.int 0)) (gN 5))
    (cSeq (cWhile (tT (tO ltR (tV 5) (tB3 lenR (tC3 (tV 4) tN3)))) b_lheaps_2)
    (cDrop (tLM appT (tV 2) (tC3 (tV 4) tN3))))))
def t_lheaps : C3 :=
  (cSeq (cAsg (tNew tN3) (gN 2))
    (cSeq (cAsg (tNew (tL3 lstM (tC3 (tV 0) tN3))) (gN 3))
    (cSeq (cWhile (tT (tOX (eqX true) (tV 3) tN3)) b_lheaps_1)
    (cRet (tV 2)))))

def sp_lheaps : Sp3 := spR (fun (a : Nat × Nat × List Th × List (Th × Th)) => [.ref a.1, .ref a.2.1]) (fun a h => h[a.1]? = some (.lst (a.2.2.1.map thD)) ∧ h[a.2.1]? = some (.lst (a.2.2.2.map thpD)) ∧ a.2.2.1.Nodup ∧ a.2.2.1.length ≤ 1000 ∧ ∀ p ∈ a.2.2.2, p.1 ∈ a.2.2.1 ∧ p.2 ∈ a.2.2.1)
  (fun a h d h' => ∃ g n zs, d = .ref n ∧ h' = h ++ g ∧ HsZ h' n zs ∧ Part a.2.2.1 a.2.2.2 (zs.map Prod.snd))
theorem mono_lheaps : MonoS sp_lheaps := mono_spR
theorem len_lheaps : ∀ ds h Q E, sp_lheaps ds h Q E → ds.length = 2 := len_spR fun _ => rfl
theorem lheaps_q {h : Sto} {n k : Nat} {E : List Th} {ps : List (Th × Th)} {Q : DK} (h1 : h[n]? = some (.lst (E.map thD))) (h2 : h[k]? = some (.lst (ps.map thpD))) (nd : E.Nodup) (hl : E.length ≤ 1000) (hp : ∀ p ∈ ps, p.1 ∈ E ∧ p.2 ∈ E)
    (q : ∀ (g : Sto) (j : Nat) (ws : Zs), HsZ (h ++ g) j ws → Part E ps (ws.map Prod.snd) → Q (.ref j) (h ++ g)) : callS sp_lheaps [.ref n, .ref k] h Q :=
  ⟨(n, k, E, ps), rfl, ⟨h1, h2, nd, hl, hp⟩, by rintro _ _ ⟨g, j, ws, rfl, rfl, e1, e2⟩; exact q g j ws e1 e2⟩
theorem rd_lheaps : ∀ ds h Q E, ClS h.length h → ClDs h.length ds → sp_lheaps ds h Q E → t_lheaps (ends3 (GQ h.length Q)) (start3 10 ds) h := by
  rintro ds h Q X hcl _ ⟨⟨n, k, E, ps⟩, rfl, ⟨h1, h2, nd, hl, hp⟩, q⟩
  have h1' : h[n]? = some (.lst (E.map thD)) := h1
  have h2' : h[k]? = some (.lst (ps.map thpD)) := h2
  have nd' : E.Nodup := nd
  have hl' : E.length ≤ 1000 := hl
  have hp' : ∀ p ∈ ps, p.1 ∈ E ∧ p.2 ∈ E := hp
  have q' : ∀ (g : Sto) (j : Nat) (ws : Zs), HsZ (h ++ g) j ws → Part E ps (ws.map Prod.snd) → Q (.ref j) (h ++ g) := fun g j ws e1 e2 => q _ _ ⟨g, j, ws, rfl, rfl, e1, e2⟩
  clear h1 h2 nd hl hp q
  have e1 : ∀ g : Sto, (Ap h g)[n]? = some (.lst (E.map thD)) := fun g => get_up h1'
  have e2 : ∀ g : Sto, (Ap h g)[k]? = some (.lst (ps.map thpD)) := fun g => get_up h2'
  conv => arg 3; rw [Ap_mk (h := h)]
  try simp only [↓tV_q, ↓tN3_q, ↓tC3_q, ↓tNew_q, ↓cSeq_q, ↓cAsg_q, ↓gN_q, ↓tL3_q, ↓start3_q, ↓lstM_rq, ↓Ap_len, ↓Ap_app, thenE_nx, onO_some, onC_q, List.getElem?_cons_zero, List.set_cons_zero, List.set_cons_succ, List.map_cons, List.map_nil, List.cons_append, List.nil_append, List.length_cons, List.length_nil, List.replicate_succ, List.replicate_zero, Nat.reduceAdd, Nat.reduceSub, Nat.add_zero, t_lheaps, e1]
  refine whL (fun mm ρ h' => ∃ (dn : List (List Th)) (left : List Th) (o4 o5 o6 o7 o8 o9 : Option D), mm = left.length ∧ ρ = [some (.ref n), some (.ref k), some (.ref h.length), some (.ref (h.length + 1)), o4, o5, o6, o7, o8, o9] ∧ h' = Ap h (.lst ((numZ (h.length + 2) dn).map refD) :: .lst (left.map thD) :: dn.map fun H => .lst (H.map thD)) ∧ Done ps dn ∧ (dn.flatten ++ left).Perm E) ⟨[], E, _, _, _, _, _, _, rfl, rfl, rfl, .nil, .refl _⟩ ?_
  rintro mm ρ h' F ⟨dn, left, o4, o5, o6, o7, o8, o9, rfl, rfl, rfl, hd, pm⟩ hF
  try simp only [↓tV_q, ↓tT_q, ↓tN3_q, ↓tOX_q, onO_some, List.getElem?_cons_zero, List.getElem?_cons_succ]
  rw [eqX_th (H := left) (by rw [Ap_getk]; rfl)]
  try simp only [onB_bl]
  cases left with
  | nil =>
    skip
    refine .inl (q' _ _ (numZ (h.length + 2) dn) ⟨get_app0, fun z hz => ?_⟩ ?_)
    · obtain ⟨a1, a2, a3⟩ := numZ_lo z hz
      rw [show z.1 = h.length + (z.1 - (h.length + 2) + 1 + 1) by omega, get_app, List.getElem?_cons_succ, List.getElem?_cons_succ, List.getElem?_map, a3]; rfl
    · rw [numZ_snd]
      rw [List.append_nil] at pm
      exact hd.part pm
  | cons x left =>
    rw [show decide (x :: left ≠ []) = true by simp]
    try simp only [↓tV_q, ↓tK_q, ↓tN3_q, ↓tC3_q, ↓tNew_q, ↓cSeq_q, ↓cAsg_q, ↓tLM_q, ↓lmD_q, ↓popAtT_q, ↓Ap_getk, onO_some, ifC_true, onC_q, List.getElem?_cons_zero, List.getElem?_cons_succ, List.map_cons, List.length_cons, b_lheaps_1]
    rw [seqIx (by omega) (by simp)]
    rw [show Int.toNat 0 = 0 from rfl]
    try simp only [↓tK_q, ↓tN3_q, ↓cSeq_q, ↓cAsg_q, ↓gN_q, ↓Ap_len, ↓Ap_app, ↓Ap_setk, thenE_nx, onN_q, onD_q, List.getElem?_cons_zero, List.set_cons_zero, List.set_cons_succ, List.map_cons, List.cons_append, List.length_cons, List.eraseIdx_cons_zero]
    refine ⟨⟨by decide, by decide⟩, ?_⟩
    generalize hA : Cell.lst ((numZ (h.length + 2) dn).map refD) = A
    generalize hG : (dn.map fun H => Cell.lst (H.map thD)) = G
    have Gl : G.length = dn.length := by rw [← hG, List.length_map]
    have dl : dn.length ≤ 1000 := by
      have := pm.length_eq
      have h3 : dn.length ≤ dn.flatten.length := flat_ge hd.ne
      rw [List.length_append, List.length_cons] at this
      omega
    refine whL (fun mm ρ h' => ∃ (st : List Th × List Th) (j : Nat) (o6 o7 o8 o9 : Option D), mm = E.length - j ∧ ρ = [some (.ref n), some (.ref k), some (.ref h.length), some (.ref (h.length + 1)), some (.ref (h.length + (G.length + 1 + 1))), some (.int (j : Int)), o6, o7, o8, o9] ∧ h' = Ap h (A :: .lst (st.2.map thD) :: (G ++ [.lst (st.1.map thD)])) ∧ HeapI E ps dn st j) ⟨([x], left), 0, _, _, _, _, rfl, rfl, rfl, .begin pm hd⟩ ?_
    rintro mm ρ h' F2 ⟨st, j, o6, o7, o8, o9, rfl, rfl, rfl, I⟩ hF2
    have sl : st.1.length + st.2.length ≤ E.length := by
      have := I.pm.length_eq
      rw [List.length_append, List.length_append] at this
      omega
    try simp only [↓tV_q, ↓tO_q, ↓tT_q, ↓tN3_q, ↓tC3_q, ↓tB3_q, ↓ltR_ii_q, ↓lenR_rq, ↓Ap_getk, onO_some, onB_bl, onC_q, List.getElem?_cons_zero, List.getElem?_cons_succ, get_new]
    refine ifC_of (fun hc => ?_) (fun hc => ?_)
    · have hj : j < st.1.length := by simpa using hc
      obtain ⟨c, hcj⟩ : ∃ c, st.1[j]? = some c := ⟨_, List.getElem?_eq_getElem hj⟩
      try simp only [↓tV_q, ↓cSeq_q, ↓cFor_q, ↓iSeq_q, ↓iSeqD_rq, onO_some, onC_q, List.getElem?_cons_zero, List.getElem?_cons_succ, b_lheaps_2, e2]
      refine forL (f := thpD) (fun l ρ h' => ∃ (o6 o7 o8 o9 : Option D), ρ = [some (.ref n), some (.ref k), some (.ref h.length), some (.ref (h.length + 1)), some (.ref (h.length + (G.length + 1 + 1))), some (.int (j : Int)), o6, o7, o8, o9] ∧ h' = Ap h (A :: .lst ((sweep c l st).2.map thD) :: (G ++ [.lst ((sweep c l st).1.map thD)]))) ⟨_, _, _, _, rfl, rfl⟩ ?_ ?_ ?_
      · rintro l ρ h' ⟨o6, o7, o8, o9, rfl, rfl⟩
        exact e2 _
      · rintro ρ h' ⟨o6, o7, o8, o9, rfl, rfl⟩
        try simp only [↓tV_q, ↓tK_q, ↓tO_q, ↓cAsg_q, ↓gN_q, ↓addR_ii_q, thenE_nx, loopE_nx, onO_some, List.getElem?_cons_zero, List.getElem?_cons_succ, List.set_cons_zero, List.set_cons_succ]
        have I2 := I.step nd' hcj
        refine hF2 _ _ _ (by have := I2.le; omega) ⟨sweep c ps st, j + 1, _, _, _, _, rfl, rfl, rfl, I2⟩
      · rintro l p r ρ h' F3' e ⟨o6, o7, o8, o9, rfl, rfl⟩ hF3
        try simp only [↓tV_q, ↓tN3_q, ↓tC3_q, ↓tTup3_q, ↓gN_q, ↓gNil3_q, ↓gCons3_q, ↓gTup3_q, ↓cFor_q, ↓iSeq_q, ↓iSeqD_tq, onO_some, List.getElem?_cons_zero, List.getElem?_cons_succ, List.set_cons_zero, List.set_cons_succ, List.length_cons, List.length_nil, Nat.reduceAdd, true_and, b_lheaps_3, thpD]
        refine forL (f := thpD) (xs := [(p.1, p.2), (p.2, p.1)]) (fun l2 ρ h' => ∃ (o8 o9 : Option D), ρ = [some (.ref n), some (.ref k), some (.ref h.length), some (.ref (h.length + 1)), some (.ref (h.length + (G.length + 1 + 1))), some (.int (j : Int)), some (thD p.1), some (thD p.2), o8, o9] ∧ h' = Ap h (A :: .lst ((l2.foldl (fun st q => vis c q st) (sweep c l st)).2.map thD) :: (G ++ [.lst ((l2.foldl (fun st q => vis c q st) (sweep c l st)).1.map thD)]))) ⟨_, _, rfl, rfl⟩ (fun _ _ _ _ => trivial) ?_ ?_
        · rintro ρ h' ⟨o8, o9, rfl, rfl⟩
          refine hF3 _ _ ⟨_, _, _, _, rfl, ?_⟩
          have : sweep c (l ++ [p]) st = [(p.1, p.2), (p.2, p.1)].foldl (fun st q => vis c q st) (sweep c l st) := by
            unfold sweep
            rw [List.foldl_append]; rfl
          rw [this]
        · rintro l2 q2 r2 ρ h' F4 e4 ⟨o8, o9, rfl, rfl⟩ hF4
          have W0 : WalkI ps st (sweep c l st) := (sweep_spec l st (fun q hq => by rw [e]; exact List.mem_append_left _ hq) (nd_r (I.pm.nodup_iff.mpr nd'))).1
          have W1 : ∀ (l2 : List (Th × Th)) (s : List Th × List Th), WalkI ps s (l2.foldl (fun st q => vis c q st) s) := by
            intro l2
            induction l2 with
            | nil => intro s; exact .refl
            | cons a r ih => intro s; exact vis_I.trans (ih _)
          have W := W0.trans (W1 l2 (sweep c l st))
          have hst : l2.foldl (fun st q => vis c q st) (sweep c l st) = l2.foldl (fun st q => vis c q st) (sweep c l st) := rfl
          have hF4' : ∀ (o8 o9 : Option D), F4 [some (.ref n), some (.ref k), some (.ref h.length), some (.ref (h.length + 1)), some (.ref (h.length + (G.length + 1 + 1))), some (.int (j : Int)), some (thD p.1), some (thD p.2), o8, o9] (Ap h (A :: .lst ((vis c q2 (l2.foldl (fun st q => vis c q st) (sweep c l st))).2.map thD) :: (G ++ [.lst ((vis c q2 (l2.foldl (fun st q => vis c q st) (sweep c l st))).1.map thD)]))) := fun o8 o9 => hF4 _ _ ⟨o8, o9, rfl, by rw [List.foldl_append]; rfl⟩
          clear hF4
          generalize l2.foldl (fun st q => vis c q st) (sweep c l st) = s at W hF4' ⊢
          clear hst
          obtain ⟨tl, et⟩ := W.pre
          have ec : s.1[j]? = some c := by rw [← et, List.getElem?_append_left hj]; exact hcj
          have ls := W.pm.length_eq
          simp only [List.length_append] at ls
          try simp only [↓tV_q, ↓tO_q, ↓tT_q, ↓tAnd3_q, ↓cIf_q, ↓gN_q, ↓gNil3_q, ↓gCons3_q, ↓gTup3_q, ↓ixR_rq, ↓Ap_getk, onO_some, onC_q, List.getElem?_cons_zero, List.getElem?_cons_succ, List.set_cons_zero, List.set_cons_succ, List.length_cons, List.length_nil, Nat.reduceAdd, true_and, b_lheaps_4, thpD, get_new]
          refine at_th ec ?_
          rw [eqR_th]
          try simp only [onB_bl]
          refine ifC_of (fun h1 => ?_) (fun h1 => ?_)
          · have h1 : q2.1 = c := by simpa using h1
            try simp only [↓tV_q, ↓tO_q, ↓tT_q, onO_some, List.getElem?_cons_zero, List.getElem?_cons_succ]
            rw [inRD_th (H := s.2) (by rw [Ap_getk]; rfl)]
            try simp only [onB_bl]
            cases hb : isIn q2.2 s.2 with
            | true =>
              have hm := isIn_iff.mp hb
              obtain ⟨i, i1, i2⟩ := place_th hm
              have ev : vis c q2 s = (s.1 ++ [q2.2], ers s.2 q2.2) := by unfold vis; rw [if_pos ⟨h1, hm⟩]
              rw [ev] at hF4'
              try simp only [↓tV_q, ↓tN3_q, ↓tC3_q, ↓cSeq_q, ↓cDrop_q, ↓tLM_q, ↓lmD_q, ↓Ap_getk, ↓Ap_setk, thenE_nx, onO_some, ifC_true, onC_q, List.getElem?_cons_zero, List.getElem?_cons_succ, List.set_cons_zero, List.set_cons_succ]
              refine remT_of (toP_ths (k := 6) _) (toP_th (k := 7) _) i1 ?_
              rw [i2]
              try simp only [↓tV_q, ↓tN3_q, ↓tC3_q, ↓appT_q, ↓Ap_getk, ↓Ap_setk, loopE_nx, onO_some, onC_q, List.getElem?_cons_zero, List.getElem?_cons_succ, List.set_cons_succ, get_new, set_last]
              refine ⟨by rw [List.length_map]; omega, ?_⟩
              have := hF4' (some (thD q2.1)) (some (thD q2.2))
              simp only [List.map_append, List.map_cons, List.map_nil] at this
              exact this
            | false =>
              have hm : ¬ q2.2 ∈ s.2 := fun h => by rw [isIn_iff.mpr h] at hb; cases hb
              have ev : vis c q2 s = s := by unfold vis; rw [if_neg fun h => hm h.2]
              rw [ev] at hF4'
              try simp only [↓cNext_q, loopE_nx, ifC_false]
              exact hF4' _ _
          · have h1 : ¬ q2.1 = c := by simpa using h1
            have ev : vis c q2 s = s := by unfold vis; rw [if_neg fun h => h1 h.1]
            rw [ev] at hF4'
            try simp only [↓cNext_q, loopE_nx, ifC_false]
            exact hF4' _ _
    · have hj : j = st.1.length := by
        have := I.le
        have : ¬ j < st.1.length := by simpa using hc
        omega
      have D2 := I.close nd' hp' hj
      subst hA
      try simp only [↓tV_q, ↓tN3_q, ↓tC3_q, ↓cDrop_q, ↓tLM_q, ↓lmD_q, ↓appT_q, ↓Ap_get0, ↓Ap_set0, thenE_nx, loopE_nx, onO_some, onC_q, List.getElem?_cons_zero, List.getElem?_cons_succ, List.set_cons_zero]
      have pl := pm.length_eq
      have il := I.pm.length_eq
      rw [List.length_append, List.length_cons] at pl
      rw [List.length_append, List.length_append] at il
      have s0 : 0 < st.1.length := List.length_pos_iff.mpr I.ne
      refine ⟨?_, hF _ _ _ ?_ ⟨dn ++ [st.1], st.2, _, _, _, _, _, _, rfl, rfl, ?_, D2, ?_⟩⟩
      · rw [List.length_map, show (numZ (h.length + 2) dn).length = dn.length by rw [← List.length_map (f := Prod.snd), numZ_snd]]
        omega
      · rw [List.length_cons]; omega
      · subst hG
        rw [numZ_snoc, List.map_append, List.map_append, List.length_map, show h.length + (dn.length + 1 + 1) = h.length + 2 + dn.length by omega]; rfl
      · rw [List.flatten_append, List.flatten_cons, List.flatten_nil, List.append_nil, List.append_assoc]
        exact I.pm
end F3
set_option maxHeartbeats 1000000
/-! SV: for v in d.values(), d a dict that nobody else holds (it is shut, and stays so). -/
namespace F3
open PySem PySem.Spec PyProof.Rows L2
def iValsL (td : TE) : TI := fun σ H R => td σ H fun x H1 => ∃ d kvs, x = .ref d ∧ H1 d = some (.dK kvs) ∧ ∀ od, R (Itd d od kvs) (upd H1 d (.frz od (.dK kvs)))
section
variable {X : Cx} {tg e : Expr} {td : TE} {apos cpos : Pos}
theorem pi_valsL (he : PE X e td) (hbase : attributeBase e "values" X.env (eval e X.env) = eval e X.env := by rfl) (hline : (apos.endLine == cpos.line) = true := by rfl) : PI X tg (.Call (.Attribute e "values" apos) [] [] cpos) (iValsL td) := by
  refine ⟨fun pins s σ H R I h => ?_⟩
  refine wpAny_Call_method (T := "dict") (id := "dict.values") hbase rfl hline F.plainAttrs_dict F.slot_dict_values F.type_dict_values (thn (he.run pins s σ H _ I h) fun u s1 ⟨x, H0, I0, rx, d, kvs, ex, hd0, q0⟩ => ?_)
  subst ex
  obtain rfl : u = Value.ref d := rx
  obtain ⟨o, I1⟩ := I0.lock hd0 trivial
  have q := q0 o
  have hd : upd H0 d (.frz o (.dK kvs)) d = some (.frz o (.dK kvs)) := upd_same
  generalize upd H0 d (.frz o (.dK kvs)) = H1 at I1 q hd
  obtain ⟨hs, hgd, hx, es, ep, vs, hdt, hsz, kv, hm⟩ := I1.frzK hd
  have hl : kvs.length = vs.length := Paired.length kv
  refine ⟨hm.dictOf.typeIs, hm.dictOf.mapOf.noDict, ?_⟩
  have I2 : Inv X pins σ H1 { s1 with heap := s1.heap.push { cls := .type "dict_values", data := .fields #[.ref d] } } := I1.kept (t' := s1.toks) fun b ob q => Heap.get?_push_of_some _ q
  have fin : wpAny (model X.prog X.w) X.A (pyIter (.ref s1.heap.objs.size)) (PIE X pins σ tg R) X.xe { s1 with heap := s1.heap.push { cls := .type "dict_values", data := .fields #[.ref d] } } := by
    refine wpAny_pyIter_values (d := d) (knd := mixKind X.prog X.w) ⟨_, Heap.get?_push_size _ rfl, rfl, rfl⟩ (hm.push _) (pi_one (tk := s1.toks) I2 _ (turn_vals _ hdt) ⟨_, Heap.get?_push_size _ rfl, rfl, ?_⟩ q)
    rw [hl] <;> rfl
  show wpAny _ _ (callWith cpos (.builtin "dict.values") [.ref d] [] []) _ X.xe s1
  exact method_meetsIn F.slot_dict_values F.entry_dict_values rfl (PySem.evalArgs_none ⟨rfl, hm.dictOf.typeIs, F.args_dict_values_1 _, _, meets_dict_values (mixKind X.prog X.w) d hs, ⟨vs, hm.dictOf⟩, fin⟩)
end
def iVals3 (t : E3) : I3 := fun ρ h Q => t ρ h fun x h1 => match x with
  | .ref n => match h1[n]? with
    | some (.dK kvs) => ∀ o ws, Q (kvs.map Prod.snd) (fun h' => h'[n]? = some (.zK o ws kvs)) (h1.set n (.zK o ws kvs))
    | _ => False
  | _ => False
theorem serves_vals {K : PySem.W.Frag} {m : List Addr} {H : Hp} {n : Nat} {a : Addr} {o : Obj} {ws : List (Key × V)} {kvs : List (Key × D)} (em : m[n]? = some a) :
    Serves K (Itd a o ws) (kvs.map Prod.snd) (fun h' => h'[n]? = some (.zK o ws kvs)) m H := by
  refine ⟨fun m1 H1 h1 s1 R1 st i x hx => ?_, fun m1 H1 h1 s1 R1 st i hi => ?_⟩
  · obtain ⟨q, k1, r⟩ := R1.at_ n a _ (s1.get em) st
    rw [List.getElem?_map] at hx
    obtain ⟨p, ep, rfl⟩ := Option.map_eq_some_iff.mp hx
    have hl : ws.length = kvs.length := by simpa using congrArg List.length k1
    have hi : i < kvs.length := (List.getElem?_eq_some_iff.mp ep).1
    refine ⟨⟨q, by omega⟩, fun v' H' ⟨e, k, e1⟩ => ?_⟩
    subst e
    refine ⟨.refl, R1, ?_⟩
    obtain ⟨w, ew, rw'⟩ := r.get (show (kvs.map Prod.snd)[i]? = some p.2 by rw [List.getElem?_map, ep]; rfl)
    rw [List.getElem?_map, e1] at ew
    injection ew with ew
    rw [show v' = w from ew]
    exact rw'
  · obtain ⟨q, k1, r⟩ := R1.at_ n a _ (s1.get em) st
    have hl : ws.length = kvs.length := by simpa using congrArg List.length k1
    rw [List.length_map] at hi
    exact ⟨q, by omega⟩
section
variable {X : Cx}
theorem i3_vals {tg l : Expr} {t : E3} {apos cpos : Pos} (hl : PE3 X l t) (hbase : attributeBase l "values" X.env (eval l X.env) = eval l X.env := by rfl) (hline : (apos.endLine == cpos.line) = true := by rfl) : PI3 X tg (.Call (.Attribute l "values" apos) [] [] cpos) (iVals3 t) := by
  refine ⟨PI.weak (pi_valsL hl.pe hbase hline) fun σ H Q ⟨m, h, ρ, R, S, q⟩ => ?_, fun ρ h Q Q' w q => hl.mono _ _ _ _ (fun x h1 q1 => ?_) q⟩
  · refine LE.bind hl.mono R S q fun m1 H1 v x h1 s1 R1 rx S1 q1 => ?_
    split at q1
    next n =>
      cases rx with
      | @ref _ a em =>
        have hm : a ∈ m1 := List.mem_of_getElem? em
        split at q1
        next kvs e =>
          obtain ⟨ws, ea, k1, r⟩ := R1.at_ _ _ _ em e
          refine ⟨a, ws, rfl, ea, fun od => ?_⟩
          have sp := Step.put (m := m1) (H := H1) (o := .frz od (.dK ws)) hm
          exact q1 od ws m1 _ _ (s1.trans sp) (R1.put em ⟨upd_same, k1, r.step R1 sp⟩) (serves_vals em)
        next => exact q1.elim
    next => exact q1.elim
  · split at q1
    · split at q1
      · exact fun o ws => w _ _ _ (q1 o ws)
      · exact q1.elim
    · exact q1.elim
end
end F3
set_option maxHeartbeats 400000
/-! SH: the sides of a sheet, by ties (a dict of lists). -/
namespace F3
open PySem PySem.Spec PyProof.Rows L2
def ab (s : Int) : Int := if s < 0 then -s else s
/-- tie, cell, sides with the numbers of their triangles -/
abbrev Ent := Int × Nat × List (Nat × Int)
def entK (e : Ent) : Key × D := (Sum.inl e.1, .ref e.2.1)
def sdD (x : Nat × Int) : D := .tup [.int x.1, .int x.2]
/-- the sides in order, each with the number of its triangle -/
def numT (sh : List Tri) : List (Nat × Tri) := sh.mapIdx fun i t => (i, t)
def trS (p : Nat × Tri) : List (Nat × Int) := [p.2.1, p.2.2.1, p.2.2.2].map fun s => (p.1, s)
def allS (sh : List Tri) : List (Nat × Int) := (numT sh).flatMap trS
def numD (p : Nat × Tri) : D := .tup [.int (p.1 : Int), triD p.2]
theorem numT_D {sh : List Tri} : ((sh.map triD).mapIdx fun i x => D.tup [.int (i : Int), x]) = (numT sh).map numD := by
  apply List.ext_getElem?
  intro i
  unfold numT
  simp only [List.getElem?_mapIdx, List.getElem?_map, Option.map_map]
  cases sh[i]? <;> rfl
theorem numT_len {sh : List Tri} : (numT sh).length = sh.length := by simp [numT]
structure EntI (L : List (Nat × Int)) (es : List Ent) : Prop where
  kn : (es.map fun e => e.1).Nodup
  cn : (es.map fun e => e.2.1).Nodup
  ls : ∀ e ∈ es, e.2.2 = L.filter fun x => decide (ab x.2 = e.1)
  al : ∀ x ∈ L, ∃ e ∈ es, e.1 = ab x.2
  ln : es.length ≤ L.length
  oc : ∀ e ∈ es, ∃ x ∈ L, ab x.2 = e.1
theorem EntI.nil : EntI [] [] := ⟨List.nodup_nil, List.nodup_nil, by simp, by simp, Nat.le_refl _, by simp⟩
theorem EntI.new {L : List (Nat × Int)} {es : List Ent} {c : Nat} {x : Nat × Int} (I : EntI L es) (hn : ∀ e ∈ es, e.1 ≠ ab x.2) (hc : ∀ e ∈ es, e.2.1 ≠ c) : EntI (L ++ [x]) (es ++ [(ab x.2, c, [x])]) where
  kn := by
    rw [List.map_append, List.nodup_append]
    refine ⟨I.kn, by simp, fun a ha b hb => ?_⟩
    obtain ⟨e, he, rfl⟩ := List.mem_map.mp ha
    rw [show b = ab x.2 by simpa using hb]
    exact hn e he
  cn := by
    rw [List.map_append, List.nodup_append]
    refine ⟨I.cn, by simp, fun a ha b hb => ?_⟩
    obtain ⟨e, he, rfl⟩ := List.mem_map.mp ha
    rw [show b = c by simpa using hb]
    exact hc e he
  ls := by
    intro e he
    rw [List.filter_append]
    rcases List.mem_append.mp he with he | he
    · have : ¬ ab x.2 = e.1 := fun h => hn e he h.symm
      rw [I.ls e he]
      simp [this]
    · rw [List.mem_singleton.mp he]
      have : L.filter (fun y => decide (ab y.2 = ab x.2)) = [] := by
        rw [List.filter_eq_nil_iff]
        intro y hy h
        obtain ⟨e, he, e1⟩ := I.al y hy
        exact hn e he (e1.trans (of_decide_eq_true h))
      rw [this]
      simp
  al := by
    intro y hy
    rcases List.mem_append.mp hy with hy | hy
    · obtain ⟨e, he, e1⟩ := I.al y hy
      exact ⟨e, List.mem_append_left _ he, e1⟩
    · rw [List.mem_singleton.mp hy]
      exact ⟨_, List.mem_append_right _ List.mem_cons_self, rfl⟩
  ln := by rw [List.length_append, List.length_append]; exact Nat.add_le_add_right I.ln 1
  oc := by
    intro e he
    rcases List.mem_append.mp he with he | he
    · obtain ⟨y, hy, e1⟩ := I.oc e he
      exact ⟨y, List.mem_append_left _ hy, e1⟩
    · rw [List.mem_singleton.mp he]
      exact ⟨x, List.mem_append_right _ List.mem_cons_self, rfl⟩
/-- a side more of a tie that is known -/
def addS (k : Int) (x : Nat × Int) (e : Ent) : Ent := if e.1 = k then (e.1, e.2.1, e.2.2 ++ [x]) else e
theorem addS_1 {k : Int} {x : Nat × Int} {e : Ent} : (addS k x e).1 = e.1 := by unfold addS; split <;> rfl
theorem addS_2 {k : Int} {x : Nat × Int} {e : Ent} : (addS k x e).2.1 = e.2.1 := by unfold addS; split <;> rfl
theorem EntI.old {L : List (Nat × Int)} {es : List Ent} {x : Nat × Int} (I : EntI L es) (hk : ∃ e ∈ es, e.1 = ab x.2) : EntI (L ++ [x]) (es.map (addS (ab x.2) x)) where
  kn := by
    rw [List.map_map, show (fun e : Ent => e.1) ∘ addS (ab x.2) x = fun e => e.1 from funext fun e => addS_1]
    exact I.kn
  cn := by
    rw [List.map_map, show (fun e : Ent => e.2.1) ∘ addS (ab x.2) x = fun e => e.2.1 from funext fun e => addS_2]
    exact I.cn
  ls := by
    intro e he
    obtain ⟨e, he', rfl⟩ := List.mem_map.mp he
    rw [addS_1, List.filter_append, ← I.ls e he']
    unfold addS
    by_cases h : e.1 = ab x.2
    · simp [h]
    · have : ¬ ab x.2 = e.1 := fun z => h z.symm
      simp [h, this]
  al := by
    intro y hy
    rcases List.mem_append.mp hy with hy | hy
    · obtain ⟨e, he, e1⟩ := I.al y hy
      exact ⟨_, List.mem_map.mpr ⟨e, he, rfl⟩, addS_1.trans e1⟩
    · rw [List.mem_singleton.mp hy]
      obtain ⟨e, he, e1⟩ := hk
      exact ⟨_, List.mem_map.mpr ⟨e, he, rfl⟩, addS_1.trans e1⟩
  ln := by rw [List.length_map, List.length_append]; have := I.ln; omega
  oc := by
    intro e he
    obtain ⟨e, he', rfl⟩ := List.mem_map.mp he
    obtain ⟨y, hy, e1⟩ := I.oc e he'
    exact ⟨y, List.mem_append_left _ hy, e1.trans addS_1.symm⟩
theorem val_ent {k : Int} : ∀ {es : List Ent}, valD (es.map entK) (.inl k) = (es.find? fun e => decide (e.1 = k)).map fun e => .ref e.2.1
  | [] => rfl
  | e :: es => by
    have ih := val_ent (k := k) (es := es)
    unfold valD at ih ⊢
    rw [List.map_cons, List.find?_cons, List.find?_cons]
    by_cases h : e.1 = k
    · simp [entK, h]
    · have : ¬ (entK e).1 = .inl k := fun z => h (by injection z)
      simp only [h, this, decide_false]
      exact ih
theorem put_ent {k : Int} {c : Nat} {es : List Ent} (h : ∀ e ∈ es, e.1 ≠ k) : putD (es.map entK) (.inl k) (.ref c) = (es ++ [(k, c, [])]).map entK := by
  unfold putD
  rw [if_neg]
  · rw [List.map_append]; rfl
  · simp only [List.any_map, List.any_eq_true, Function.comp]
    rintro ⟨e, he, h2⟩
    have h2 := of_decide_eq_true h2
    exact h e he (by injection h2)
theorem sDNew_q {ρ : S3} {h : Sto} {Q : DK} : tDNew ρ h Q = Q (.ref h.length) (h ++ [.dK []]) := id rfl
theorem sDSetd_q {td ty tx : E3} {ρ : S3} {h : Sto} {Q : DK} : tDSetd3 td ty tx ρ h Q = td ρ h fun x h1 => isDk x h1 ∧ ty ρ h1 fun y h2 => tx ρ h2 fun z h3 => match x with | .ref n => dsetR n y z h3 Q | _ => False := id rfl
theorem sset_old {n : Nat} {k : Int} {z d : D} {h : Sto} {Q : DK} {kvs : List (Key × D)} (e : h[n]? = some (.dK kvs)) (hl : kvs.length < 16777216) (hv : valD kvs (.inl k) = some d) (q : Q d h) : dsetR n (.int k) z h Q := by
  unfold dsetR
  simp only [e, keyD, hv]
  exact ⟨hl, q⟩
theorem sset_new {n : Nat} {k : Int} {z : D} {h : Sto} {Q : DK} {kvs : List (Key × D)} (e : h[n]? = some (.dK kvs)) (hl : kvs.length < 16777216) (hv : valD kvs (.inl k) = none) (q : Q z (h.set n (.dK (putD kvs (.inl k) z)))) : dsetR n (.int k) z h Q := by
  unfold dsetR
  simp only [e, keyD, hv]
  exact ⟨hl, q⟩
def b_sides_of_2 : C3 :=
  (cDrop (tLM appT (tDSetd3 (tV 1) (tB3 absR (tC3 (tV 4) tN3)) (tNew tN3)) (tC3 (tTup3 (tC3 (tV 2) (tC3 (tV 4) tN3))) tN3)))
def b_sides_of_1 : C3 :=
  (cFor (iSeq (tV 3)) (gN 4) b_sides_of_2)
def t_sides_of : C3 :=
  (cSeq (cAsg tDNew (gN 1))
    (cSeq (cFor (iEnum3 (tC3 (tV 0) tN3)) (gTup3 2 (gCons3 (gN 2) (gCons3 (gN 3) gNil3))) b_sides_of_1)
    (cRet (tV 1))))

def EntC (h : Sto) (G : Sto) (es : List Ent) : Prop := ∀ e ∈ es, ∃ j, e.2.1 = h.length + (j + 1) ∧ G[j]? = some (.lst (e.2.2.map sdD))
def sp_sides_of : Sp3 := spR (fun (a : Nat × List Tri) => [.ref a.1]) (fun a h => h[a.1]? = some (.lst (a.2.map triD)) ∧ a.2.length ≤ 100)
  (fun a h d h' => ∃ G es, d = .ref h.length ∧ h' = Ap h (.dK (es.map entK) :: G) ∧ EntI (allS a.2) es ∧ EntC h G es)
theorem mono_sides_of : MonoS sp_sides_of := mono_spR
theorem len_sides_of : ∀ ds h Q E, sp_sides_of ds h Q E → ds.length = 1 := len_spR fun _ => rfl
theorem trS_len (l : List (Nat × Tri)) : (l.flatMap trS).length = 3 * l.length := by
  induction l with
  | nil => rfl
  | cons a r ih => rw [List.flatMap_cons, List.length_append, ih]; simp [trS]; omega
theorem nd_inj {α β : Type} {f : α → β} : ∀ {l : List α}, (l.map f).Nodup → ∀ {a b : α}, a ∈ l → b ∈ l → f a = f b → a = b
  | x :: l, nd, a, b, ha, hb, e => by
    rw [List.map_cons, List.nodup_cons] at nd
    rcases List.mem_cons.mp ha with rfl | ha2
    · rcases List.mem_cons.mp hb with rfl | hb2
      · rfl
      · exact absurd (List.mem_map.mpr ⟨b, hb2, e.symm⟩) nd.1
    · rcases List.mem_cons.mp hb with rfl | hb2
      · exact absurd (show f b ∈ l.map f from List.mem_map.mpr ⟨a, ha2, e⟩) nd.1
      · exact nd_inj nd.2 ha2 hb2 e
theorem rd_sides_of : ∀ ds h Q E, ClS h.length h → ClDs h.length ds → sp_sides_of ds h Q E → t_sides_of (ends3 (GQ h.length Q)) (start3 5 ds) h := by
  rintro ds h Q E hcl _ ⟨⟨n, sh⟩, rfl, ⟨hn, hl⟩, q⟩
  have hn' : h[n]? = some (.lst (sh.map triD)) := hn
  have hl' : sh.length ≤ 100 := hl
  have q' : ∀ G es, EntI (allS sh) es → EntC h G es → Q (.ref h.length) (Ap h (.dK (es.map entK) :: G)) := fun G es a b => q _ _ ⟨G, es, rfl, rfl, a, b⟩
  clear hn hl q
  have e0 : ∀ g : Sto, (Ap h g)[n]? = some (.lst (sh.map triD)) := fun g => get_up hn'
  conv => arg 3; rw [Ap_mk (h := h)]
  try simp only [↓tV_q, ↓tN3_q, ↓tC3_q, ↓cSeq_q, ↓cAsg_q, ↓gN_q, ↓cFor_q, ↓iEnum3_q, ↓enD_q, ↓start3_q, ↓sDNew_q, ↓Ap_len, ↓Ap_app, thenE_nx, onO_some, onC_q, List.getElem?_cons_zero, List.set_cons_zero, List.set_cons_succ, List.map_cons, List.map_nil, List.cons_append, List.nil_append, List.length_cons, List.length_nil, List.replicate_succ, List.replicate_zero, Nat.reduceAdd, Nat.reduceSub, Nat.add_zero, t_sides_of, e0, numT_D]
  refine forL (f := numD) (fun l ρ h' => ∃ (G : Sto) (es : List Ent) (o2 o3 o4 : Option D), ρ = [some (.ref n), some (.ref h.length), o2, o3, o4] ∧ h' = Ap h (.dK (es.map entK) :: G) ∧ EntI (l.flatMap trS) es ∧ EntC h G es) ⟨[], [], _, _, _, rfl, rfl, .nil, by intro e he; cases he⟩ ?_ ?_ ?_
  · rintro l ρ h' ⟨G, es, o2, o3, o4, rfl, rfl, _, _⟩
    exact e0 _
  · rintro ρ h' ⟨G, es, o2, o3, o4, rfl, rfl, I, C⟩
    try simp only [↓tV_q, ↓cRet_q, thenE_nx, ends3_rt, onO_some, List.getElem?_cons_zero, List.getElem?_cons_succ]
    exact .inl (q' G es I C)
  · rintro l p r ρ h' F e ⟨G, es, o2, o3, o4, rfl, rfl, I, C⟩ hF
    have ll : l.length + 1 ≤ 100 := by
      have := congrArg List.length e
      rw [numT_len, List.length_append, List.length_cons] at this
      omega
    try simp only [↓tV_q, ↓gN_q, ↓gNil3_q, ↓gCons3_q, ↓gTup3_q, ↓cFor_q, ↓iSeq_q, ↓iSeqD_tq, onO_some, List.getElem?_cons_zero, List.getElem?_cons_succ, List.set_cons_zero, List.set_cons_succ, List.length_cons, List.length_nil, Nat.reduceAdd, true_and, b_sides_of_1, numD, triD]
    refine forL (f := fun s => D.int s) (xs := [p.2.1, p.2.2.1, p.2.2.2]) (fun l2 ρ h' => ∃ (G : Sto) (es : List Ent) (o4 : Option D), ρ = [some (.ref n), some (.ref h.length), some (.int (p.1 : Int)), some (.tup [.int p.2.1, .int p.2.2.1, .int p.2.2.2]), o4] ∧ h' = Ap h (.dK (es.map entK) :: G) ∧ EntI (l.flatMap trS ++ l2.map fun s => (p.1, s)) es ∧ EntC h G es) ⟨G, es, _, rfl, rfl, by rw [List.map_nil, List.append_nil]; exact I, C⟩ (fun _ _ _ _ => trivial) ?_ ?_
    · rintro ρ h' ⟨G, es, o4, rfl, rfl, I, C⟩
      refine hF _ _ ⟨G, es, _, _, _, rfl, rfl, ?_, C⟩
      rw [List.flatMap_append, List.flatMap_cons, List.flatMap_nil, List.append_nil]
      exact I
    · rintro l2 s r2 ρ h' F2 e2 ⟨G, es, o4, rfl, rfl, I, C⟩ hF2
      have l2l : l2.length ≤ 3 := by
        have := congrArg List.length e2
        simp at this
        omega
      have el : es.length ≤ 1000 := by
        have := I.ln
        rw [List.length_append, trS_len, List.length_map] at this
        omega
      try simp only [↓tV_q, ↓tN3_q, ↓tC3_q, ↓tNew_q, ↓cDrop_q, ↓gN_q, ↓tB3_q, ↓tLM_q, ↓absR_i_q, ↓sDSetd_q, ↓Ap_len, ↓Ap_app, loopE_nx, onO_some, List.getElem?_cons_zero, List.getElem?_cons_succ, List.set_cons_zero, List.set_cons_succ, List.cons_append, List.length_cons, b_sides_of_2]
      refine ⟨⟨_, _, rfl, by rw [Ap_get0]; rfl⟩, ?_⟩
      have lel : (l.flatMap trS ++ l2.map fun s => (p.1, s)).length ≤ 1000 := by
        rw [List.length_append, trS_len, List.length_map]; omega
      have ej : l.flatMap trS ++ (l2 ++ [s]).map (fun s => (p.1, s)) = (l.flatMap trS ++ l2.map fun s => (p.1, s)) ++ [(p.1, s)] := by rw [List.map_append, List.append_assoc]; rfl
      rw [ej] at hF2
      cases hf : es.find? fun e => decide (e.1 = ab s) with
      | some e =>
        have em := List.mem_of_find?_eq_some hf
        obtain ⟨j, j1, j2⟩ := C e em
        have ek : e.1 = ab s := by simpa using List.find?_some hf
        refine sset_old (kvs := es.map entK) (by rw [Ap_get0]; rfl) (by rw [List.length_map]; omega) (d := .ref e.2.1) (by show valD (es.map entK) (.inl (ab s)) = _; rw [val_ent, hf]; rfl) ?_
        rw [j1]
        have jl : j < G.length := (List.getElem?_eq_some_iff.mp j2).1
        have j3 : (G ++ [Cell.lst []])[j]? = some (.lst (e.2.2.map sdD)) := get_up j2
        try simp only [↓tV_q, ↓tN3_q, ↓tC3_q, ↓tTup3_q, ↓lmD_q, ↓appT_q, ↓Ap_getk, ↓Ap_setk, onO_some, onC_q, List.getElem?_cons_zero, List.getElem?_cons_succ, List.set_cons_succ, j3]
        refine ⟨?_, hF2 _ _ ⟨(G ++ [Cell.lst []]).set j (.lst (e.2.2.map sdD ++ [sdD (p.1, s)])), es.map (addS (ab s) (p.1, s)), _, rfl, ?_, I.old ⟨e, em, ek⟩, ?_⟩⟩
        · rw [List.length_map, I.ls e em]
          have := List.length_filter_le (fun x => decide (ab x.2 = e.1)) (l.flatMap trS ++ l2.map fun s => (p.1, s))
          omega
        · have : (es.map (addS (ab s) (p.1, s))).map entK = es.map entK := by
            rw [List.map_map]
            refine List.map_congr_left fun e _ => ?_
            show entK (addS (ab s) (p.1, s) e) = entK e
            unfold entK
            rw [addS_1, addS_2]
          rw [this]; rfl
        · intro e' he'
          obtain ⟨e3, he3, rfl⟩ := List.mem_map.mp he'
          obtain ⟨i, i1, i2⟩ := C e3 he3
          rw [addS_2]
          refine ⟨i, i1, ?_⟩
          by_cases hk : e3.1 = ab s
          · have : e3 = e := nd_inj I.kn he3 em (hk.trans ek.symm)
            subst this
            have : i = j := by omega
            subst this
            rw [List.getElem?_set_self (by rw [List.length_append]; omega)]
            unfold addS
            rw [if_pos hk, List.map_append]; rfl
          · have : i ≠ j := fun z => hk (by rw [nd_inj I.cn he3 em (by rw [i1, j1, z])]; exact ek)
            rw [List.getElem?_set_ne (fun z => this z.symm), get_up i2]
            unfold addS
            rw [if_neg hk]
      | none =>
        have hn : ∀ e ∈ es, e.1 ≠ ab s := fun e he z => by
          have := List.find?_eq_none.mp hf e he
          exact this (by simpa using z)
        refine sset_new (kvs := es.map entK) (by rw [Ap_get0]; rfl) (by rw [List.length_map]; omega) (by show valD (es.map entK) (.inl (ab s)) = _; rw [val_ent, hf]; rfl) ?_
        rw [show (if s < 0 then -s else s) = ab s from rfl, put_ent hn]
        try simp only [↓tV_q, ↓tN3_q, ↓tC3_q, ↓tTup3_q, ↓lmD_q, ↓appT_q, ↓Ap_getk, ↓Ap_set0, ↓Ap_setk, onO_some, onC_q, List.getElem?_cons_zero, List.getElem?_cons_succ, List.set_cons_zero, List.set_cons_succ, List.nil_append, List.length_nil, Nat.reduceLT, true_and, get_new, set_last]
        refine hF2 _ _ ⟨G ++ [.lst [sdD (p.1, s)]], es ++ [(ab s, h.length + (G.length + 1), [(p.1, s)])], _, rfl, ?_, I.new hn (fun e he z => ?_), ?_⟩
        · rw [List.map_append, List.map_append]; rfl
        · obtain ⟨j, j1, j2⟩ := C e he
          have := (List.getElem?_eq_some_iff.mp j2).1
          omega
        · intro e he
          rcases List.mem_append.mp he with he | he
          · obtain ⟨j, j1, j2⟩ := C e he
            exact ⟨j, j1, get_up j2⟩
          · rw [List.mem_singleton.mp he]
            exact ⟨G.length, rfl, get_new⟩
end F3
set_option maxHeartbeats 400000
/-! SI: two sides of each tie (plain). -/
namespace F3
open PySem PySem.Spec PyProof.Rows L2
theorem allS_snd {sh : List Tri} : (allS sh).map Prod.snd = sidesS sh := by
  unfold allS sidesS
  rw [List.map_flatMap]
  have : (numT sh).map Prod.snd = sh := by
    apply List.ext_getElem?
    intro i
    unfold numT
    simp only [List.getElem?_mapIdx, List.getElem?_map, Option.map_map]
    cases sh[i]? <;> rfl
  rw [show (sh.flatMap fun t => [t.1, t.2.1, t.2.2]) = ((numT sh).map Prod.snd).flatMap fun t => [t.1, t.2.1, t.2.2] by rw [this], List.flatMap_map]
  rfl
theorem tiesL_nd (m : Nat) : (tiesL m).Nodup := by
  unfold tiesL
  rw [List.nodup_iff_pairwise_ne, List.pairwise_map]
  have := List.nodup_range (n := 3 * m)
  rw [List.nodup_iff_pairwise_ne] at this
  exact this.imp fun h e => h (by omega)
theorem count_ties {m k : Nat} (h1 : 1 ≤ k) (h2 : k ≤ 3 * m) : (tiesL m).count k = 1 := by
  have hm : k ∈ tiesL m := List.mem_map.mpr ⟨k - 1, List.mem_range.mpr (by omega), by omega⟩
  exact (tiesL_nd m).count.trans (by rw [if_pos hm])
/-- two sides of each tie -/
theorem two_sides {sh : List Tri} (ok : ShOk sh) {m : Nat} (hm : sh.length = 2 * m) {k : Int} (h1 : 1 ≤ k) (h2 : k ≤ 3 * m) : ((allS sh).filter fun x => decide (ab x.2 = k)).length = 2 := by
  obtain ⟨m', _, _, h3, hp⟩ := ok
  have : m' = m := by omega
  subst this
  have c := hp.count_eq k.toNat
  rw [List.count_append, count_ties (by omega) (by omega)] at c
  rw [← allS_snd, List.map_map, List.count_eq_countP, List.countP_map, List.countP_eq_length_filter] at c
  refine Eq.trans (congrArg List.length (List.filter_congr fun x _ => ?_)) c
  simp only [Function.comp, ab]
  by_cases h : x.2.natAbs = k.toNat
  · have : (if x.2 < 0 then -x.2 else x.2) = k := by split <;> omega
    simp [h, this]
  · have : ¬ (if x.2 < 0 then -x.2 else x.2) = k := by split <;> omega
    simp [h, this]
/-! ### pieces (program) -/
def onDK (o : Option Cell) (q : List (Key × D) → Prop) (_ : Tag q := ⟨⟩) : Prop := match o with
  | some (.dK kvs) => q kvs
  | _ => False
theorem onDK_q {kvs : List (Key × D)} {q : List (Key × D) → Prop} : onDK (some (.dK kvs)) q = q kvs := id rfl
def onRf (d : D) (q : Nat → Prop) (_ : Tag q := ⟨⟩) : Prop := match d with
  | .ref n => q n
  | _ => False
theorem onRf_q {n : Nat} {q : Nat → Prop} : onRf (.ref n) q = q n := id rfl
theorem iVals3_q {t : E3} {ρ : S3} {h : Sto} {Q : List D → (Sto → Prop) → Sto → Prop} : iVals3 t ρ h Q = t ρ h fun x h1 => onRf x fun n => onDK h1[n]? fun kvs => ∀ o ws, Q (kvs.map Prod.snd) (fun h' => h'[n]? = some (.zK o ws kvs)) (h1.set n (.zK o ws kvs)) := by
  show (t ρ h fun x h1 => _) = _
  congr 1
theorem sides_of_q {h : Sto} {n : Nat} {sh : List Tri} {Q : DK} (hn : h[n]? = some (.lst (sh.map triD))) (hl : sh.length ≤ 100) (q : ∀ G es, EntI (allS sh) es → EntC h G es → Q (.ref h.length) (Ap h (.dK (es.map entK) :: G))) : callS sp_sides_of [.ref n] h Q :=
  ⟨(n, sh), rfl, ⟨hn, hl⟩, by rintro _ _ ⟨G, es, rfl, rfl, a, b⟩; exact q G es a b⟩
def e_sheet_pieces_1 : E3 :=
  (tNew (tC3 (tV 4) tN3))
def b_sheet_pieces_1 : C3 :=
  (cAsg (tCall3 sp_united (tC3 (tV 1) (tC3 (tO ixR (tV 2) (tK (.int 0))) (tC3 (tO ixR (tV 3) (tK (.int 0))) tN3)))) (gN 1))
def e_sheet_pieces_2 : E3 :=
  (tNew (tL3 (onLM srtG) (tC3 (tV 5) tN3)))
def t_sheet_pieces : C3 :=
  (cSeq (cAsg (tNew (tLc3 (iRng (tC3 (tB3 lenR (tC3 (tV 0) tN3)) tN3)) (gN 4) bYes e_sheet_pieces_1 [4])) (gN 1))
    (cSeq (cFor (iVals3 (tCall3 sp_sides_of (tC3 (tV 0) tN3))) (gLst3 2 (gCons3 (gN 2) (gCons3 (gN 3) gNil3))) b_sheet_pieces_1)
    (cRet (tNew (tL3 srtG (tLc3 (iSeq (tV 1)) (gN 5) bYes e_sheet_pieces_2 [5]))))))

end F3
set_option maxHeartbeats 400000
/-! SJ: pieces (program). -/
namespace F3
open PySem PySem.Spec PyProof.Rows L2
def entPr (e : Ent) : Th × Th := match e.2.2 with
  | a :: b :: _ => (.inl a.1, .inl b.1)
  | _ => (.inl 0, .inl 0)
def piE (n : Nat) : List Th := (List.range n).map fun (i : Nat) => Sum.inl (i : Int)
theorem piE_len {n : Nat} : (piE n).length = n := by simp [piE]
theorem piE_kd {n : Nat} : ∀ x ∈ piE n, kd x = false := fun x hx => by obtain ⟨i, _, rfl⟩ := List.mem_map.mp hx; rfl
theorem piE_nd {n : Nat} : (piE n).Nodup := by
  unfold piE
  rw [List.nodup_iff_pairwise_ne, List.pairwise_map]
  have := List.nodup_range (n := n)
  rw [List.nodup_iff_pairwise_ne] at this
  exact this.imp fun h e => h (by injection e with e; omega)
theorem allS_lt {sh : List Tri} {x : Nat × Int} (hx : x ∈ allS sh) : x.1 < sh.length := by
  obtain ⟨p, hp, hx⟩ := List.mem_flatMap.mp hx
  obtain ⟨s, _, rfl⟩ := List.mem_map.mp hx
  obtain ⟨i, hi, e⟩ := List.getElem_of_mem hp
  simp only [numT, List.getElem_mapIdx] at e
  rw [numT_len] at hi
  rw [← e]
  exact hi
def sp_sheet_pieces : Sp3 := spR (fun (a : Nat × List Tri) => [.ref a.1]) (fun a h => h[a.1]? = some (.lst (a.2.map triD)) ∧ ShOk a.2)
  (fun a h d h' => ∃ g n zs hs es, d = .ref n ∧ h' = h ++ g ∧ HsZ h' n zs ∧ OwnZ h n zs ∧ EntI (allS a.2) es ∧ Part (piE a.2.length) (es.map entPr) hs ∧ zs.map Prod.snd = sortHH hs)
theorem mono_sheet_pieces : MonoS sp_sheet_pieces := mono_spR
theorem len_sheet_pieces : ∀ ds h Q E, sp_sheet_pieces ds h Q E → ds.length = 1 := len_spR fun _ => rfl
theorem rd_sheet_pieces : ∀ ds h Q E, ClS h.length h → ClDs h.length ds → sp_sheet_pieces ds h Q E → t_sheet_pieces (ends3 (GQ h.length Q)) (start3 6 ds) h := by
  rintro ds h Q E hcl _ ⟨⟨n, sh⟩, rfl, ⟨hn, ok⟩, q⟩
  have hn' : h[n]? = some (.lst (sh.map triD)) := hn
  have ok' : ShOk sh := ok
  clear hn ok
  obtain ⟨m, m1, m6, hm, em⟩ := ok'.half
  have e0 : ∀ g : Sto, (Ap h g)[n]? = some (.lst (sh.map triD)) := fun g => get_up hn'
  conv => arg 3; rw [Ap_mk (h := h)]
  try simp only [↓tV_q, ↓tN3_q, ↓tC3_q, ↓tNew_q, ↓cSeq_q, ↓cAsg_q, ↓iRng_q, ↓rngD_1q, ↓tLc3_q, ↓tB3_q, ↓start3_q, ↓lenR_rq, onO_some, onC_q, wipe3_nil, wipe3_cons, List.getElem?_cons_zero, List.set_cons_zero, List.set_cons_succ, List.map_cons, List.map_nil, List.cons_append, List.nil_append, List.length_cons, List.length_nil, List.replicate_succ, List.replicate_zero, Nat.reduceAdd, Nat.reduceSub, t_sheet_pieces, e0, List.length_map]
  refine ⟨⟨by omega, by omega⟩, by simp; omega, ?_⟩
  rw [Int.toNat_natCast]
  refine lcL (f := fun (k : Nat) => D.int (k : Int)) (fun l acc h' => acc = (numZ h.length (l.map fun (i : Nat) => [(Sum.inl (i : Int) : Th)])).map refD ∧ h' = Ap h (l.map fun (i : Nat) => .lst [.int (i : Int)])) ⟨rfl, rfl⟩ (fun _ _ _ _ => trivial) ?_ ?_
  · rintro _ _ ⟨rfl, rfl⟩
    try simp only [↓tV_q, ↓tN3_q, ↓tC3_q, ↓cSeq_q, ↓gN_q, ↓cFor_q, ↓tCall3_q, ↓start3_q, ↓iVals3_q, ↓Ap_len, ↓Ap_app, thenE_nx, onO_some, List.getElem?_cons_zero, List.set_cons_zero, List.set_cons_succ, List.map_cons, List.map_nil, List.cons_append, List.nil_append, List.length_cons, List.length_nil, List.replicate_succ, List.replicate_zero, Nat.reduceAdd, Nat.reduceSub]
    refine sides_of_q (e0 _) (by omega) fun G es I C => ?_
    try simp only [↓onDK_q, ↓onRf_q, ↓Ap_len, ↓Ap_get0, ↓Ap_set0, List.getElem?_cons_zero, List.set_cons_zero]
    intro o ws
    generalize hG0 : (List.range sh.length).map (fun (i : Nat) => Cell.lst [.int (i : Int)]) ++ [.lst ((numZ h.length ((List.range sh.length).map fun (i : Nat) => [(Sum.inl (i : Int) : Th)])).map refD)] = G0 at C ⊢
    rw [show Ap (Ap h G0) (Cell.zK o ws (es.map entK) :: G) = Ap h (G0 ++ .zK o ws (es.map entK) :: G) from Ap_app, List.map_map, show (Prod.snd ∘ entK) = fun (e : Ent) => D.ref e.2.1 from rfl]
    have zc : ∀ g, (Ap h (G0 ++ .zK o ws (es.map entK) :: G ++ g))[h.length + G0.length]? = some (.zK o ws (es.map entK)) := fun g => by
      rw [Ap_getk, List.append_assoc, List.getElem?_append_right (Nat.le_refl _), Nat.sub_self]; rfl
    have ec : ∀ e ∈ es, ∀ g, (Ap h (G0 ++ .zK o ws (es.map entK) :: G ++ g))[e.2.1]? = some (.lst (e.2.2.map sdD)) := fun e he g => by
      obtain ⟨j, j1, j2⟩ := C e he
      have jl := (List.getElem?_eq_some_iff.mp j2).1
      rw [j1, Ap_len, show h.length + G0.length + (j + 1) = h.length + (G0.length + (j + 1)) by omega, Ap_getk, List.append_assoc, get_app, List.cons_append, List.getElem?_cons_succ]
      exact get_up j2
    have two : ∀ e ∈ es, ∃ a b, e.2.2 = [a, b] := fun e he => by
      obtain ⟨x, hx, ex⟩ := I.oc e he
      have hs : x.2 ∈ sidesS sh := by rw [← allS_snd]; exact List.mem_map.mpr ⟨x, hx, rfl⟩
      obtain ⟨s1, s2⟩ := ok'.side hm _ hs
      have hk : 1 ≤ e.1 ∧ e.1 ≤ 3 * m := by rw [← ex]; unfold ab; constructor <;> split <;> omega
      have := two_sides ok' hm hk.1 hk.2
      rw [← I.ls e he] at this
      match e.2.2, this with
      | [a, b], _ => exact ⟨a, b, rfl⟩
    refine forL (f := fun (e : Ent) => D.ref e.2.1) (fun l ρ h' => ∃ (g : Sto) (k : Nat) (ws' : Zs) (o2 o3 : Option D), ρ = [some (.ref n), some (.ref k), o2, o3, none, none] ∧ h' = Ap h (G0 ++ .zK o ws (es.map entK) :: G ++ g) ∧ HsZ (Ap h (G0 ++ .zK o ws (es.map entK) :: G ++ g)) k ws' ∧ Part (piE sh.length) (l.map entPr) (ws'.map Prod.snd)) ?_ ?_ ?_ ?_
    · refine ⟨[], _, numZ h.length ((List.range sh.length).map fun (i : Nat) => [(Sum.inl (i : Int) : Th)]), none, none, rfl, by rw [List.append_nil], ⟨?_, fun z hz => ?_⟩, ?_⟩
      · rw [List.append_nil, ← hG0, Ap_getk, List.append_assoc, List.getElem?_append_right (Nat.le_refl _), Nat.sub_self]; rfl
      · obtain ⟨h1, h2, h3⟩ := numZ_lo z hz
        rw [List.length_map, List.length_range] at h2
        rw [List.append_nil, ← hG0, show z.1 = h.length + (z.1 - h.length) by omega, Ap_getk, List.append_assoc, List.getElem?_append_left (by rw [List.length_map, List.length_range]; omega)]
        rw [List.getElem?_map] at h3 ⊢
        cases e : (List.range sh.length)[z.1 - h.length]? with
        | none => rw [e] at h3; cases h3
        | some i =>
          rw [e] at h3
          injection h3 with h3
          rw [Option.map_some, ← h3]; rfl
      · rw [numZ_snd]
        have : ((List.range sh.length).map fun (i : Nat) => [(Sum.inl (i : Int) : Th)]) = (piE sh.length).map fun x => [x] := by unfold piE; rw [List.map_map]; rfl
        rw [this]
        exact .start
    · rintro l ρ h' ⟨g, k, ws', o2, o3, rfl, rfl, _, _⟩
      exact zc g
    · rintro ρ h' ⟨g, k, ws', o2, o3, rfl, rfl, hw, P⟩
      have pl := P.len
      rw [piE_len] at pl
      try simp only [↓tV_q, ↓tNew_q, ↓cRet_q, ↓iSeq_q, ↓iSeqD_rq, ↓tLc3_q, ↓tL3_q, thenE_nx, onO_some, onC_q, wipe3_nil, wipe3_cons, List.getElem?_cons_zero, List.getElem?_cons_succ, List.set_cons_zero, List.set_cons_succ, hw.1]
      refine ⟨by have := pl.2; rw [List.length_map] at this ⊢; omega, ?_⟩
      refine sorted_heaps (E := piE sh.length) (b := false) hw P piE_kd (by rw [piE_len]; omega) (fun z hz hk g' Q hQ => ?_) (Q := GQ h.length Q) fun g' n2 zs hz ho es' => .inl (q _ _ ⟨g', n2, zs, _, es, rfl, rfl, hz, ho, I, P, es'⟩)
      have ez : (Ap h (G0 ++ .zK o ws (es.map entK) :: G ++ g ++ g'))[z.1]? = some (.lst (z.2.map thD)) := by rw [← Ap_app]; exact get_up (hw.2 z hz)
      try simp only [↓tV_q, ↓tN3_q, ↓tC3_q, ↓tNew_q, ↓gN_q, ↓tL3_q, ↓onLM_rq, onO_some, onC_q, List.getElem?_cons_zero, List.getElem?_cons_succ, List.set_cons_zero, List.set_cons_succ, e_sheet_pieces_2, refD, ez]
      exact srtG_th hk (by rw [Ap_len, Ap_app]; exact hQ)
    · rintro l e r ρ h' F e2 ⟨g, k, ws', o2, o3, rfl, rfl, hw, P⟩ hF
      have em' : e ∈ es := by rw [e2]; exact List.mem_append_right _ List.mem_cons_self
      obtain ⟨a, b, eab⟩ := two e em'
      have ec' := ec e em' g
      rw [eab] at ec'
      have mem : ∀ x ∈ e.2.2, (Sum.inl (x.1 : Int) : Th) ∈ piE sh.length := fun x hx => by
        rw [I.ls e em'] at hx
        exact List.mem_map.mpr ⟨x.1, List.mem_range.mpr (allS_lt (List.mem_filter.mp hx).1), rfl⟩
      have ma := mem a (by rw [eab]; simp)
      have mb := mem b (by rw [eab]; simp)
      have pl := P.len
      rw [piE_len] at pl
      have pe : entPr e = (.inl (a.1 : Int), .inl (b.1 : Int)) := by unfold entPr; rw [eab]
      try simp only [↓tV_q, ↓tK_q, ↓tO_q, ↓tN3_q, ↓tC3_q, ↓cAsg_q, ↓gN_q, ↓gNil3_q, ↓gCons3_q, ↓tCall3_q, ↓ixR_ti_q, ↓gLst3_q, onO_some, onC_q, atT_0, List.getElem?_cons_zero, List.getElem?_cons_succ, List.set_cons_zero, List.set_cons_succ, List.map_cons, List.map_nil, List.length_cons, List.length_nil, Nat.reduceAdd, true_and, ec', b_sheet_pieces_1, sdD]
      refine united_q (x := .inl (a.1 : Int)) (y := .inl (b.1 : Int)) hw (by have := pl.2; rw [List.length_map] at this; omega) (by omega) fun g2 k2 ws2 hz2 e3 => ?_
      rw [show Ap h (G0 ++ .zK o ws (es.map entK) :: G ++ g) ++ g2 = Ap h (G0 ++ .zK o ws (es.map entK) :: G ++ (g ++ g2)) by rw [Ap_app, List.append_assoc]] at hz2 ⊢
      refine hF _ _ ⟨g ++ g2, k2, ws2, _, _, rfl, rfl, hz2, ?_⟩
      rw [e3, List.map_append, List.map_singleton, pe]
      exact P.unite ma mb
  · rintro l k r acc h' F e ⟨rfl, rfl⟩ hF
    try simp only [↓tV_q, ↓tN3_q, ↓tC3_q, ↓tNew_q, ↓gN_q, ↓bYes_q, ↓Ap_len, ↓Ap_app, onO_some, ifC_true, List.getElem?_cons_zero, List.getElem?_cons_succ, List.set_cons_zero, List.set_cons_succ, e_sheet_pieces_1]
    refine hF _ _ ⟨?_, by rw [List.map_append]; rfl⟩
    rw [List.map_append, List.map_singleton, numZ_snoc, List.map_append, List.length_map, List.length_map]; rfl
end F3
set_option maxHeartbeats 400000
/-! SK: the number of a sheet (program). -/
namespace F3
open PySem PySem.Spec PyProof.Rows L2
def t_number : C3 :=
  (cRet (tO addR (tO subR (tB3 lenR (tC3 (tCall3 sp_points (tC3 (tV 0) tN3)) tN3)) (tCall3 sp_how_many_ties (tC3 (tV 0) tN3))) (tB3 lenR (tC3 (tV 0) tN3))))

def sp_number : Sp3 := spR (fun (a : Nat × List Tri) => [.ref a.1]) (fun a h => h[a.1]? = some (.lst (a.2.map triD)) ∧ ShOk a.2)
  (fun a h d h' => ∃ g hs, d = .int ((hs.length : Int) - (a.2.length : Int) * 3 / 2 + a.2.length) ∧ h' = h ++ g ∧ Part (endsE (3 * (a.2.length / 2))) (prsS a.2) hs)
theorem mono_number : MonoS sp_number := mono_spR
theorem len_number : ∀ ds h Q E, sp_number ds h Q E → ds.length = 1 := len_spR fun _ => rfl
theorem points_q1 {h : Sto} {n : Nat} {sh : List Tri} {Q : DK} (hn : h[n]? = some (.lst (sh.map triD))) (ok : ShOk sh) (q : ∀ (g : Sto) (k : Nat) (zs : Zs) (hs : List (List Th)), HsZ (h ++ g) k zs → OwnZ h k zs → Part (endsE (3 * (sh.length / 2))) (prsS sh) hs → zs.map Prod.snd = sortHH hs → Q (.ref k) (h ++ g)) : callS sp_points [.ref n] h Q :=
  ⟨(n, sh), rfl, ⟨hn, ok⟩, by rintro _ _ ⟨g, k, zs, hs, rfl, rfl, a, b, c, d⟩; exact q g k zs hs a b c d⟩
theorem sortHH_len {hs : List (List Th)} : (sortHH hs).length = hs.length := by
  unfold sortHH
  rw [(List.mergeSort_perm _ _).length_eq, List.length_map]
theorem rd_number : ∀ ds h Q E, ClS h.length h → ClDs h.length ds → sp_number ds h Q E → t_number (ends3 (GQ h.length Q)) (start3 1 ds) h := by
  rintro ds h Q E hcl _ ⟨⟨n, sh⟩, rfl, ⟨hn, ok⟩, q⟩
  have hn' : h[n]? = some (.lst (sh.map triD)) := hn
  have ok' : ShOk sh := ok
  clear hn ok
  try simp only [↓tV_q, ↓tO_q, ↓tN3_q, ↓tC3_q, ↓cRet_q, ↓tCall3_q, ↓tB3_q, ↓start3_q, onO_some, List.getElem?_cons_zero, List.map_cons, List.map_nil, List.cons_append, List.nil_append, List.length_cons, List.length_nil, List.replicate_zero, Nat.reduceAdd, Nat.reduceSub, t_number]
  refine points_q1 hn' ok' fun g k zs hs hz _ P es => ?_
  try simp only [↓tV_q, ↓tN3_q, ↓tC3_q, ↓tCall3_q, ↓start3_q, ↓lenR_rq, onO_some, onC_q, List.getElem?_cons_zero, List.map_cons, List.map_nil, List.cons_append, List.nil_append, List.length_cons, List.length_nil, List.replicate_zero, Nat.reduceAdd, Nat.reduceSub, hz.1]
  refine how_many_ties_q (sh := sh) ⟨get_up hn', ok'⟩ ?_
  have e2 : (h ++ g)[n]? = some (.lst (sh.map triD)) := get_up hn'
  try simp only [↓tV_q, ↓tN3_q, ↓tC3_q, ↓tB3_q, ↓start3_q, ↓addR_ii_q, ↓subR_ii_q, ↓lenR_rq, ends3_rt, onO_some, onC_q, List.getElem?_cons_zero, List.map_cons, List.map_nil, List.cons_append, List.nil_append, List.length_cons, List.length_nil, List.replicate_zero, Nat.reduceAdd, Nat.reduceSub, e2, List.length_map]
  have el : zs.length = hs.length := by
    have := congrArg List.length es
    rwa [List.length_map, sortHH_len] at this
  rw [el]
  exact .inl (q _ _ ⟨g, hs, rfl, rfl, P⟩)
end F3
set_option maxHeartbeats 400000
/-! SN: points of sheets (the law's own walk), data told alike. -/
namespace F3
open PySem PySem.Spec PyProof.Rows L2
def b_lpoints_1 : C3 :=
  (cAsg (tO addR (tV 1) (tNew (tC3 (tTup3 (tC3 (tV 2) (tC3 (tK (.int 0)) tN3))) (tC3 (tTup3 (tC3 (tV 2) (tC3 (tK (.int 1)) tN3))) tN3)))) (gN 1))
def e_lpoints_1 : E3 :=
  (tNew (tL3 (onLM srtG) (tC3 (tV 3) tN3)))
def t_lpoints : C3 :=
  (cSeq (cAsg (tNew tN3) (gN 1))
    (cSeq (cFor (iRng (tC3 (tK (.int 1)) (tC3 (tO addR (tO divR (tO mulR (tB3 lenR (tC3 (tV 0) tN3)) (tK (.int 3))) (tK (.int 2))) (tK (.int 1))) tN3))) (gN 2) b_lpoints_1)
    (cRet (tNew (tL3 srtG (tLc3 (iSeq (tCall3 sp_lheaps (tC3 (tV 1) (tC3 (tCall3 sp_lmeets (tC3 (tV 0) tN3)) tN3)))) (gN 3) bYes e_lpoints_1 [3]))))))

def sp_lpoints : Sp3 := spR (fun (a : Nat × List Tri) => [.ref a.1]) (fun a h => h[a.1]? = some (.lst (a.2.map triD)) ∧ ShOk a.2)
  (fun a h d h' => ∃ g n zs hs, d = .ref n ∧ h' = h ++ g ∧ HsZ h' n zs ∧ OwnZ h n zs ∧ Part (endsE (3 * (a.2.length / 2))) (prsS a.2) hs ∧ zs.map Prod.snd = sortHH hs)
theorem mono_lpoints : MonoS sp_lpoints := mono_spR
theorem len_lpoints : ∀ ds h Q E, sp_lpoints ds h Q E → ds.length = 1 := len_spR fun _ => rfl
theorem rd_lpoints : ∀ ds h Q E, ClS h.length h → ClDs h.length ds → sp_lpoints ds h Q E → t_lpoints (ends3 (GQ h.length Q)) (start3 4 ds) h := by
  rintro ds h Q E hcl _ ⟨⟨n, sh⟩, rfl, ⟨hn, ok⟩, q⟩
  have hn' : h[n]? = some (.lst (sh.map triD)) := hn
  have ok' : ShOk sh := ok
  clear hn ok
  obtain ⟨m, m1, m6, hm, em⟩ := ok'.half
  have e0 : ∀ g : Sto, (Ap h g)[n]? = some (.lst (sh.map triD)) := fun g => get_up hn'
  conv => arg 3; rw [Ap_mk (h := h)]
  try simp only [↓tV_q, ↓tK_q, ↓tO_q, ↓tN3_q, ↓tC3_q, ↓tNew_q, ↓cSeq_q, ↓cAsg_q, ↓gN_q, ↓cFor_q, ↓iRng_q, ↓rngD_2q, ↓tB3_q, ↓start3_q, ↓addR_ii_q, ↓mulR_ii_q, ↓divR_ii_q, ↓lenR_rq, ↓Ap_len, ↓Ap_app, thenE_nx, onO_some, onC_q, List.getElem?_cons_zero, List.set_cons_zero, List.set_cons_succ, List.map_cons, List.map_nil, List.cons_append, List.nil_append, List.length_cons, List.length_nil, List.replicate_succ, List.replicate_zero, Nat.reduceAdd, Nat.reduceSub, Nat.add_zero, t_lpoints, e0, List.length_map]
  rw [em]
  refine ⟨mulOk_r (by decide), divOk_of (by decide) (by decide), ⟨by omega, by omega, by omega, by omega⟩, ?_⟩
  have eT : (((3 * m : Nat) : Int) + 1 - 1).toNat = 3 * m := by omega
  rw [eT]
  refine forL (f := fun (k : Nat) => D.int (1 + (k : Int))) (fun l ρ h' => ∃ (g : Sto) (k : Nat) (o2 : Option D), ρ = [some (.ref n), some (.ref k), o2, none] ∧ h' = Ap h g ∧ (Ap h g)[k]? = some (.lst ((endsE l.length).map thD))) ⟨_, _, _, rfl, rfl, by rw [Ap_get0]; rfl⟩ (fun _ _ _ _ => trivial) ?_ ?_
  · rintro ρ h' ⟨g, k, o2, rfl, rfl, ek⟩
    rw [List.length_range] at ek
    try simp only [↓tV_q, ↓tN3_q, ↓tC3_q, ↓tNew_q, ↓cRet_q, ↓iSeq_q, ↓tLc3_q, ↓tCall3_q, ↓tL3_q, thenE_nx, onO_some, List.getElem?_cons_zero, List.getElem?_cons_succ]
    refine lmeets_q (sh := sh) ⟨e0 _, ok'⟩ ?_
    try simp only [↓tN3_q, ↓Ap_len, ↓Ap_app]
    have ek2 : ∀ x : Sto, (Ap h (g ++ x))[k]? = some (.lst ((endsE (3 * m)).map thD)) := fun x => by rw [← Ap_app]; exact get_up ek
    refine lheaps_q (E := endsE (3 * m)) (ps := prsS sh) (ek2 _) ?_ (endsE_nd _) (by rw [endsE_len]; omega) (prsS_mem ok' hm) fun g2 j ws hz P => ?_
    · rw [Ap_getk]; exact get_new
    have e3 : (Ap h (g ++ [.lst ((prsS sh).map thpD)]) ++ g2) = Ap h (g ++ [.lst ((prsS sh).map thpD)] ++ g2) := Ap_app
    rw [e3] at hz ⊢
    generalize g ++ [.lst ((prsS sh).map thpD)] ++ g2 = g3 at hz ⊢
    try simp only [↓iSeqD_rq, onC_q, wipe3_nil, wipe3_cons, List.set_cons_zero, List.set_cons_succ, hz.1]
    have pl := P.len
    rw [endsE_len] at pl
    refine ⟨by have := pl.2; rw [List.length_map] at this ⊢; omega, ?_⟩
    refine sorted_heaps (E := endsE (3 * m)) (b := true) hz P endsE_kd (by rw [endsE_len]; omega) (fun z hz' hk g' Q hQ => ?_) (Q := GQ h.length Q) fun g' n2 zs hz ho es => .inl (q _ _ ⟨g', n2, zs, _, rfl, rfl, hz, ho, ?_, es⟩)
    · have ec : (Ap h (g3 ++ g'))[z.1]? = some (.lst (z.2.map thD)) := by rw [← Ap_app]; exact get_up (hz.2 z hz')
      try simp only [↓tV_q, ↓tN3_q, ↓tC3_q, ↓tNew_q, ↓gN_q, ↓tL3_q, ↓onLM_rq, onO_some, onC_q, List.getElem?_cons_zero, List.getElem?_cons_succ, List.set_cons_zero, List.set_cons_succ, e_lpoints_1, refD, ec]
      exact srtG_th hk (by rw [Ap_len, Ap_app]; exact hQ)
    · show Part (endsE (3 * (sh.length / 2))) (prsS sh) (ws.map Prod.snd)
      rw [show sh.length / 2 = m by omega]
      exact P
  · rintro l i r ρ h' F e ⟨g, k, o2, rfl, rfl, ek⟩ hF
    obtain ⟨ei, il⟩ := rng_at e
    have ek2 : ∀ x : Sto, (Ap h (g ++ x))[k]? = some (.lst ((endsE l.length).map thD)) := fun x => by rw [← Ap_app]; exact get_up ek
    try simp only [↓tV_q, ↓tK_q, ↓tO_q, ↓tN3_q, ↓tC3_q, ↓tTup3_q, ↓tNew_q, ↓cAsg_q, ↓gN_q, ↓addR_rq, ↓Ap_app, onO_some, List.getElem?_cons_zero, List.getElem?_cons_succ, List.set_cons_zero, List.set_cons_succ, b_lpoints_1]
    try simp only [↓gN_q, ↓Ap_len, ↓Ap_app, ↓Ap_getk, loopE_nx, onC_q, List.set_cons_zero, List.set_cons_succ, List.length_cons, List.length_nil, Nat.reduceAdd, Nat.reduceLeDiff, ek2, get_new]
    refine ⟨by rw [List.length_map, endsE_len]; omega, hF _ _ ⟨_, _, _, rfl, rfl, ?_⟩⟩
    rw [Ap_getk, get_new]
    have : endsE (l.length + 1) = endsE l.length ++ [.inr (1 + (i : Int), 0), .inr (1 + (i : Int), 1)] := by
      unfold endsE
      rw [List.range_succ, List.flatMap_append, ei]; simp
    rw [List.length_append, List.length_singleton, this, List.map_append]; rfl
theorem lpoints_q {h : Sto} {n : Nat} {sh : List Tri} {Q : DK} (hn : h[n]? = some (.lst (sh.map triD))) (ok : ShOk sh) (q : ∀ (g : Sto) (k : Nat) (zs : Zs) (hs : List (List Th)), HsZ (h ++ g) k zs → OwnZ h k zs → Part (endsE (3 * (sh.length / 2))) (prsS sh) hs → zs.map Prod.snd = sortHH hs → Q (.ref k) (h ++ g)) : callS sp_lpoints [.ref n] h Q :=
  ⟨(n, sh), rfl, ⟨hn, ok⟩, by rintro _ _ ⟨g, k, zs, hs, rfl, rfl, a, b, c, d⟩; exact q g k zs hs a b c d⟩
theorem eqvAll_self : ∀ {xs : List PyData}, (∀ x ∈ xs, PyData.eqv x x = true) → PyData.eqvAll xs xs = true
  | [], _ => by simp [PyData.eqvAll]
  | x :: xs, h => by
    rw [PyData.eqvAll, h x List.mem_cons_self, eqvAll_self fun y hy => h y (List.mem_cons_of_mem _ hy)]; rfl
theorem eqv_hs {hs : List (List Th)} : PyData.eqv (.list (hs.map heapP)) (.list (hs.map heapP)) = true := by
  rw [PyData.eqv]
  refine eqvAll_self fun x hx => ?_
  obtain ⟨H, _, rfl⟩ := List.mem_map.mp hx
  unfold heapP
  rw [PyData.eqv]
  refine eqvAll_self fun y hy => ?_
  obtain ⟨t, _, rfl⟩ := List.mem_map.mp hy
  rw [eqv_th]; simp
def triP (t : Tri) : PyData := .tuple [.int t.1, .int t.2.1, .int t.2.2]
theorem eqv_sh {sh : List Tri} : PyData.eqv (.list (sh.map triP)) (.list (sh.map triP)) = true := by
  rw [PyData.eqv]
  refine eqvAll_self fun x hx => ?_
  obtain ⟨t, _, rfl⟩ := List.mem_map.mp hx
  simp [triP, PyData.eqv, PyData.eqvAll]
theorem mem_len : ∀ (hs : List (List Th)), ∀ H ∈ hs, H.length ≤ hs.flatten.length
  | K :: hs, H, hH => by
    rw [List.flatten_cons, List.length_append]
    rcases List.mem_cons.mp hH with rfl | hH
    · omega
    · have := mem_len hs H hH
      omega
theorem tk_hs {h : Sto} {n : Nat} {ws : Zs} (hw : HsZ h n ws) : toP h 9 (.ref n) = some (.list ((ws.map Prod.snd).map heapP)) := toP_lst (k := 8) hw.1 (by rw [List.map_map]; exact mapM_of fun z hz => toP_heap (k := 5) (hw.2 z hz))
theorem tk_sh {h : Sto} {n : Nat} {sh : List Tri} (e : h[n]? = some (.lst (sh.map triD))) : toP h 9 (.ref n) = some (.list (sh.map triP)) := toP_lst (k := 8) e (mapM_of fun z _ => rfl)
theorem sortHH_in {hs : List (List Th)} {S : List Th} (h : S ∈ sortHH hs) : ∃ H ∈ hs, S.Perm H := by
  obtain ⟨H, hH, e⟩ := List.mem_map.mp ((List.mergeSort_perm _ _).mem_iff.mp h)
  exact ⟨H, hH, e ▸ sortE_perm⟩
theorem in_sortHH {hs : List (List Th)} {H : List Th} (h : H ∈ hs) : ∃ S ∈ sortHH hs, S.Perm H := ⟨sortE H, (List.mergeSort_perm _ _).mem_iff.mpr (List.mem_map.mpr ⟨H, h, rfl⟩), sortE_perm⟩
theorem sortHH_flat {hs : List (List Th)} : (sortHH hs).flatten.Perm hs.flatten := by
  unfold sortHH
  refine ((List.mergeSort_perm _ _).flatten).trans ?_
  induction hs with
  | nil => exact .refl _
  | cons H r ih =>
    rw [List.map_cons, List.flatten_cons, List.flatten_cons]
    exact sortE_perm.append ih
end F3
/-! TB: bits of numbers from nought. -/
namespace F3
open PySem PySem.Spec PyProof.Rows
theorem add_xor_and : ∀ a b : Nat, a + b = (a ^^^ b) + 2 * (a &&& b) := by
  intro a
  induction a using Nat.strongRecOn with
  | ind a ih =>
    intro b
    by_cases ha : a = 0
    · subst ha; simp
    · have := ih (a / 2) (by omega) (b / 2)
      have h1 : (a ^^^ b) / 2 = (a / 2) ^^^ (b / 2) := Nat.xor_div_two
      have h2 : (a &&& b) / 2 = (a / 2) &&& (b / 2) := Nat.and_div_two
      have h3 : (a ^^^ b) % 2 = (a + b) % 2 := by
        have h := Nat.testBit_xor a b 0
        simp only [Nat.testBit_zero] at h
        rcases Nat.mod_two_eq_zero_or_one a with h5 | h5 <;> rcases Nat.mod_two_eq_zero_or_one b with h6 | h6 <;> rcases Nat.mod_two_eq_zero_or_one (a ^^^ b) with h7 | h7 <;> simp [h5, h6, h7] at h <;> omega
      have h4 : (a &&& b) % 2 = (a % 2) * (b % 2) := by
        have h := Nat.testBit_and a b 0
        simp only [Nat.testBit_zero] at h
        rcases Nat.mod_two_eq_zero_or_one a with h5 | h5 <;> rcases Nat.mod_two_eq_zero_or_one b with h6 | h6 <;> rcases Nat.mod_two_eq_zero_or_one (a &&& b) with h7 | h7 <;> simp [h5, h6, h7] at h ⊢
      rcases Nat.mod_two_eq_zero_or_one a with h | h <;> rcases Nat.mod_two_eq_zero_or_one b with h' | h' <;> rw [h, h'] at h4 <;> omega
theorem bitXor_nat (a b : Nat) : Builtin.bitXor (a : Int) (b : Int) = ((a ^^^ b : Nat) : Int) := by
  rw [bitXor_and, bitAnd_pp (Int.natCast_nonneg a) (Int.natCast_nonneg b), Int.toNat_natCast, Int.toNat_natCast]
  have := add_xor_and a b
  omega
/-- the k-th bit of a mask -/
def bitN (m k : Nat) : Nat := m / 2 ^ k % 2
theorem bitN_xor (a b k : Nat) : bitN (a ^^^ b) k = (bitN a k + bitN b k) % 2 := by
  have h := Nat.testBit_xor a b k
  simp only [Nat.testBit_eq_decide_div_mod_eq] at h
  unfold bitN
  rcases Nat.mod_two_eq_zero_or_one (a / 2 ^ k) with h5 | h5 <;> rcases Nat.mod_two_eq_zero_or_one (b / 2 ^ k) with h6 | h6 <;> rcases Nat.mod_two_eq_zero_or_one ((a ^^^ b) / 2 ^ k) with h7 | h7 <;> simp [h5, h6, h7] at h ⊢
theorem bit_and (m k : Nat) : Builtin.bitAnd ((m : Int) / 2 ^ k) 1 = (bitN m k : Int) := by
  rw [bitAnd_m1]
  unfold bitN
  rw [show (2 : Int) ^ k = ((2 ^ k : Nat) : Int) by norm_cast, ← Int.natCast_ediv, show (2 : Int) = ((2 : Nat) : Int) from rfl, ← Int.natCast_emod]
end F3
set_option maxHeartbeats 400000
/-! TC: cord rows drawn: even sets of ties. -/
namespace F3
open PySem PySem.Spec PyProof.Rows L2
def cnt (row : List Int) (s : Int) : Int := row.getD (s.natAbs - 1) 0
structure TriOk (row : List Int) (t : Tri) : Prop where
  ev : (cnt row t.1 + cnt row t.2.1 + cnt row t.2.2) % 2 = 0
  a : cnt row t.1 ≤ cnt row t.2.1 + cnt row t.2.2
  b : cnt row t.2.1 ≤ cnt row t.2.2 + cnt row t.1
  c : cnt row t.2.2 ≤ cnt row t.1 + cnt row t.2.1
structure RowOk (sh : List Tri) (row : List Int) : Prop where
  ln : row.length = 3 * (sh.length / 2)
  lo : ∀ x ∈ row, 0 ≤ x ∧ x < 10 ^ 61
  tr : ∀ t ∈ sh, TriOk row t
def evT (m : Nat) (t : Tri) : Nat := bitN m (t.1.natAbs - 1) + (bitN m (t.2.1.natAbs - 1) + bitN m (t.2.2.natAbs - 1))
theorem evT_xor (a b : Nat) (t : Tri) : evT (a ^^^ b) t % 2 = (evT a t + evT b t) % 2 := by
  unfold evT
  rw [bitN_xor, bitN_xor, bitN_xor]
  omega
def natD (m : Nat) : D := .int (m : Int)
def oddB (t : Tri) (m : Nat) : Bool := decide (evT m t % 2 = 1)
/-- the masks behind a triangle -/
def nextM (t : Tri) (ms : List Nat) : List Nat := ms.filter (fun m => !oddB t m) ++ ((ms.filter (oddB t)).drop 1).map fun m => m ^^^ (ms.filter (oddB t)).headD 0
theorem filt_len {α : Type} (p : α → Bool) : ∀ l : List α, (l.filter p).length + (l.filter fun x => !p x).length = l.length
  | [] => rfl
  | x :: l => by
    have := filt_len p l
    rw [List.filter_cons, List.filter_cons]
    cases h : p x <;> simp <;> omega
theorem nextM_len (t : Tri) (ms : List Nat) : (nextM t ms).length ≤ ms.length := by
  unfold nextM
  rw [List.length_append, List.length_map, List.length_drop]
  have := filt_len (oddB t) ms
  omega
theorem nextM_old {t u : Tri} {ms : List Nat} (h : ∀ m ∈ ms, evT m u % 2 = 0) : ∀ m ∈ nextM t ms, evT m u % 2 = 0 := by
  intro m hm
  rcases List.mem_append.mp hm with hm | hm
  · exact h m (List.mem_filter.mp hm).1
  · obtain ⟨k, hk, rfl⟩ := List.mem_map.mp hm
    have hk := List.mem_of_mem_drop hk
    have h1 := h k (List.mem_filter.mp hk).1
    match e : ms.filter (oddB t), hk with
    | o :: r, _ =>
      have h2 := h o (List.mem_filter.mp (show o ∈ ms.filter (oddB t) by rw [e]; exact List.mem_cons_self)).1
      rw [List.headD_cons, evT_xor]
      omega
theorem nextM_new {t : Tri} {ms : List Nat} : ∀ m ∈ nextM t ms, evT m t % 2 = 0 := by
  intro m hm
  rcases List.mem_append.mp hm with hm | hm
  · have := (List.mem_filter.mp hm).2
    simp only [oddB, Bool.not_eq_true', decide_eq_false_iff_not] at this
    omega
  · obtain ⟨k, hk, rfl⟩ := List.mem_map.mp hm
    have hk := List.mem_of_mem_drop hk
    have h1 := of_decide_eq_true (List.mem_filter.mp hk).2
    match e : ms.filter (oddB t), hk with
    | o :: r, _ =>
      have h2 := of_decide_eq_true (List.mem_filter.mp (show o ∈ ms.filter (oddB t) by rw [e]; exact List.mem_cons_self)).2
      rw [List.headD_cons, evT_xor]
      omega
def e_even_ones_1 : E3 :=
  (tO shlR (tK (.int 1)) (tV 6))
def e_even_ones_2 : E3 :=
  (tO andR (tO shrR (tV 5) (tO subR (tB3 absR (tC3 (tV 7) tN3)) (tK (.int 1)))) (tK (.int 1)))
def b_even_ones_2 : C3 :=
  (cIf (tT (tO eqR (tO modR (tB3 sumX (tLc3 (iSeq (tV 2)) (gN 7) bYes e_even_ones_2 [7])) (tK (.int 2))) (tK (.int 1)))) (cDrop (tLM appT (tV 3) (tC3 (tV 5) tN3))) (cDrop (tLM appT (tV 4) (tC3 (tV 5) tN3))))
def e_even_ones_3 : E3 :=
  (tO xorR (tV 5) (tO ixR (tV 3) (tK (.int 0))))
def b_even_ones_1 : C3 :=
  (cSeq (cAsg (tNew tN3) (gN 3))
    (cSeq (cAsg (tNew tN3) (gN 4))
    (cSeq (cFor (iSeq (tV 1)) (gN 5) b_even_ones_2)
    (cAsg (tO addR (tV 4) (tNew (tLc3 (iSeq (tSl3 (tV 3) (oSo (tK (.int 1))) oNo)) (gN 5) bYes e_even_ones_3 [5]))) (gN 1)))))
def t_even_ones : C3 :=
  (cSeq (cAsg (tNew (tLc3 (iRng (tC3 (tO divR (tO mulR (tB3 lenR (tC3 (tV 0) tN3)) (tK (.int 3))) (tK (.int 2))) tN3)) (gN 6) bYes e_even_ones_1 [6])) (gN 1))
    (cSeq (cFor (iSeq (tV 0)) (gN 2) b_even_ones_1)
    (cRet (tV 1))))

def sp_even_ones : Sp3 := spR (fun (a : Nat × List Tri) => [.ref a.1]) (fun a h => h[a.1]? = some (.lst (a.2.map triD)) ∧ ShOk a.2)
  (fun a h d h' => ∃ (g : Sto) (j : Nat) (ms : List Nat), d = .ref (h.length + j) ∧ h' = h ++ g ∧ g[j]? = some (.lst (ms.map natD)) ∧ ms.length ≤ 18 ∧ ∀ m ∈ ms, ∀ t ∈ a.2, evT m t % 2 = 0)
theorem mono_even_ones : MonoS sp_even_ones := mono_spR
theorem len_even_ones : ∀ ds h Q E, sp_even_ones ds h Q E → ds.length = 1 := len_spR fun _ => rfl
theorem even_ones_q {h : Sto} {n : Nat} {sh : List Tri} {Q : DK} (hn : h[n]? = some (.lst (sh.map triD))) (ok : ShOk sh) (q : ∀ (g : Sto) (j : Nat) (ms : List Nat), g[j]? = some (.lst (ms.map natD)) → ms.length ≤ 18 → (∀ m ∈ ms, ∀ t ∈ sh, evT m t % 2 = 0) → Q (.ref (h.length + j)) (h ++ g)) : callS sp_even_ones [.ref n] h Q :=
  ⟨(n, sh), rfl, ⟨hn, ok⟩, by rintro _ _ ⟨g, j, ms, rfl, rfl, a, b, c⟩; exact q g j ms a b c⟩
theorem abs_at {s : Int} (h : s ≠ 0) : 0 ≤ (if s < 0 then -s else s) - 1 ∧ ((if s < 0 then -s else s) - 1).toNat = s.natAbs - 1 := by
  split <;> constructor <;> omega
theorem ShOk.tri {sh : List Tri} (h : ShOk sh) {m : Nat} (hm : sh.length = 2 * m) {t : Tri} (ht : t ∈ sh) : ∀ s ∈ [t.1, t.2.1, t.2.2], s ≠ 0 ∧ 1 ≤ s.natAbs ∧ s.natAbs ≤ 3 * m := by
  intro s hs
  have := h.side hm s (List.mem_flatMap.mpr ⟨t, ht, hs⟩)
  exact ⟨by omega, this⟩
theorem intsOf3 {a b c : Int} : intsOf [.int a, .int b, .int c] = some [a, b, c] := id rfl
theorem cutFrom1 {ms : List Nat} : cutD (ms.map natD) (some 1) none = (ms.drop 1).map natD := by
  unfold cutD
  cases ms with
  | nil => rfl
  | cons a r =>
    rw [show HT.sIx ((a :: r).map natD).length 0 (some 1) = 1 from by rw [show (1 : Int) = ((1 : Nat) : Int) from rfl, HT.sIx_nat]; simp, show HT.sIx ((a :: r).map natD).length ((a :: r).map natD).length none = ((a :: r).map natD).length from rfl]
    rw [List.map_drop, List.take_of_length_le]
    rw [List.length_drop]
    exact Nat.le_refl _
theorem rd_even_ones : ∀ ds h Q E, ClS h.length h → ClDs h.length ds → sp_even_ones ds h Q E → t_even_ones (ends3 (GQ h.length Q)) (start3 8 ds) h := by
  rintro ds h Q E hcl _ ⟨⟨n, sh⟩, rfl, ⟨hn, ok⟩, q⟩
  have hn' : h[n]? = some (.lst (sh.map triD)) := hn
  have ok' : ShOk sh := ok
  have q' : ∀ (g : Sto) (j : Nat) (ms : List Nat), g[j]? = some (.lst (ms.map natD)) → ms.length ≤ 18 → (∀ m ∈ ms, ∀ t ∈ sh, evT m t % 2 = 0) → Q (.ref (h.length + j)) (Ap h g) := fun g j ms a b c => q _ _ ⟨g, j, ms, rfl, rfl, a, b, c⟩
  clear hn ok q
  obtain ⟨m, m1, m6, hm, em⟩ := ok'.half
  have e0 : ∀ g : Sto, (Ap h g)[n]? = some (.lst (sh.map triD)) := fun g => get_up hn'
  conv => arg 3; rw [Ap_mk (h := h)]
  try simp only [↓tV_q, ↓tK_q, ↓tO_q, ↓tN3_q, ↓tC3_q, ↓tNew_q, ↓cSeq_q, ↓cAsg_q, ↓iRng_q, ↓rngD_1q, ↓tLc3_q, ↓tB3_q, ↓start3_q, ↓mulR_ii_q, ↓divR_ii_q, ↓lenR_rq, onO_some, onC_q, wipe3_nil, wipe3_cons, List.getElem?_cons_zero, List.set_cons_zero, List.set_cons_succ, List.map_cons, List.map_nil, List.cons_append, List.nil_append, List.length_cons, List.length_nil, List.replicate_succ, List.replicate_zero, Nat.reduceAdd, Nat.reduceSub, t_even_ones, e0, List.length_map]
  rw [em]
  refine ⟨mulOk_r (by decide), divOk_of (by decide) (by decide), ⟨by omega, by omega⟩, by simp; omega, ?_⟩
  rw [Int.toNat_natCast]
  refine lcMap (f := fun (k : Nat) => D.int (k : Int)) (r := fun k => natD (2 ^ k)) trivial ?_ ?_
  · try simp only [↓tV_q, ↓cSeq_q, ↓gN_q, ↓cFor_q, ↓iSeq_q, ↓iSeqD_rq, ↓start3_q, ↓Ap_len, ↓Ap_app, thenE_nx, onO_some, List.getElem?_cons_zero, List.set_cons_zero, List.set_cons_succ, List.map_cons, List.map_nil, List.cons_append, List.nil_append, List.length_cons, List.length_nil, List.replicate_succ, List.replicate_zero, Nat.reduceAdd, Nat.reduceSub, Nat.add_zero]
    rw [show (List.range (3 * m)).map (fun k => natD (2 ^ k)) = ((List.range (3 * m)).map (2 ^ ·)).map natD by rw [List.map_map]; rfl]
    try simp only [onC_q, e0]
    refine forL (f := triD) (fun l ρ h' => ∃ (g : Sto) (j : Nat) (ms : List Nat) (o2 o3 o4 o5 : Option D), ρ = [some (.ref n), some (.ref (h.length + j)), o2, o3, o4, o5, none, none] ∧ h' = Ap h g ∧ g[j]? = some (.lst (ms.map natD)) ∧ ms.length ≤ 18 ∧ ∀ m ∈ ms, ∀ t ∈ l, evT m t % 2 = 0) ⟨[.lst (((List.range (3 * m)).map (2 ^ ·)).map natD)], 0, (List.range (3 * m)).map (2 ^ ·), _, _, _, _, rfl, rfl, rfl, by simp; omega, by intro m _ t ht; cases ht⟩ ?_ ?_ ?_
    · rintro l ρ h' ⟨g, j, ms, o2, o3, o4, o5, rfl, rfl, _⟩
      exact e0 _
    · rintro ρ h' ⟨g, j, ms, o2, o3, o4, o5, rfl, rfl, a, b, c⟩
      try simp only [↓tV_q, ↓cRet_q, thenE_nx, ends3_rt, onO_some, List.getElem?_cons_zero, List.getElem?_cons_succ]
      exact .inl (q' g j ms a b c)
    · rintro l t r ρ h' F e ⟨g, j, ms, o2, o3, o4, o5, rfl, rfl, ej, lm, ev⟩ hF
      have ht : t ∈ sh := by rw [e]; exact List.mem_append_right _ List.mem_cons_self
      have hs := ok'.tri hm ht
      have hF' : ∀ g' j' (o3 o4 o5 : Option D), g'[j']? = some (.lst ((nextM t ms).map natD)) → F [some (.ref n), some (.ref (h.length + j')), some (triD t), o3, o4, o5, none, none] (Ap h g') := fun g' j' o3 o4 o5 e1 =>
        hF _ _ ⟨g', j', nextM t ms, _, _, _, _, rfl, rfl, e1, Nat.le_trans (nextM_len t ms) lm, fun m hm u hu => by
          rcases List.mem_append.mp hu with hu | hu
          · exact nextM_old (fun m hm => ev m hm u hu) m hm
          · rw [List.mem_singleton.mp hu]
            exact nextM_new m hm⟩
      clear hF
      have ek : ∀ x : Sto, (Ap (Ap h g) x)[h.length + j]? = some (.lst (ms.map natD)) := fun x => get_up (by rw [Ap_getk]; exact ej)
      have hB : ∀ x : Sto, Ap (Ap h g) x = Ap h (g ++ x) := fun x => Ap_app
      generalize hBe : Ap h g = B at ek hB ⊢
      have bl : B.length = h.length + g.length := by rw [← hBe, Ap_len]
      rw [show B = Ap B [] from Ap_mk]
      try simp only [↓tV_q, ↓tN3_q, ↓tNew_q, ↓cSeq_q, ↓cAsg_q, ↓gN_q, ↓cFor_q, ↓iSeq_q, ↓iSeqD_rq, ↓Ap_len, ↓Ap_app, thenE_nx, onO_some, onC_q, List.getElem?_cons_zero, List.getElem?_cons_succ, List.set_cons_zero, List.set_cons_succ, List.cons_append, List.nil_append, List.length_cons, List.length_nil, Nat.reduceAdd, Nat.add_zero, b_even_ones_1, ek, triD]
      refine forL (f := natD) (fun l2 ρ h' => ∃ (o5 : Option D), ρ = [some (.ref n), some (.ref (h.length + j)), some (.tup [.int t.1, .int t.2.1, .int t.2.2]), some (.ref B.length), some (.ref (B.length + 1)), o5, none, none] ∧ h' = Ap B [.lst ((l2.filter (oddB t)).map natD), .lst ((l2.filter fun m => !oddB t m).map natD)]) ⟨_, rfl, rfl⟩ ?_ ?_ ?_
      · rintro l ρ h' ⟨o5, rfl, rfl⟩
        exact ek _
      · rintro ρ h' ⟨o5, rfl, rfl⟩
        try simp only [↓tV_q, ↓tK_q, ↓tO_q, ↓tNew_q, ↓cAsg_q, ↓iSeq_q, ↓iSeqD_rq, ↓tLc3_q, ↓tSl3_q, ↓oNo_q, ↓oSo_q, ↓slR_rq, ↓Ap_len, ↓Ap_app, ↓Ap_get0, ↓Ap_getk, thenE_nx, onO_some, onI_int, onC_q, wipe3_nil, wipe3_cons, List.getElem?_cons_zero, List.getElem?_cons_succ, List.set_cons_zero, List.set_cons_succ, List.cons_append, List.nil_append, List.length_cons, List.length_nil, Nat.reduceAdd]
        rw [cutFrom1]
        have ol : ((ms.filter (oddB t)).drop 1).length ≤ 18 := by
          rw [List.length_drop]
          have := filt_len (oddB t) ms
          omega
        refine ⟨by rw [List.length_map]; omega, ?_⟩
        refine lcMap (f := natD) (r := fun k => natD (k ^^^ (ms.filter (oddB t)).headD 0)) (by rw [Ap_getk]; rfl) ?_ ?_
        · try simp only [↓gN_q, ↓addR_rq, ↓Ap_len, ↓Ap_app, ↓Ap_getk, loopE_nx, onC_q, List.getElem?_cons_zero, List.getElem?_cons_succ, List.set_cons_zero, List.set_cons_succ, List.cons_append, List.nil_append, List.length_cons, List.length_nil, Nat.reduceAdd]
          refine ⟨?_, ?_⟩
          · have := filt_len (oddB t) ms
            simp only [List.length_map]
            omega
          · rw [hB, show B.length + 4 = h.length + (g.length + 4) by omega]
            refine hF' _ _ _ _ _ ?_
            rw [get_app]
            unfold nextM
            rw [List.map_append, List.map_map]; rfl
        · intro k hk Q hQ
          have hk := List.mem_of_mem_drop hk
          try simp only [↓tV_q, ↓tK_q, ↓tO_q, ↓gN_q, ↓ixR_rq, ↓Ap_get0, onO_some, onC_q, List.getElem?_cons_zero, List.getElem?_cons_succ, List.set_cons_zero, List.set_cons_succ, e_even_ones_3, natD]
          match e3 : ms.filter (oddB t), hk with
          | o :: r3, _ =>
            rw [e3] at hQ
            try simp only [↓xorR_q, atT_0, List.map_cons, natD]
            rw [bitXor_nat]
            exact hQ
      · rintro l2 m r2 ρ h' F2 e2 ⟨o5, rfl, rfl⟩ hF2
        have l2l : l2.length ≤ 18 := by
          have := congrArg List.length e2
          rw [List.length_append] at this
          omega
        have fl := filt_len (oddB t) l2
        try simp only [↓tV_q, ↓tO_q, ↓tT_q, ↓cIf_q, ↓gN_q, ↓iSeq_q, ↓iSeqD_tq, ↓tLc3_q, ↓tB3_q, onO_some, wipe3_nil, wipe3_cons, List.getElem?_cons_zero, List.getElem?_cons_succ, List.set_cons_zero, List.set_cons_succ, List.length_cons, List.length_nil, Nat.reduceAdd, Nat.reduceLeDiff, true_and, b_even_ones_2, natD]
        refine lcMap (f := fun s => D.int s) (xs := [t.1, t.2.1, t.2.2]) (r := fun s => D.int (bitN m (s.natAbs - 1))) trivial ?_ ?_
        · try simp only [↓sumX_q, List.map_cons, List.map_nil]
          rw [intsOf3]
          try simp only [↓tK_q, ↓modR_ii_q, ↓eqR_ii_q, onB_bl, onIs_q, true_and, Int.reduceLT]
          refine ifC_of (fun hc => ?_) (fun hc => ?_)
          · have ho : oddB t m = true := by
              unfold oddB evT
              simp only [List.sum_cons, List.sum_nil] at hc
              rw [decide_eq_true_eq]
              omega
            try simp only [↓tV_q, ↓tN3_q, ↓tC3_q, ↓cDrop_q, ↓tLM_q, ↓lmD_q, ↓appT_q, ↓Ap_get0, ↓Ap_set0, loopE_nx, onO_some, onC_q, List.getElem?_cons_zero, List.getElem?_cons_succ, List.set_cons_zero]
            refine ⟨by rw [List.length_map]; omega, hF2 _ _ ⟨_, rfl, ?_⟩⟩
            simp only [List.filter_append, List.map_append, List.filter_cons, ho, List.filter_nil, Bool.not_true, Bool.false_eq_true, if_true, if_false, List.map_cons, List.map_nil, List.append_nil]; rfl
          · have ho : oddB t m = false := by
              unfold oddB evT
              simp only [List.sum_cons, List.sum_nil] at hc
              rw [decide_eq_false_iff_not]
              omega
            try simp only [↓tV_q, ↓tN3_q, ↓tC3_q, ↓cDrop_q, ↓tLM_q, ↓lmD_q, ↓appT_q, ↓Ap_getk, ↓Ap_setk, loopE_nx, onO_some, onC_q, List.getElem?_cons_zero, List.getElem?_cons_succ, List.set_cons_zero, List.set_cons_succ]
            refine ⟨by rw [List.length_map]; omega, hF2 _ _ ⟨_, rfl, ?_⟩⟩
            simp only [List.filter_append, List.map_append, List.filter_cons, ho, List.filter_nil, Bool.not_false, Bool.false_eq_true, if_true, if_false, List.map_cons, List.map_nil, List.append_nil]; rfl
        · intro s hs2 Q hQ
          obtain ⟨a0, a1⟩ := abs_at (hs s hs2).1
          try simp only [↓tV_q, ↓tK_q, ↓tO_q, ↓tN3_q, ↓tC3_q, ↓gN_q, ↓tB3_q, ↓subR_ii_q, ↓absR_i_q, ↓andR_q, ↓shrR_q, onO_some, List.getElem?_cons_zero, List.getElem?_cons_succ, List.set_cons_zero, List.set_cons_succ, e_even_ones_2]
          refine ⟨a0, ?_⟩
          rw [a1, bit_and]
          exact hQ
  · intro k hk Q hQ
    try simp only [↓tV_q, ↓tK_q, ↓tO_q, ↓gN_q, ↓shlR_q, onO_some, List.getElem?_cons_zero, List.getElem?_cons_succ, List.set_cons_zero, List.set_cons_succ, e_even_ones_1]
    refine ⟨⟨by omega, ?_⟩, ?_⟩
    · have : Builtin.Int.intBits 1 = 1 := by decide
      have := List.mem_range.mp hk
      omega
    · rw [Int.toNat_natCast, Int.one_mul]
      have : (D.int (2 ^ k)) = natD (2 ^ k) := by unfold natD; norm_cast
      rw [this]
      exact hQ
end F3
set_option maxHeartbeats 400000
/-! TD: cord rows drawn. -/
namespace F3
open PySem PySem.Spec PyProof.Rows L2
theorem Rs_getN {h g : Sto} {a n : Nat} {x : Int} {c : Cell} (hn : n ≠ a) (e : h[n]? = some c) : (Rs h a x g)[n]? = some c := by
  unfold Rs
  exact get_up (by rw [List.getElem?_set_ne (fun z => hn z.symm)]; exact e)
theorem sh_ne {h : Sto} {n a : Nat} {x : Int} {sh : List Tri} (hn : h[n]? = some (.lst (sh.map triD))) (ha : h[a]? = some (.lst [.int x])) : n ≠ a := by
  rintro rfl
  rw [ha] at hn
  injection hn with hn
  injection hn with hn
  match sh, hn with
  | [t], hn => injection hn with hn; cases hn
/-- a row of which each number is twice one from b on below 2 b, and a bit -/
def WideI (b : Int) (mask : Nat) (row : List Int) : Prop := ∀ i v, row[i]? = some v → ∃ y, 0 ≤ y ∧ y < b ∧ v = 2 * (b + y) + (bitN mask i : Int)
theorem bitN_lt (m k : Nat) : bitN m k < 2 := Nat.mod_lt _ (by decide)
theorem cnt_get {row : List Int} {s : Int} {n : Nat} (hl : row.length = n) (h1 : 1 ≤ s.natAbs) (h2 : s.natAbs ≤ n) : row[s.natAbs - 1]? = some (cnt row s) := by
  unfold cnt
  have : s.natAbs - 1 < row.length := by omega
  rw [List.getD_eq_getElem?_getD, List.getElem?_eq_getElem this]; rfl
theorem WideI.row {b : Int} {mask m : Nat} {row : List Int} {sh : List Tri} (W : WideI b mask row) (ok : ShOk sh) (hm : sh.length = 2 * m) (hl : row.length = 3 * m) (b0 : 0 < b) (b1 : b ≤ 10 ^ 60) (ev : ∀ t ∈ sh, evT mask t % 2 = 0) : RowOk sh row where
  ln := by rw [hl, show sh.length / 2 = m by omega]
  lo := by
    intro x hx
    obtain ⟨i, hi, e⟩ := List.getElem_of_mem hx
    obtain ⟨y, y0, y1, e2⟩ := W i x (by rw [List.getElem?_eq_getElem hi, e])
    have := bitN_lt mask i
    constructor
    · omega
    · have : (10 : Int) ^ 61 = 10 * 10 ^ 60 := by decide
      omega
  tr := by
    intro t ht
    have hs := ok.tri hm ht
    obtain ⟨_, a1, a2⟩ := hs t.1 (by simp)
    obtain ⟨_, c1, c2⟩ := hs t.2.1 (by simp)
    obtain ⟨_, d1, d2⟩ := hs t.2.2 (by simp)
    obtain ⟨y, y0, y1, e1⟩ := W _ _ (cnt_get hl a1 a2)
    obtain ⟨z, z0, z1, e2⟩ := W _ _ (cnt_get hl c1 c2)
    obtain ⟨u, u0, u1, e3⟩ := W _ _ (cnt_get hl d1 d2)
    have q1 := bitN_lt mask (t.1.natAbs - 1)
    have q2 := bitN_lt mask (t.2.1.natAbs - 1)
    have q3 := bitN_lt mask (t.2.2.natAbs - 1)
    have e := ev t ht
    unfold evT at e
    constructor <;> omega
def b_wide_row_1 : C3 :=
  (cIf (tT (tO eqR (tCall3 sp_sdigit (tC3 (tV 1) (tC3 (tK (.int 2)) tN3))) (tK (.int 1)))) (cAsg (tO xorR (tV 4) (tV 5)) (gN 4)) cNext)
def e_wide_row_1 : E3 :=
  (tO addR (tO mulR (tK (.int 2)) (tO addR (tV 3) (tCall3 sp_sdigit (tC3 (tV 1) (tC3 (tV 3) tN3))))) (tO andR (tO shrR (tV 4) (tV 6)) (tK (.int 1))))
def t_wide_row : C3 :=
  (cSeq (cAsg (tO addR (tK (.int 1)) (tCall3 sp_sdigit (tC3 (tV 1) (tC3 (tV 2) tN3)))) (gN 3))
    (cSeq (cAsg (tK (.int 0)) (gN 4))
    (cSeq (cFor (iSeq (tCall3 sp_even_ones (tC3 (tV 0) tN3))) (gN 5) b_wide_row_1)
    (cRet (tNew (tLc3 (iRng (tC3 (tO divR (tO mulR (tB3 lenR (tC3 (tV 0) tN3)) (tK (.int 3))) (tK (.int 2))) tN3)) (gN 6) bYes e_wide_row_1 [6]))))))

def sp_wide_row : Sp3 := spR (fun (a : Nat × Nat × Int × Int × List Tri) => [.ref a.1, .ref a.2.1, .int a.2.2.1]) (fun a h => h[a.1]? = some (.lst (a.2.2.2.2.map triD)) ∧ h[a.2.1]? = some (.lst [.int a.2.2.2.1]) ∧ ShOk a.2.2.2.2 ∧ 0 < a.2.2.1 ∧ a.2.2.1 ≤ 10 ^ 60)
  (fun a h d h' => ∃ (x : Int) (row : List Int), RowOk a.2.2.2.2 row ∧ d = .ref h.length ∧ h' = Rs h a.2.1 x [.lst (row.map .int)])
theorem mono_wide_row : MonoS sp_wide_row := mono_spR
theorem len_wide_row : ∀ ds h Q E, sp_wide_row ds h Q E → ds.length = 3 := len_spR fun _ => rfl
theorem wide_row_q {h g : Sto} {n a : Nat} {x k : Int} {sh : List Tri} {Q : DK} (ha : a < h.length) (hn : (Rs h a x g)[n]? = some (.lst (sh.map triD))) (ok : ShOk sh) (h0 : 0 < k) (h1 : k ≤ 10 ^ 60) (q : ∀ (x : Int) (row : List Int), RowOk sh row → Q (.ref (h.length + g.length)) (Rs h a x (g ++ [.lst (row.map .int)]))) : callS sp_wide_row [.ref n, .ref a, .int k] (Rs h a x g) Q :=
  ⟨(n, a, k, x, sh), rfl, ⟨hn, Rs_getA ha, ok, h0, h1⟩, by
    rintro _ _ ⟨x', row, r, rfl, rfl⟩
    have e : Rs (Rs h a x g) a x' [.lst (row.map .int)] = Rs h a x' (g ++ [.lst (row.map .int)]) := by
      show (Rs h a x g).set a _ ++ _ = _
      rw [Rs_setA ha, Rs_app]
    dsimp only
    rw [e, Rs_len]
    exact q x' row r⟩
theorem rd_wide_row : ∀ ds h Q E, ClS h.length h → ClDs h.length ds → sp_wide_row ds h Q E → t_wide_row (ends3 (GQ h.length Q)) (start3 7 ds) h := by
  rintro ds h Q E hcl _ ⟨⟨n, a, k, x, sh⟩, rfl, ⟨hn, hx, ok, h0, h1⟩, q⟩
  have hn' : h[n]? = some (.lst (sh.map triD)) := hn
  have hx' : h[a]? = some (.lst [.int x]) := hx
  have ok' : ShOk sh := ok
  have h0' : 0 < k := h0
  have h1' : k ≤ 10 ^ 60 := h1
  have ha : a < h.length := (List.getElem?_eq_some_iff.mp hx').1
  have na := sh_ne hn' hx'
  have q' : ∀ (x : Int) (row : List Int), RowOk sh row → Q (.ref h.length) (Rs h a x [.lst (row.map .int)]) := fun x row r => q _ _ ⟨x, row, r, rfl, rfl⟩
  conv => arg 3; rw [Rs_mk hx']
  have e0 : ∀ x g, (Rs h a x g)[n]? = some (.lst (sh.map triD)) := fun x g => Rs_getN na hn'
  clear q hn hx ok h0 h1
  obtain ⟨m, m1, m6, hm, em⟩ := ok'.half
  try simp only [↓tV_q, ↓tK_q, ↓tO_q, ↓tN3_q, ↓tC3_q, ↓cSeq_q, ↓cAsg_q, ↓tCall3_q, ↓start3_q, onO_some, List.getElem?_cons_zero, List.getElem?_cons_succ, List.map_cons, List.map_nil, List.cons_append, List.nil_append, List.length_cons, List.length_nil, List.replicate_succ, List.replicate_zero, Nat.reduceAdd, Nat.reduceSub, t_wide_row]
  refine sdigit_q ha h0' (Int.lt_of_le_of_lt h1' (by decide)) fun x b b0 b1 => ?_
  try simp only [↓tV_q, ↓tK_q, ↓tN3_q, ↓tC3_q, ↓cSeq_q, ↓cAsg_q, ↓gN_q, ↓cFor_q, ↓iSeq_q, ↓tCall3_q, ↓start3_q, ↓addR_ii_q, thenE_nx, onO_some, List.getElem?_cons_zero, List.set_cons_zero, List.set_cons_succ, List.map_cons, List.map_nil, List.cons_append, List.nil_append, List.length_cons, List.length_nil, List.replicate_succ, List.replicate_zero, Nat.reduceAdd, Nat.reduceSub]
  refine even_ones_q (e0 _ _) ok' fun g j ms ej lm ev => ?_
  try simp only [↓iSeqD_rq, ↓Rs_len, ↓Rs_app, ↓Rs_getk, onC_q, List.nil_append, List.length_nil, Nat.add_zero, ej]
  refine forL (f := natD) (fun l ρ h' => ∃ (x : Int) (mask : Nat) (o5 : Option D), ρ = [some (.ref n), some (.ref a), some (.int k), some (.int (1 + b)), some (.int (mask : Int)), o5, none] ∧ h' = Rs h a x g ∧ ∀ t ∈ sh, evT mask t % 2 = 0) ⟨x, 0, _, rfl, rfl, fun t _ => by simp [evT, bitN]⟩ ?_ ?_ ?_
  · rintro l ρ h' ⟨x, mask, o5, rfl, rfl, _⟩
    rw [Rs_getk]
    exact ej
  · rintro ρ h' ⟨x, mask, o5, rfl, rfl, em2⟩
    try simp only [↓tV_q, ↓tK_q, ↓tO_q, ↓tN3_q, ↓tC3_q, ↓tNew_q, ↓cRet_q, ↓iRng_q, ↓rngD_1q, ↓tLc3_q, ↓tB3_q, ↓mulR_ii_q, ↓divR_ii_q, ↓lenR_rq, thenE_nx, onO_some, onC_q, wipe3_nil, wipe3_cons, List.getElem?_cons_zero, List.set_cons_zero, List.set_cons_succ, e0, List.length_map]
    rw [em]
    refine ⟨mulOk_r (by decide), divOk_of (by decide) (by decide), ⟨by omega, by omega⟩, by simp; omega, ?_⟩
    rw [Int.toNat_natCast]
    refine lcL (f := fun (k : Nat) => D.int (k : Int)) (fun l acc h' => ∃ (x : Int) (row : List Int), acc = row.map .int ∧ row.length = l.length ∧ h' = Rs h a x g ∧ WideI (1 + b) mask row) ⟨x, [], rfl, rfl, rfl, by intro i v e; cases e⟩ (fun _ _ _ _ => trivial) ?_ ?_
    · rintro acc h' ⟨x, row, rfl, rl, rfl, W⟩
      rw [List.length_range] at rl
      try simp only [↓Rs_len, ↓Rs_app, ends3_rt]
      exact gq_Rs hcl get_new (cl_ints _) (q' x row (W.row ok' hm rl (by omega) (by omega) em2))
    · rintro l i r acc h' F e ⟨x, row, rfl, rl, rfl, W⟩ hF
      obtain ⟨ei, il⟩ := rng_at e
      try simp only [↓tV_q, ↓tK_q, ↓tO_q, ↓tN3_q, ↓tC3_q, ↓gN_q, ↓bYes_q, ↓tCall3_q, onO_some, ifC_true, List.getElem?_cons_zero, List.getElem?_cons_succ, List.set_cons_zero, List.set_cons_succ, e_wide_row_1]
      refine sdigit_q ha (by omega) (by omega) fun x y y0 y1 => ?_
      try simp only [↓tV_q, ↓tK_q, ↓tO_q, ↓addR_ii_q, ↓mulR_ii_q, ↓andR_q, ↓shrR_q, onO_some, List.getElem?_cons_zero, List.getElem?_cons_succ]
      refine ⟨mulOk_l (by decide), by omega, ?_⟩
      rw [Int.toNat_natCast, bit_and]
      refine hF _ _ ⟨_, row ++ [2 * (1 + b + y) + (bitN mask i : Int)], by rw [List.map_append]; rfl, by rw [List.length_append, List.length_append, rl]; rfl, rfl, fun p v ep => ?_⟩
      by_cases hp : p < row.length
      · rw [List.getElem?_append_left hp] at ep
        exact W p v ep
      · have pl := (List.getElem?_eq_some_iff.mp ep).1
        rw [List.length_append, List.length_singleton] at pl
        have : p = row.length := by omega
        subst this
        rw [List.getElem?_append_right (Nat.le_refl _), Nat.sub_self] at ep
        injection ep with ep
        exact ⟨y, y0, y1, by rw [← ep, rl, ← ei]⟩
  · rintro l mk r ρ h' F e ⟨x, mask, o5, rfl, rfl, em2⟩ hF
    have ml : mk ∈ ms := by rw [e]; exact List.mem_append_right _ List.mem_cons_self
    try simp only [↓tV_q, ↓tK_q, ↓tO_q, ↓tT_q, ↓tN3_q, ↓tC3_q, ↓cIf_q, ↓gN_q, ↓tCall3_q, onO_some, List.getElem?_cons_zero, List.getElem?_cons_succ, List.set_cons_zero, List.set_cons_succ, b_wide_row_1, natD]
    refine sdigit_q ha (by decide) (by decide) fun x c c0 c1 => ?_
    try simp only [↓tK_q, ↓eqR_ii_q, onB_bl]
    refine ifC_of (fun _ => ?_) (fun _ => ?_)
    · try simp only [↓tV_q, ↓tO_q, ↓cAsg_q, ↓gN_q, ↓xorR_q, loopE_nx, onO_some, List.getElem?_cons_zero, List.getElem?_cons_succ, List.set_cons_zero, List.set_cons_succ]
      rw [bitXor_nat]
      refine hF _ _ ⟨_, _, _, rfl, rfl, fun t ht => ?_⟩
      have h1 := em2 t ht
      have h2 := ev mk ml t ht
      rw [evT_xor]; omega
    · try simp only [↓cNext_q, loopE_nx]
      exact hF _ _ ⟨_, _, _, rfl, rfl, em2⟩
end F3
set_option maxHeartbeats 400000
/-! TE: cord rows drawn: rings. -/
namespace F3
open PySem PySem.Spec PyProof.Rows L2
/-- a row by what is at each end of each tie -/
def ringRow (n : Nat) (w : Th → Int) : List Int := (List.range n).map fun (k : Nat) => w (.inr (1 + (k : Int), 0)) + w (.inr (1 + (k : Int), 1))
theorem ringRow_len {n : Nat} {w : Th → Int} : (ringRow n w).length = n := by simp [ringRow]
theorem ringRow_at {n k : Nat} {w : Th → Int} (h : k < n) : (ringRow n w)[k]? = some (w (.inr (1 + (k : Int), 0)) + w (.inr (1 + (k : Int), 1))) := by
  unfold ringRow
  rw [List.getElem?_map, List.getElem?_range h]; rfl
theorem ringRow_cnt {n : Nat} {w : Th → Int} {s : Int} (h1 : 1 ≤ s.natAbs) (h2 : s.natAbs ≤ n) : cnt (ringRow n w) s = w (endT s) + w (begT s) := by
  have h3 := cnt_get (row := ringRow n w) ringRow_len h1 h2
  rw [ringRow_at (by omega)] at h3
  injection h3 with h3
  rw [← h3]
  unfold endT begT
  by_cases hs : s < 0
  · rw [if_pos hs, if_neg (show ¬ 0 < s by omega), if_pos hs, show (1 : Int) + ((s.natAbs - 1 : Nat) : Int) = -s by omega]
  · rw [if_neg hs, if_pos (show 0 < s by omega), if_neg hs, show (1 : Int) + ((s.natAbs - 1 : Nat) : Int) = s by omega]
    omega
theorem ring_put {n : Nat} {w w' : Th → Int} {i j v : Int} (i1 : 1 ≤ i) (i2 : i ≤ n) (hj : j = 0 ∨ j = 1) (hw : w' (.inr (i, j)) = w (.inr (i, j)) + v) (ho : ∀ y, y ≠ .inr (i, j) → w' y = w y) :
    (ringRow n w).set (i - 1).toNat (w (.inr (i, 0)) + w (.inr (i, 1)) + v) = ringRow n w' := by
  apply List.ext_getElem?
  intro p
  by_cases hp : p < n
  · rw [ringRow_at hp]
    by_cases he : (i - 1).toNat = p
    · rw [he, List.getElem?_set_self (by rw [ringRow_len]; exact hp), show (1 : Int) + (p : Int) = i by omega]
      congr 1
      rcases hj with rfl | rfl
      · rw [hw, ho (.inr (i, 1)) (by intro h; injection h with h; injection h with _ h; cases h)]; omega
      · rw [hw, ho (.inr (i, 0)) (by intro h; injection h with h; injection h with _ h; cases h)]; omega
    · rw [List.getElem?_set_ne he, ringRow_at hp]
      have ne : ∀ c : Int, (Sum.inr (1 + (p : Int), c) : Th) ≠ .inr (i, j) := by
        intro c h
        injection h with h
        injection h with h _
        omega
      rw [ho _ (ne 0), ho _ (ne 1)]
  · have l1 : (ringRow n w).length ≤ p := by rw [ringRow_len]; omega
    rw [List.getElem?_eq_none (by rw [List.length_set]; exact l1), List.getElem?_eq_none (by rw [ringRow_len]; omega)]
/-- numbers at ends, one and the same at all of a heap -/
structure RingW (k : Int) (l : List (List Th)) (w : Th → Int) : Prop where
  like : ∀ H ∈ l, ∀ x ∈ H, ∀ y ∈ H, w x = w y
  out : ∀ y, (∀ H ∈ l, y ∉ H) → w y = 0
  lo : ∀ y, 0 ≤ w y ∧ w y < k
theorem RingW.row {k : Int} {w : Th → Int} {m : Nat} {sh : List Tri} {hs l : List (List Th)} (R : RingW k l w) (ok : ShOk sh) (hm : sh.length = 2 * m) (hk : k ≤ 10 ^ 60) (P : Part (endsE (3 * m)) (prsS sh) hs) (hl : ∀ H ∈ hs, ∃ K ∈ l, ∀ x ∈ H, x ∈ K) : RowOk sh (ringRow (3 * m) w) where
  ln := by rw [ringRow_len, show sh.length / 2 = m by omega]
  lo := by
    intro x hx
    obtain ⟨i, _, rfl⟩ := List.mem_map.mp hx
    have h1 := R.lo (.inr (1 + (i : Int), 0))
    have h2 := R.lo (.inr (1 + (i : Int), 1))
    have : (10 : Int) ^ 61 = 10 * 10 ^ 60 := by decide
    omega
  tr := by
    intro t ht
    have hs' := ok.tri hm ht
    obtain ⟨_, a1, a2⟩ := hs' t.1 (by simp)
    obtain ⟨_, c1, c2⟩ := hs' t.2.1 (by simp)
    obtain ⟨_, d1, d2⟩ := hs' t.2.2 (by simp)
    have same : ∀ p ∈ trPrs t, w p.1 = w p.2 := by
      intro p hp
      have hp : p ∈ prsS sh := List.mem_flatMap.mpr ⟨t, ht, hp⟩
      obtain ⟨e1, _⟩ := prsS_mem ok hm p hp
      obtain ⟨H, hH, h1⟩ := List.mem_flatten.mp (P.fl.mem_iff.mpr e1)
      have h2 := P.cl H hH p.1 h1 p.2 ((Ln.refl _).fw hp)
      obtain ⟨K, hK, sub⟩ := hl H hH
      exact R.like K hK _ (sub _ h1) _ (sub _ h2)
    have s1 := same (endT t.1, begT t.2.1) (by simp [trPrs])
    have s2 := same (endT t.2.1, begT t.2.2) (by simp [trPrs])
    have s3 := same (endT t.2.2, begT t.1) (by simp [trPrs])
    have l1 := R.lo (endT t.1)
    have l2 := R.lo (endT t.2.1)
    have l3 := R.lo (endT t.2.2)
    dsimp only at s1 s2 s3
    constructor <;> rw [ringRow_cnt a1 a2, ringRow_cnt c1 c2, ringRow_cnt d1 d2] <;> omega
/-- the number v at some things -/
def wIn (w : Th → Int) (l : List Th) (v : Int) : Th → Int := fun y => if isIn y l = true then v else w y
theorem RingW.next {k v : Int} {w : Th → Int} {l : List (List Th)} {H : List Th} (R : RingW k l w) (v0 : 0 ≤ v) (v1 : v < k) (dj : ∀ K ∈ l, ∀ x ∈ K, x ∉ H) : RingW k (l ++ [H]) (wIn w H v) where
  like := by
    intro K hK x hx y hy
    unfold wIn
    rcases List.mem_append.mp hK with h | h
    · have n1 : ¬ isIn x H = true := fun h' => dj K h x hx (isIn_iff.mp h')
      have n2 : ¬ isIn y H = true := fun h' => dj K h y hy (isIn_iff.mp h')
      rw [if_neg n1, if_neg n2]
      exact R.like K h x hx y hy
    · rw [List.mem_singleton.mp h] at hx hy
      rw [if_pos (isIn_iff.mpr hx), if_pos (isIn_iff.mpr hy)]
  out := by
    intro y hy
    unfold wIn
    rw [if_neg fun h => hy H (List.mem_append_right _ List.mem_cons_self) (isIn_iff.mp h)]
    exact R.out y fun K hK => hy K (List.mem_append_left _ hK)
  lo := by
    intro y
    unfold wIn
    split
    · exact ⟨v0, v1⟩
    · exact R.lo y
theorem wIn_nil {w : Th → Int} {v : Int} : wIn w [] v = w := by
  funext y
  unfold wIn
  rw [if_neg fun h => by have := isIn_iff.mp h; cases this]
end F3
set_option maxHeartbeats 400000
/-! TF: rings drawn (walk). -/
namespace F3
open PySem PySem.Spec PyProof.Rows L2
theorem Rs_tail {h g : Sto} {a n : Nat} {x y : Int} {c d : Cell} (hn : h.length < n) : (Rs h a x (c :: g))[n]? = (Rs h a y (d :: g))[n]? := by
  obtain ⟨p, rfl⟩ : ∃ p, n = h.length + (p + 1) := ⟨n - h.length - 1, by omega⟩
  rw [Rs_getk, Rs_getk]; rfl
theorem ixN_in {n : Nat} {i : Int} (h0 : 0 ≤ i) (h1 : i < n) : ixN n i = some i.toNat := by
  unfold ixN
  rw [if_pos h0, if_pos h1]
theorem atT_int {ns : List Int} {i x : Int} {q : D → Prop} (h0 : 0 ≤ i) (e : ns[i.toNat]? = some x) : atT (ns.map .int) i q = q (.int x) := by
  have hl := (List.getElem?_eq_some_iff.mp e).1
  rw [atT_of (d := .int x)]
  rw [atI_map, atI_get h0 (by omega), e]; rfl
theorem set_ints {ns : List Int} {i : Nat} {x : Int} : (ns.map D.int).set i (.int x) = (ns.set i x).map .int := by rw [List.map_set]
def e_rings_1 : E3 :=
  (tK (.int 0))
def b_rings_2 : C3 :=
  (cAsg (tO addR (tO ixR (tV 3) (tO subR (tV 6) (tK (.int 1)))) (tV 5)) (gSub3 (tV 3) (tO subR (tV 6) (tK (.int 1)))))
def b_rings_1 : C3 :=
  (cSeq (cAsg (tCall3 sp_sdigit (tC3 (tV 1) (tC3 (tV 2) tN3))) (gN 5))
    (cFor (iSeq (tV 4)) (gTup3 2 (gCons3 (gN 6) (gCons3 (gN 7) gNil3))) b_rings_2))
def t_rings : C3 :=
  (cSeq (cAsg (tNew (tLc3 (iRng (tC3 (tO divR (tO mulR (tB3 lenR (tC3 (tV 0) tN3)) (tK (.int 3))) (tK (.int 2))) tN3)) (gN 8) bYes e_rings_1 [8])) (gN 3))
    (cSeq (cFor (iSeq (tCall3 sp_lpoints (tC3 (tV 0) tN3))) (gN 4) b_rings_1)
    (cRet (tV 3))))

def sp_rings : Sp3 := spR (fun (a : Nat × Nat × Int × Int × List Tri) => [.ref a.1, .ref a.2.1, .int a.2.2.1]) (fun a h => h[a.1]? = some (.lst (a.2.2.2.2.map triD)) ∧ h[a.2.1]? = some (.lst [.int a.2.2.2.1]) ∧ ShOk a.2.2.2.2 ∧ 0 < a.2.2.1 ∧ a.2.2.1 ≤ 10 ^ 60)
  (fun a h d h' => ∃ (x : Int) (row : List Int), RowOk a.2.2.2.2 row ∧ d = .ref h.length ∧ h' = Rs h a.2.1 x [.lst (row.map .int)])
theorem mono_rings : MonoS sp_rings := mono_spR
theorem len_rings : ∀ ds h Q E, sp_rings ds h Q E → ds.length = 3 := len_spR fun _ => rfl
theorem rings_q {h g : Sto} {n a : Nat} {x k : Int} {sh : List Tri} {Q : DK} (ha : a < h.length) (hn : (Rs h a x g)[n]? = some (.lst (sh.map triD))) (ok : ShOk sh) (h0 : 0 < k) (h1 : k ≤ 10 ^ 60) (q : ∀ (x : Int) (row : List Int), RowOk sh row → Q (.ref (h.length + g.length)) (Rs h a x (g ++ [.lst (row.map .int)]))) : callS sp_rings [.ref n, .ref a, .int k] (Rs h a x g) Q :=
  ⟨(n, a, k, x, sh), rfl, ⟨hn, Rs_getA ha, ok, h0, h1⟩, by
    rintro _ _ ⟨x', row, r, rfl, rfl⟩
    have e : Rs (Rs h a x g) a x' [.lst (row.map .int)] = Rs h a x' (g ++ [.lst (row.map .int)]) := by
      show (Rs h a x g).set a _ ++ _ = _
      rw [Rs_setA ha, Rs_app]
    dsimp only
    rw [e, Rs_len]
    exact q x' row r⟩
theorem rd_rings : ∀ ds h Q E, ClS h.length h → ClDs h.length ds → sp_rings ds h Q E → t_rings (ends3 (GQ h.length Q)) (start3 9 ds) h := by
  rintro ds h Q E hcl _ ⟨⟨n, a, k, x, sh⟩, rfl, ⟨hn, hx, ok, h0, h1⟩, q⟩
  have hn' : h[n]? = some (.lst (sh.map triD)) := hn
  have hx' : h[a]? = some (.lst [.int x]) := hx
  have ok' : ShOk sh := ok
  have h0' : 0 < k := h0
  have h1' : k ≤ 10 ^ 60 := h1
  have ha : a < h.length := (List.getElem?_eq_some_iff.mp hx').1
  have na := sh_ne hn' hx'
  have q' : ∀ (x : Int) (row : List Int), RowOk sh row → Q (.ref h.length) (Rs h a x [.lst (row.map .int)]) := fun x row r => q _ _ ⟨x, row, r, rfl, rfl⟩
  conv => arg 3; rw [Rs_mk hx']
  have e0 : ∀ x g, (Rs h a x g)[n]? = some (.lst (sh.map triD)) := fun x g => Rs_getN na hn'
  clear q hn hx ok h0 h1
  obtain ⟨m, m1, m6, hm, em⟩ := ok'.half
  try simp only [↓tV_q, ↓tK_q, ↓tO_q, ↓tN3_q, ↓tC3_q, ↓tNew_q, ↓cSeq_q, ↓cAsg_q, ↓iRng_q, ↓rngD_1q, ↓tLc3_q, ↓tB3_q, ↓start3_q, ↓mulR_ii_q, ↓divR_ii_q, ↓lenR_rq, onO_some, onC_q, wipe3_nil, wipe3_cons, List.getElem?_cons_zero, List.set_cons_zero, List.set_cons_succ, List.map_cons, List.map_nil, List.cons_append, List.nil_append, List.length_cons, List.length_nil, List.replicate_succ, List.replicate_zero, Nat.reduceAdd, Nat.reduceSub, t_rings, e0, List.length_map]
  rw [em]
  refine ⟨mulOk_r (by decide), divOk_of (by decide) (by decide), ⟨by omega, by omega⟩, by simp; omega, ?_⟩
  rw [Int.toNat_natCast]
  refine lcMap (f := fun (k : Nat) => D.int (k : Int)) (r := fun _ => D.int 0) trivial ?_ ?_
  · try simp only [↓tV_q, ↓tN3_q, ↓tC3_q, ↓cSeq_q, ↓gN_q, ↓cFor_q, ↓iSeq_q, ↓tCall3_q, ↓start3_q, ↓Rs_len, ↓Rs_app, thenE_nx, onO_some, List.getElem?_cons_zero, List.set_cons_zero, List.set_cons_succ, List.map_cons, List.map_nil, List.cons_append, List.nil_append, List.length_cons, List.length_nil, List.replicate_succ, List.replicate_zero, Nat.reduceAdd, Nat.reduceSub, Nat.add_zero]
    refine lpoints_q (e0 _ _) ok' fun g kz zs hs hz ho P es => ?_
    rw [show sh.length / 2 = m by omega] at P
    rw [Rs_app, List.cons_append, List.nil_append] at hz ⊢
    rw [show (List.range (3 * m)).map (fun (_ : Nat) => D.int 0) = (ringRow (3 * m) fun _ => 0).map .int by unfold ringRow; rw [List.map_map]; rfl] at hz ⊢
    have lo : ∀ z ∈ zs, h.length < z.1 := fun z hz => by have := (ho.lo z hz).1; rw [Rs_len] at this; simp at this; omega
    have kl : h.length < kz := by have := ho.at_; rw [Rs_len] at this; simp at this; omega
    have fl : (zs.map Prod.snd).flatten.Nodup := by
      rw [es]
      exact sortHH_flat.nodup_iff.mpr (P.nodup (endsE_nd _))
    have inE : ∀ z ∈ zs, ∀ y ∈ z.2, y ∈ endsE (3 * m) := fun z hz y hy => P.fl.mem_iff.mp (sortHH_flat.mem_iff.mp (by rw [← es]; exact List.mem_flatten.mpr ⟨z.2, List.mem_map.mpr ⟨z, hz, rfl⟩, hy⟩))
    have hl : ∀ H ∈ hs, ∃ K ∈ zs.map Prod.snd, ∀ y ∈ H, y ∈ K := fun H hH => by
      obtain ⟨S, h1, h2⟩ := in_sortHH hH
      exact ⟨S, by rw [es]; exact h1, fun y hy => h2.mem_iff.mpr hy⟩
    try simp only [↓iSeqD_rq, onC_q, hz.1]
    refine forL (f := refD) (fun l ρ h' => ∃ (x : Int) (w : Th → Int) (o4 o5 o6 o7 : Option D), ρ = [some (.ref n), some (.ref a), some (.int k), some (.ref h.length), o4, o5, o6, o7, none] ∧ h' = Rs h a x (.lst ((ringRow (3 * m) w).map .int) :: g) ∧ RingW k (l.map Prod.snd) w) ⟨x, fun _ => 0, _, _, _, _, rfl, rfl, ⟨(by intro H hH; cases hH), fun _ _ => rfl, fun _ => ⟨Int.le_refl _, h0'⟩⟩⟩ ?_ ?_ ?_
    · rintro l ρ h' ⟨x', w, o4, o5, o6, o7, rfl, rfl, _⟩
      rw [Rs_tail kl]
      exact hz.1
    · rintro ρ h' ⟨x', w, o4, o5, o6, o7, rfl, rfl, R⟩
      try simp only [↓tV_q, ↓cRet_q, thenE_nx, ends3_rt, onO_some, List.getElem?_cons_zero, List.getElem?_cons_succ]
      have := gq_Rs (n := 0) (g := .lst ((ringRow (3 * m) w).map .int) :: g) hcl rfl (cl_ints _) (q' x' _ (R.row ok' hm h1' P hl))
      exact this
    · rintro l z r ρ h' F e ⟨x', w, o4, o5, o6, o7, rfl, rfl, R⟩ hF
      have zm : z ∈ zs := by rw [e]; exact List.mem_append_right _ List.mem_cons_self
      have ez : ∀ (y : Int) (c : Cell), (Rs h a y (c :: g))[z.1]? = some (.lst (z.2.map thD)) := fun y c => (Rs_tail (lo z zm)).trans (hz.2 z zm)
      have dj : ∀ K ∈ l.map Prod.snd, ∀ y ∈ K, y ∉ z.2 := by
        intro K hK y hy hz2
        have f2 := fl
        rw [e, List.map_append, List.map_cons, List.flatten_append, List.flatten_cons, List.nodup_append] at f2
        exact f2.2.2 y (List.mem_flatten.mpr ⟨K, hK, hy⟩) y (List.mem_append_left _ hz2) rfl
      have nd2 : z.2.Nodup := flat_nd fl z.2 (List.mem_map.mpr ⟨z, zm, rfl⟩)
      have w0 : ∀ y ∈ z.2, w y = 0 := fun y hy => R.out y fun K hK hyK => dj K hK y hyK hy
      try simp only [↓tV_q, ↓tN3_q, ↓tC3_q, ↓cSeq_q, ↓cAsg_q, ↓gN_q, ↓tCall3_q, onO_some, List.getElem?_cons_zero, List.getElem?_cons_succ, List.set_cons_zero, List.set_cons_succ, b_rings_1]
      refine sdigit_q ha h0' (Int.lt_of_le_of_lt h1' (by decide)) fun x2 v v0 v1 => ?_
      try simp only [↓tV_q, ↓gN_q, ↓cFor_q, ↓iSeq_q, ↓iSeqD_rq, thenE_nx, onO_some, onC_q, List.getElem?_cons_zero, List.getElem?_cons_succ, List.set_cons_zero, List.set_cons_succ, refD, ez]
      refine forL (f := thD) (fun l2 ρ h' => ∃ (o6 o7 : Option D), ρ = [some (.ref n), some (.ref a), some (.int k), some (.ref h.length), some (.ref z.1), some (.int v), o6, o7, none] ∧ h' = Rs h a x2 (.lst ((ringRow (3 * m) (wIn w l2 v)).map .int) :: g)) ⟨_, _, rfl, by rw [wIn_nil]⟩ ?_ ?_ ?_
      · rintro l2 ρ h' ⟨o6, o7, rfl, rfl⟩
        exact ez _ _
      · rintro ρ h' ⟨o6, o7, rfl, rfl⟩
        refine hF _ _ ⟨_, _, _, _, _, _, rfl, rfl, ?_⟩
        rw [List.map_append, List.map_singleton]
        exact R.next v0 v1 dj
      · rintro l2 y r2 ρ h' F2 e2 ⟨o6, o7, rfl, rfl⟩ hF2
        have ym : y ∈ z.2 := by rw [e2]; exact List.mem_append_right _ List.mem_cons_self
        have yE := inE z zm y ym
        have yn : y ∉ l2 := by
          intro h
          rw [e2, List.nodup_append] at nd2
          exact nd2.2.2 y h y List.mem_cons_self rfl
        obtain ⟨p, hp, hy⟩ := List.mem_flatMap.mp yE
        have hp := List.mem_range.mp hp
        obtain ⟨i, j, rfl, i1, i2, hj⟩ : ∃ i j : Int, y = .inr (i, j) ∧ 1 ≤ i ∧ i ≤ (3 * m : Nat) ∧ (j = 0 ∨ j = 1) := by
          simp only [List.mem_cons, List.not_mem_nil, or_false] at hy
          rcases hy with rfl | rfl
          · exact ⟨_, _, rfl, by omega, by omega, .inl rfl⟩
          · exact ⟨_, _, rfl, by omega, by omega, .inr rfl⟩
        have i3 : (i - 1).toNat < 3 * m := by omega
        have er := ringRow_at (w := wIn w l2 v) i3
        rw [show (1 : Int) + ((i - 1).toNat : Int) = i by omega] at er
        try simp only [↓tV_q, ↓tK_q, ↓tO_q, ↓cAsg_q, ↓gN_q, ↓gNil3_q, ↓gCons3_q, ↓gTup3_q, ↓subR_ii_q, ↓ixR_rq, ↓Rs_get0, onO_some, onC_q, List.getElem?_cons_zero, List.getElem?_cons_succ, List.set_cons_zero, List.set_cons_succ, List.length_cons, List.length_nil, Nat.reduceAdd, true_and, b_rings_2, thD]
        rw [atT_int (by omega) er]
        try simp only [↓tV_q, ↓tK_q, ↓tO_q, ↓gSub3_q, ↓setR_q, ↓addR_ii_q, ↓subR_ii_q, ↓Rs_get0, onO_some, onC_q, List.getElem?_cons_zero, List.getElem?_cons_succ]
        rw [List.length_map, ringRow_len, ixN_in (by omega) (by omega)]
        try simp only [↓Rs_set0, loopE_nx, onN_q, List.set_cons_zero]
        rw [set_ints, ring_put (w' := wIn w (l2 ++ [.inr (i, j)]) v) i1 i2 hj]
        · exact hF2 _ _ ⟨_, _, rfl, rfl⟩
        · unfold wIn
          rw [if_pos (isIn_iff.mpr (List.mem_append_right _ List.mem_cons_self)), if_neg fun h => yn (isIn_iff.mp h), w0 _ ym]
          omega
        · intro u hu
          unfold wIn
          by_cases h : u ∈ l2
          · rw [if_pos (isIn_iff.mpr h), if_pos (isIn_iff.mpr (List.mem_append_left _ h))]
          · rw [if_neg fun z => h (isIn_iff.mp z), if_neg fun z => by
              rcases List.mem_append.mp (isIn_iff.mp z) with h' | h'
              · exact h h'
              · exact hu (List.mem_singleton.mp h')]
  · intro i _ Q hQ
    try simp only [↓tK_q, ↓gN_q, e_rings_1]
    exact hQ
end F3
set_option maxHeartbeats 400000
/-! TG: cord rows (program): arcs and rows of arcs. -/
namespace F3
open PySem PySem.Spec PyProof.Rows L2
def SidesIn (n : Nat) (t : Tri) : Prop := ∀ s ∈ [t.1, t.2.1, t.2.2], 1 ≤ s.natAbs ∧ s.natAbs ≤ n
theorem ShOk.sidesIn {sh : List Tri} (h : ShOk sh) {m : Nat} (hm : sh.length = 2 * m) {t : Tri} (ht : t ∈ sh) : SidesIn (3 * m) t := fun s hs => (h.tri hm ht s hs).2
theorem side_get {row : List Int} {s : Int} {q : D → Prop} (h1 : 1 ≤ s.natAbs) (h2 : s.natAbs ≤ row.length) : atT (row.map .int) ((if s < 0 then -s else s) - 1) q = q (.int (cnt row s)) := by
  have hs : s ≠ 0 := by omega
  obtain ⟨a0, a1⟩ := abs_at hs
  rw [atT_int a0 (x := cnt row s)]
  rw [a1]
  exact cnt_get rfl h1 h2
def e_sides_counts_1 : E3 :=
  (tO ixR (tV 0) (tO subR (tB3 absR (tC3 (tV 2) tN3)) (tK (.int 1))))
def t_sides_counts : C3 :=
  (cRet (tNew (tLc3 (iSeq (tV 1)) (gN 2) bYes e_sides_counts_1 [2])))

def sp_sides_counts : Sp3 := spD (fun (a__ : Nat × List Int × Tri) => match a__ with | (r, row, t) => [.ref r, triD t]) (fun (a__ : Nat × List Int × Tri) (h : Sto) => match a__ with | (r, row, t) => h[r]? = some (.lst (row.map .int)) ∧ SidesIn row.length t) (fun (a__ : Nat × List Int × Tri) (h : Sto) => match a__ with | (r, row, t) => .ref h.length) (fun (a__ : Nat × List Int × Tri) (h : Sto) => match a__ with | (r, row, t) => h ++ [.lst [.int (cnt row t.1), .int (cnt row t.2.1), .int (cnt row t.2.2)]])
theorem mono_sides_counts : MonoS sp_sides_counts := mono_spD
theorem len_sides_counts : ∀ ds h Q E, sp_sides_counts ds h Q E → ds.length = 2 := len_spD fun _ => rfl
theorem sides_counts_q {r : Nat} {row : List Int} {t : Tri} {h : Sto} {Q : DK} (hp : h[r]? = some (.lst (row.map .int)) ∧ SidesIn row.length t) (q : Q (.ref h.length) (h ++ [.lst [.int (cnt row t.1), .int (cnt row t.2.1), .int (cnt row t.2.2)]])) : callS sp_sides_counts [.ref r, triD t] h Q := ⟨(r, row, t), rfl, hp, q⟩
theorem rd_sides_counts : ∀ ds h Q E, ClS h.length h → ClDs h.length ds → sp_sides_counts ds h Q E → t_sides_counts (ends3 (GQ h.length Q)) (start3 3 ds) h := by
  rintro ds h Q E hcl _ ⟨⟨r, row, t⟩, rfl, hp0, q0⟩
  have hp : h[r]? = some (.lst (row.map .int)) ∧ SidesIn row.length t := hp0
  have q : Q (.ref h.length) (h ++ [.lst [.int (cnt row t.1), .int (cnt row t.2.1), .int (cnt row t.2.2)]]) := q0
  clear hp0 q0
  obtain ⟨hr, ok⟩ := hp
  try simp only [↓tV_q, ↓tNew_q, ↓cRet_q, ↓iSeq_q, ↓iSeqD_tq, ↓tLc3_q, ↓start3_q, onO_some, wipe3_nil, wipe3_cons, List.getElem?_cons_zero, List.getElem?_cons_succ, List.set_cons_zero, List.set_cons_succ, List.map_cons, List.map_nil, List.cons_append, List.nil_append, List.length_cons, List.length_nil, List.replicate_succ, List.replicate_zero, Nat.reduceAdd, Nat.reduceSub, Nat.reduceLeDiff, true_and, t_sides_counts, triD]
  refine lcMap (f := fun s => D.int s) (xs := [t.1, t.2.1, t.2.2]) (r := fun s => D.int (cnt row s)) trivial ?_ ?_
  · exact .inl q
  · intro s hs Q hQ
    obtain ⟨s1, s2⟩ := ok s hs
    try simp only [↓tV_q, ↓tK_q, ↓tO_q, ↓tN3_q, ↓tC3_q, ↓gN_q, ↓tB3_q, ↓subR_ii_q, ↓ixR_rq, ↓absR_i_q, onO_some, onC_q, List.getElem?_cons_zero, List.getElem?_cons_succ, List.set_cons_zero, List.set_cons_succ, e_sides_counts_1, hr]
    rw [side_get s1 s2]
    exact hQ
/-- the arcs at a triangle's corners -/
def cArc (row : List Int) (t : Tri) : Tri := ((cnt row t.1 + cnt row t.2.1 - cnt row t.2.2) / 2, (cnt row t.2.1 + cnt row t.2.2 - cnt row t.1) / 2, (cnt row t.2.2 + cnt row t.1 - cnt row t.2.1) / 2)
def t_corner_arcs : C3 :=
  (cSeq (cAsg (tCall3 sp_sides_counts (tC3 (tV 0) (tC3 (tV 1) tN3))) (gLst3 3 (gCons3 (gN 2) (gCons3 (gN 3) (gCons3 (gN 4) gNil3)))))
    (cRet (tTup3 (tC3 (tO divR (tO subR (tO addR (tV 2) (tV 3)) (tV 4)) (tK (.int 2))) (tC3 (tO divR (tO subR (tO addR (tV 3) (tV 4)) (tV 2)) (tK (.int 2))) (tC3 (tO divR (tO subR (tO addR (tV 4) (tV 2)) (tV 3)) (tK (.int 2))) tN3))))))

def sp_corner_arcs : Sp3 := spD (fun (a__ : Nat × List Int × Tri) => match a__ with | (r, row, t) => [.ref r, triD t]) (fun (a__ : Nat × List Int × Tri) (h : Sto) => match a__ with | (r, row, t) => h[r]? = some (.lst (row.map .int)) ∧ SidesIn row.length t) (fun (a__ : Nat × List Int × Tri) (h : Sto) => match a__ with | (r, row, t) => triD (cArc row t)) (fun (a__ : Nat × List Int × Tri) (h : Sto) => match a__ with | (r, row, t) => h)
theorem mono_corner_arcs : MonoS sp_corner_arcs := mono_spD
theorem len_corner_arcs : ∀ ds h Q E, sp_corner_arcs ds h Q E → ds.length = 2 := len_spD fun _ => rfl
theorem corner_arcs_q {r : Nat} {row : List Int} {t : Tri} {h : Sto} {Q : DK} (hp : h[r]? = some (.lst (row.map .int)) ∧ SidesIn row.length t) (q : Q (triD (cArc row t)) (h)) : callS sp_corner_arcs [.ref r, triD t] h Q := ⟨(r, row, t), rfl, hp, q⟩
theorem cl_triD {n : Nat} {t : Tri} : ClD n (triD t) := by simp [triD, ClD, ClDs]
theorem rd_corner_arcs : ∀ ds h Q E, ClS h.length h → ClDs h.length ds → sp_corner_arcs ds h Q E → t_corner_arcs (ends3 (GQ h.length Q)) (start3 5 ds) h := by
  rintro ds h Q E hcl _ ⟨⟨r, row, t⟩, rfl, hp0, q0⟩
  have hp : h[r]? = some (.lst (row.map .int)) ∧ SidesIn row.length t := hp0
  have q : Q (triD (cArc row t)) (h) := q0
  clear hp0 q0
  obtain ⟨hr, ok⟩ := hp
  try simp only [↓tV_q, ↓tN3_q, ↓tC3_q, ↓cSeq_q, ↓cAsg_q, ↓tCall3_q, ↓start3_q, onO_some, List.getElem?_cons_zero, List.getElem?_cons_succ, List.map_cons, List.map_nil, List.cons_append, List.nil_append, List.length_cons, List.length_nil, List.replicate_succ, List.replicate_zero, Nat.reduceAdd, Nat.reduceSub, t_corner_arcs]
  refine sides_counts_q ⟨hr, ok⟩ ?_
  try simp only [↓tV_q, ↓tK_q, ↓tO_q, ↓tN3_q, ↓tC3_q, ↓tTup3_q, ↓cRet_q, ↓gN_q, ↓gNil3_q, ↓gCons3_q, ↓start3_q, ↓addR_ii_q, ↓subR_ii_q, ↓divR_ii_q, ↓gLst3_q, thenE_nx, ends3_rt, onO_some, onC_q, List.getElem?_cons_zero, List.getElem?_cons_succ, List.set_cons_zero, List.set_cons_succ, List.map_cons, List.map_nil, List.cons_append, List.nil_append, List.length_cons, List.length_nil, List.replicate_succ, List.replicate_zero, Nat.reduceAdd, Nat.reduceSub, true_and, get_new]
  refine ⟨divOk_of (by decide) (by decide), divOk_of (by decide) (by decide), divOk_of (by decide) (by decide), gq_tail rfl (cl_triD (t := cArc row t)) hcl q⟩
def e_arcs_1 : E3 :=
  (tCall3 sp_corner_arcs (tC3 (tV 1) (tC3 (tV 2) tN3)))
def t_arcs : C3 :=
  (cRet (tNew (tLc3 (iSeq (tV 0)) (gN 2) bYes e_arcs_1 [2])))

def sp_arcs : Sp3 := spD (fun (a__ : Nat × Nat × List Tri × List Int) => match a__ with | (n, r, sh, row) => [.ref n, .ref r]) (fun (a__ : Nat × Nat × List Tri × List Int) (h : Sto) => match a__ with | (n, r, sh, row) => h[n]? = some (.lst (sh.map triD)) ∧ h[r]? = some (.lst (row.map .int)) ∧ sh.length ≤ 100 ∧ ∀ t ∈ sh, SidesIn row.length t) (fun (a__ : Nat × Nat × List Tri × List Int) (h : Sto) => match a__ with | (n, r, sh, row) => .ref h.length) (fun (a__ : Nat × Nat × List Tri × List Int) (h : Sto) => match a__ with | (n, r, sh, row) => h ++ [.lst ((sh.map (cArc row)).map triD)])
theorem mono_arcs : MonoS sp_arcs := mono_spD
theorem len_arcs : ∀ ds h Q E, sp_arcs ds h Q E → ds.length = 2 := len_spD fun _ => rfl
theorem arcs_q {n : Nat} {r : Nat} {sh : List Tri} {row : List Int} {h : Sto} {Q : DK} (hp : h[n]? = some (.lst (sh.map triD)) ∧ h[r]? = some (.lst (row.map .int)) ∧ sh.length ≤ 100 ∧ ∀ t ∈ sh, SidesIn row.length t) (q : Q (.ref h.length) (h ++ [.lst ((sh.map (cArc row)).map triD)])) : callS sp_arcs [.ref n, .ref r] h Q := ⟨(n, r, sh, row), rfl, hp, q⟩
theorem rd_arcs : ∀ ds h Q E, ClS h.length h → ClDs h.length ds → sp_arcs ds h Q E → t_arcs (ends3 (GQ h.length Q)) (start3 3 ds) h := by
  rintro ds h Q E hcl _ ⟨⟨n, r, sh, row⟩, rfl, hp0, q0⟩
  have hp : h[n]? = some (.lst (sh.map triD)) ∧ h[r]? = some (.lst (row.map .int)) ∧ sh.length ≤ 100 ∧ ∀ t ∈ sh, SidesIn row.length t := hp0
  have q : Q (.ref h.length) (h ++ [.lst ((sh.map (cArc row)).map triD)]) := q0
  clear hp0 q0
  obtain ⟨hn, hr, hl, ok⟩ := hp
  try simp only [↓tV_q, ↓tNew_q, ↓cRet_q, ↓iSeq_q, ↓iSeqD_rq, ↓tLc3_q, ↓start3_q, onO_some, onC_q, wipe3_nil, wipe3_cons, List.getElem?_cons_zero, List.set_cons_zero, List.set_cons_succ, List.map_cons, List.map_nil, List.cons_append, List.nil_append, List.length_cons, List.length_nil, List.replicate_succ, List.replicate_zero, Nat.reduceAdd, Nat.reduceSub, t_arcs, hn]
  refine ⟨by rw [List.length_map]; omega, ?_⟩
  refine lcMap (f := triD) (r := fun t => triD (cArc row t)) hn ?_ ?_
  · rw [List.map_map] at q
    exact .inl q
  · intro t ht Q hQ
    try simp only [↓tV_q, ↓tN3_q, ↓tC3_q, ↓gN_q, ↓tCall3_q, onO_some, List.getElem?_cons_zero, List.getElem?_cons_succ, List.set_cons_zero, List.set_cons_succ, e_arcs_1]
    exact corner_arcs_q ⟨hr, ok t ht⟩ hQ
/-! ### rows of arcs -/
def cE (row : List Int) (k : Int) : Key × D := (Sum.inl k, .int (cnt row k))
theorem val_cE {row : List Int} {k : Int} : ∀ {ks : List Int}, valD (ks.map (cE row)) (.inl k) = if k ∈ ks then some (.int (cnt row k)) else none
  | [] => rfl
  | j :: ks => by
    have ih := val_cE (row := row) (k := k) (ks := ks)
    unfold valD at ih ⊢
    rw [List.map_cons, List.find?_cons]
    by_cases h : j = k
    · subst h; simp [cE]
    · have h1 : ¬ (cE row j).1 = .inl k := fun z => h (by injection z)
      have h2 : ¬ k = j := fun z => h z.symm
      simp only [h1, decide_false]
      rw [ih]
      simp [h2]
theorem put_cE {row : List Int} {k : Int} {ks : List Int} (h : k ∉ ks) : putD (ks.map (cE row)) (.inl k) (.int (cnt row k)) = (ks ++ [k]).map (cE row) := by
  unfold putD
  rw [if_neg]
  · rw [List.map_append]; rfl
  · simp only [List.any_map, List.any_eq_true, Function.comp]
    rintro ⟨j, hj, h2⟩
    have h2 := of_decide_eq_true h2
    exact h (by injection h2 with h2; exact h2 ▸ hj)
theorem arc_sum {row : List Int} {t : Tri} (T : TriOk row t) : (cArc row t).1 + (cArc row t).2.2 = cnt row t.1 ∧ (cArc row t).2.1 + (cArc row t).1 = cnt row t.2.1 ∧ (cArc row t).2.2 + (cArc row t).2.1 = cnt row t.2.2 := by
  have := T.ev
  unfold cArc
  refine ⟨?_, ?_, ?_⟩ <;> dsimp only <;> omega
theorem cnt_abs {row : List Int} {s : Int} : cnt row (ab s) = cnt row s := by
  unfold cnt ab
  congr 2
  split <;> omega
/-- what a dict of numbers by ties holds after some sides -/
structure TieI (ss : List Int) (ks : List Int) : Prop where
  nd : ks.Nodup
  to : ∀ k ∈ ks, ∃ s ∈ ss, k = ab s
  fr : ∀ s ∈ ss, ab s ∈ ks
  ln : ks.length ≤ ss.length
theorem TieI.nil : TieI [] [] := ⟨List.nodup_nil, by simp, by simp, Nat.le_refl _⟩
theorem TieI.old {ss ks : List Int} {s : Int} (I : TieI ss ks) (h : ab s ∈ ks) : TieI (ss ++ [s]) ks where
  nd := I.nd
  to := fun k hk => by obtain ⟨x, hx, e⟩ := I.to k hk; exact ⟨x, List.mem_append_left _ hx, e⟩
  fr := fun x hx => by
    rcases List.mem_append.mp hx with hx | hx
    · exact I.fr x hx
    · rw [List.mem_singleton.mp hx]; exact h
  ln := by rw [List.length_append]; exact Nat.le_trans I.ln (Nat.le_add_right _ _)
theorem TieI.new {ss ks : List Int} {s : Int} (I : TieI ss ks) (h : ab s ∉ ks) : TieI (ss ++ [s]) (ks ++ [ab s]) where
  nd := by
    rw [List.nodup_append]
    refine ⟨I.nd, by simp, fun a ha b hb => ?_⟩
    rw [List.mem_singleton.mp hb]
    rintro rfl
    exact h ha
  to := fun k hk => by
    rcases List.mem_append.mp hk with hk | hk
    · obtain ⟨x, hx, e⟩ := I.to k hk; exact ⟨x, List.mem_append_left _ hx, e⟩
    · exact ⟨s, List.mem_append_right _ List.mem_cons_self, List.mem_singleton.mp hk⟩
  fr := fun x hx => by
    rcases List.mem_append.mp hx with hx | hx
    · exact List.mem_append_left _ (I.fr x hx)
    · rw [List.mem_singleton.mp hx]; exact List.mem_append_right _ List.mem_cons_self
  ln := by rw [List.length_append, List.length_append]; exact Nat.add_le_add_right I.ln 1
theorem dset_cnt {h : Sto} {ks ss row : List Int} {s v : Int} {Q : DK} (I : TieI ss ks) (hl : ss.length ≤ 1000) (hv : v = cnt row s) (q : ∀ ks', TieI (ss ++ [s]) ks' → Q (.int v) (Ap h [.dK (ks'.map (cE row))])) : dsetR h.length (.int (if s < 0 then -s else s)) (.int v) (Ap h [.dK (ks.map (cE row))]) Q := by
  subst hv
  have kl := I.ln
  by_cases hm : ab s ∈ ks
  · refine sset_old (kvs := ks.map (cE row)) (by rw [Ap_get0]; rfl) (by rw [List.length_map]; omega) (d := .int (cnt row s)) ?_ (q ks (I.old hm))
    show valD (ks.map (cE row)) (Sum.inl (ab s)) = _
    rw [val_cE, if_pos hm, cnt_abs]
  · refine sset_new (kvs := ks.map (cE row)) (by rw [Ap_get0]; rfl) (by rw [List.length_map]; omega) ?_ ?_
    · show valD (ks.map (cE row)) (Sum.inl (ab s)) = _
      rw [val_cE, if_neg hm]
    · have e := put_cE (row := row) hm
      rw [cnt_abs] at e
      show Q _ ((Ap h _).set _ (.dK (putD (ks.map (cE row)) (Sum.inl (ab s)) _)))
      rw [e, Ap_set0]
      exact q _ (I.new hm)
theorem dgR_of {h : Sto} {n : Nat} {k : Int} {d : D} {Q : DK} {kvs : List (Key × D)} (e : h[n]? = some (.dK kvs)) (hv : valD kvs (.inl k) = some d) (q : Q d h) : dgR (.ref n) (.int k) h Q := by
  unfold dgR
  simp only [e, keyD, hv]
  exact q
theorem zip_arcs (row : List Int) : ∀ sh : List Tri, List.zipWith (fun x y => D.tup [x, y]) (sh.map triD) ((sh.map (cArc row)).map triD) = sh.map fun t => .tup [triD t, triD (cArc row t)]
  | [] => rfl
  | t :: r => congrArg (D.tup [triD t, triD (cArc row t)] :: ·) (zip_arcs row r)
theorem ShOk.tie {sh : List Tri} (h : ShOk sh) {m : Nat} (hm : sh.length = 2 * m) {k : Int} (h1 : 1 ≤ k) (h2 : k ≤ 3 * m) : ∃ s ∈ sidesS sh, ab s = k := by
  obtain ⟨m', _, _, h3, hp⟩ := h
  have : m' = m := by omega
  subst this
  have : k.toNat ∈ (sidesS sh).map Int.natAbs := hp.mem_iff.mpr (List.mem_append_left _ (List.mem_map.mpr ⟨k.toNat - 1, List.mem_range.mpr (by omega), by omega⟩))
  obtain ⟨s, hs, e⟩ := List.mem_map.mp this
  exact ⟨s, hs, by unfold ab; split <;> omega⟩
theorem row_cnts {row : List Int} {n : Nat} (hl : row.length = n) : (List.range n).map (fun (k : Nat) => D.int (cnt row (1 + (k : Int)))) = row.map .int := by
  apply List.ext_getElem?
  intro p
  rw [List.getElem?_map, List.getElem?_map]
  by_cases hp : p < n
  · have := cnt_get (s := 1 + (p : Int)) hl (by omega) (by omega)
    rw [show (1 + (p : Int)).natAbs - 1 = p by omega] at this
    rw [List.getElem?_range hp, this]; rfl
  · rw [List.getElem?_eq_none (by simpa using hp), List.getElem?_eq_none (by omega)]; rfl
def b_row_of_2 : C3 :=
  (cSeq (cAsg (tO addR (tO ixR (tV 4) (tV 5)) (tO ixR (tV 4) (tO subR (tV 5) (tK (.int 1))))) (gN 6))
    (cIf (tT (tO neR (tDSetd3 (tV 2) (tB3 absR (tC3 (tO ixR (tV 3) (tV 5)) tN3)) (tV 6)) (tV 6))) cOff cNext))
def b_row_of_1 : C3 :=
  (cFor (iRng (tC3 (tK (.int 3)) tN3)) (gN 5) b_row_of_2)
def e_row_of_1 : E3 :=
  (tO dgR (tV 2) (tV 7))
def t_row_of : C3 :=
  (cSeq (cAsg tDNew (gN 2))
    (cSeq (cFor (iZip3 (tC3 (tV 0) (tC3 (tV 1) tN3))) (gTup3 2 (gCons3 (gN 3) (gCons3 (gN 4) gNil3))) b_row_of_1)
    (cRet (tNew (tLc3 (iRng (tC3 (tK (.int 1)) (tC3 (tO addR (tCall3 sp_how_many_ties (tC3 (tV 0) tN3)) (tK (.int 1))) tN3))) (gN 7) bYes e_row_of_1 [7])))))

def sp_row_of : Sp3 := spD (fun (a__ : Nat × Nat × List Tri × List Int) => match a__ with | (n, k, sh, row) => [.ref n, .ref k]) (fun (a__ : Nat × Nat × List Tri × List Int) (h : Sto) => match a__ with | (n, k, sh, row) => h[n]? = some (.lst (sh.map triD)) ∧ h[k]? = some (.lst ((sh.map (cArc row)).map triD)) ∧ ShOk sh ∧ RowOk sh row) (fun (a__ : Nat × Nat × List Tri × List Int) (h : Sto) => match a__ with | (n, k, sh, row) => .ref h.length) (fun (a__ : Nat × Nat × List Tri × List Int) (h : Sto) => match a__ with | (n, k, sh, row) => h ++ [.lst (row.map .int)])
theorem mono_row_of : MonoS sp_row_of := mono_spD
theorem len_row_of : ∀ ds h Q E, sp_row_of ds h Q E → ds.length = 2 := len_spD fun _ => rfl
theorem row_of_q {n : Nat} {k : Nat} {sh : List Tri} {row : List Int} {h : Sto} {Q : DK} (hp : h[n]? = some (.lst (sh.map triD)) ∧ h[k]? = some (.lst ((sh.map (cArc row)).map triD)) ∧ ShOk sh ∧ RowOk sh row) (q : Q (.ref h.length) (h ++ [.lst (row.map .int)])) : callS sp_row_of [.ref n, .ref k] h Q := ⟨(n, k, sh, row), rfl, hp, q⟩
theorem rd_row_of : ∀ ds h Q E, ClS h.length h → ClDs h.length ds → sp_row_of ds h Q E → t_row_of (ends3 (GQ h.length Q)) (start3 8 ds) h := by
  rintro ds h Q E hcl _ ⟨⟨n, k, sh, row⟩, rfl, hp0, q0⟩
  have hp : h[n]? = some (.lst (sh.map triD)) ∧ h[k]? = some (.lst ((sh.map (cArc row)).map triD)) ∧ ShOk sh ∧ RowOk sh row := hp0
  have q : Q (.ref h.length) (h ++ [.lst (row.map .int)]) := q0
  clear hp0 q0
  obtain ⟨hn, hk, ok, ro⟩ := hp
  have q' : Q (.ref h.length) (h ++ [.lst (row.map .int)]) := q
  clear q
  obtain ⟨m, m1, m6, hm, em⟩ := ok.half
  have rl : row.length = 3 * m := by rw [ro.ln, show sh.length / 2 = m by omega]
  have e0 : ∀ g : Sto, (Ap h g)[n]? = some (.lst (sh.map triD)) := fun g => get_up hn
  have e1 : ∀ g : Sto, (Ap h g)[k]? = some (.lst ((sh.map (cArc row)).map triD)) := fun g => get_up hk
  conv => arg 3; rw [Ap_mk (h := h)]
  try simp only [↓tV_q, ↓tN3_q, ↓tC3_q, ↓cSeq_q, ↓cAsg_q, ↓gN_q, ↓cFor_q, ↓iZip3_q, ↓zipD_rrq, ↓start3_q, ↓sDNew_q, ↓Ap_len, ↓Ap_app, thenE_nx, onO_some, onC_q, List.getElem?_cons_zero, List.getElem?_cons_succ, List.set_cons_zero, List.set_cons_succ, List.map_cons, List.map_nil, List.cons_append, List.nil_append, List.length_cons, List.length_nil, List.replicate_succ, List.replicate_zero, Nat.reduceAdd, Nat.reduceSub, Nat.add_zero, t_row_of, e0, e1]
  rw [zip_arcs]
  refine forL (f := fun t => D.tup [triD t, triD (cArc row t)]) (fun l ρ h' => ∃ (ks : List Int) (o3 o4 o5 o6 : Option D), ρ = [some (.ref n), some (.ref k), some (.ref h.length), o3, o4, o5, o6, none] ∧ h' = Ap h [.dK (ks.map (cE row))] ∧ TieI (sidesS l) ks) ⟨[], _, _, _, _, rfl, rfl, .nil⟩ ?_ ?_ ?_
  · rintro l ρ h' ⟨ks, o3, o4, o5, o6, rfl, rfl, _⟩
    exact ⟨e0 _, e1 _⟩
  · rintro ρ h' ⟨ks, o3, o4, o5, o6, rfl, rfl, I⟩
    try simp only [↓tV_q, ↓tK_q, ↓tO_q, ↓tN3_q, ↓tC3_q, ↓tNew_q, ↓cRet_q, ↓iRng_q, ↓tLc3_q, ↓tCall3_q, thenE_nx, onO_some, List.getElem?_cons_zero]
    refine how_many_ties_q (sh := sh) ⟨e0 _, ok⟩ ?_
    rw [em]
    try simp only [↓tK_q, ↓tN3_q, ↓rngD_2q, ↓addR_ii_q, wipe3_nil, wipe3_cons, List.set_cons_zero, List.set_cons_succ]
    refine ⟨⟨by omega, by omega, by omega, by omega⟩, by simp; omega, ?_⟩
    rw [show (((3 * m : Nat) : Int) + 1 - 1).toNat = 3 * m by omega]
    refine lcMap (f := fun (k : Nat) => D.int (1 + (k : Int))) (r := fun k => D.int (cnt row (1 + (k : Int)))) trivial ?_ ?_
    · rw [row_cnts rl]
      try simp only [↓Ap_len, ↓Ap_app, ends3_rt, List.cons_append, List.nil_append, List.length_cons, List.length_nil, Nat.reduceAdd]
      exact gq_one rfl rfl (cl_ints _) hcl q'
    · intro i hi Q hQ
      have hi := List.mem_range.mp hi
      obtain ⟨s, hs, es⟩ := ok.tie hm (k := 1 + (i : Int)) (by omega) (by omega)
      try simp only [↓tV_q, ↓tO_q, ↓gN_q, onO_some, List.getElem?_cons_zero, List.getElem?_cons_succ, List.set_cons_zero, List.set_cons_succ, e_row_of_1]
      refine dgR_of (kvs := ks.map (cE row)) (by rw [Ap_get0]; rfl) (d := .int (cnt row (1 + (i : Int)))) ?_ hQ
      rw [val_cE, if_pos (by rw [← es]; exact I.fr s hs)]
  · rintro l t r ρ h' F e ⟨ks, o3, o4, o5, o6, rfl, rfl, I⟩ hF
    have ht : t ∈ sh := by rw [e]; exact List.mem_append_right _ List.mem_cons_self
    obtain ⟨a1, a2, a3⟩ := arc_sum (ro.tr t ht)
    have sl : (sidesS l).length ≤ 100 := by
      have : ∀ l : List Tri, (sidesS l).length = 3 * l.length := by
        intro l
        induction l with
        | nil => rfl
        | cons a r ih => unfold sidesS at ih ⊢; rw [List.flatMap_cons, List.length_append, ih]; simp; omega
      rw [this]
      have := congrArg List.length e
      rw [List.length_append] at this
      omega
    have hF' : ∀ (ks : List Int) (o5 o6 : Option D), TieI (sidesS l ++ [t.1, t.2.1, t.2.2]) ks → F [some (.ref n), some (.ref k), some (.ref h.length), some (triD t), some (triD (cArc row t)), o5, o6, none] (Ap h [.dK (ks.map (cE row))]) := fun ks o5 o6 J => hF _ _ ⟨ks, _, _, _, _, rfl, rfl, by
      unfold sidesS at J ⊢
      rw [List.flatMap_append, List.flatMap_cons, List.flatMap_nil, List.append_nil]
      exact J⟩
    clear hF
    generalize cArc row t = c at a1 a2 a3 hF' ⊢
    try simp only [↓tK_q, ↓tN3_q, ↓tC3_q, ↓gN_q, ↓gNil3_q, ↓gCons3_q, ↓gTup3_q, ↓cFor_q, ↓iRng_q, ↓rngD_1q, List.set_cons_zero, List.set_cons_succ, List.length_cons, List.length_nil, Nat.reduceAdd, true_and, b_row_of_1, triD]
    rw [show List.range (Int.toNat 3) = List.range 3 from rfl]
    refine ⟨by decide, ?_⟩
    refine forL (f := fun (i : Nat) => D.int (i : Int)) (fun l2 ρ h' => ∃ (ks : List Int) (o5 o6 : Option D), ρ = [some (.ref n), some (.ref k), some (.ref h.length), some (.tup [.int t.1, .int t.2.1, .int t.2.2]), some (.tup [.int c.1, .int c.2.1, .int c.2.2]), o5, o6, none] ∧ h' = Ap h [.dK (ks.map (cE row))] ∧ TieI (sidesS l ++ [t.1, t.2.1, t.2.2].take l2.length) ks) ⟨ks, _, _, rfl, rfl, by rw [List.length_nil, List.take_zero, List.append_nil]; exact I⟩ (fun _ _ _ _ => trivial) ?_ ?_
    · rintro ρ h' ⟨ks, o5, o6, rfl, rfl, J⟩
      exact hF' ks _ _ J
    · rintro l2 i r2 ρ h' F2 e2 ⟨ks, o5, o6, rfl, rfl, J⟩ hF2
      obtain ⟨ei, il⟩ := rng_at e2
      rw [List.length_append, List.length_singleton] at hF2
      rw [← ei] at hF2 J
      have jl : (sidesS l ++ [t.1, t.2.1, t.2.2].take i).length ≤ 1000 := by
        rw [List.length_append, List.length_take]; simp; omega
      rcases (show i = 0 ∨ i = 1 ∨ i = 2 by omega) with rfl | rfl | rfl
      · show gN 5 (.int 0) _ _ _
        try simp only [↓tV_q, ↓tK_q, ↓tO_q, ↓tT_q, ↓tN3_q, ↓tC3_q, ↓cSeq_q, ↓cIf_q, ↓cAsg_q, ↓gN_q, ↓tB3_q, ↓addR_ii_q, ↓subR_ii_q, ↓ixR_ti_q, ↓absR_i_q, ↓sDSetd_q, thenE_nx, onO_some, atT_0, List.getElem?_cons_zero, List.getElem?_cons_succ, List.set_cons_zero, List.set_cons_succ, Int.reduceNeg, b_row_of_2, ix3_m1, show (0 : Int) - 1 = -1 from rfl, show (1 : Int) - 1 = 0 from rfl, show (2 : Int) - 1 = 1 from rfl]
        refine ⟨⟨_, _, rfl, by rw [Ap_get0]; rfl⟩, ?_⟩
        refine dset_cnt (s := t.1) J jl a1 fun ks' J' => ?_
        try simp only [↓cNext_q, ↓neR_ii_q, loopE_nx, onB_bl, ifC_false, Bool.not_true, decide_true]
        exact hF2 _ _ ⟨ks', _, _, rfl, rfl, by rw [List.append_assoc] at J'; exact J'⟩
      · show gN 5 (.int 1) _ _ _
        try simp only [↓tV_q, ↓tK_q, ↓tO_q, ↓tT_q, ↓tN3_q, ↓tC3_q, ↓cSeq_q, ↓cIf_q, ↓cAsg_q, ↓gN_q, ↓tB3_q, ↓addR_ii_q, ↓subR_ii_q, ↓ixR_ti_q, ↓absR_i_q, ↓sDSetd_q, thenE_nx, onO_some, atT_0, atT_1, List.getElem?_cons_zero, List.getElem?_cons_succ, List.set_cons_zero, List.set_cons_succ, b_row_of_2, show (0 : Int) - 1 = -1 from rfl, show (1 : Int) - 1 = 0 from rfl, show (2 : Int) - 1 = 1 from rfl]
        refine ⟨⟨_, _, rfl, by rw [Ap_get0]; rfl⟩, ?_⟩
        refine dset_cnt (s := t.2.1) J jl a2 fun ks' J' => ?_
        try simp only [↓cNext_q, ↓neR_ii_q, loopE_nx, onB_bl, ifC_false, Bool.not_true, decide_true]
        exact hF2 _ _ ⟨ks', _, _, rfl, rfl, by rw [List.append_assoc] at J'; exact J'⟩
      · show gN 5 (.int 2) _ _ _
        try simp only [↓tV_q, ↓tK_q, ↓tO_q, ↓tT_q, ↓tN3_q, ↓tC3_q, ↓cSeq_q, ↓cIf_q, ↓cAsg_q, ↓gN_q, ↓tB3_q, ↓addR_ii_q, ↓subR_ii_q, ↓ixR_ti_q, ↓absR_i_q, ↓sDSetd_q, thenE_nx, onO_some, atT_0, atT_1, atT_2, List.getElem?_cons_zero, List.getElem?_cons_succ, List.set_cons_zero, List.set_cons_succ, b_row_of_2, show (0 : Int) - 1 = -1 from rfl, show (1 : Int) - 1 = 0 from rfl, show (2 : Int) - 1 = 1 from rfl]
        refine ⟨⟨_, _, rfl, by rw [Ap_get0]; rfl⟩, ?_⟩
        refine dset_cnt (s := t.2.2) J jl a3 fun ks' J' => ?_
        try simp only [↓cNext_q, ↓neR_ii_q, loopE_nx, onB_bl, ifC_false, Bool.not_true, decide_true]
        exact hF2 _ _ ⟨ks', _, _, rfl, rfl, by rw [List.append_assoc] at J'; exact J'⟩
end F3
set_option maxHeartbeats 400000
/-! TH: cord rows (program): what is a row, sums, rings. -/
namespace F3
open PySem PySem.Spec PyProof.Rows L2
/-- a cord row of any size -/
structure RowG (sh : List Tri) (row : List Int) : Prop where
  ln : row.length = 3 * (sh.length / 2)
  lo : ∀ x ∈ row, 0 ≤ x
  tr : ∀ t ∈ sh, TriOk row t
theorem RowOk.g {sh : List Tri} {row : List Int} (h : RowOk sh row) : RowG sh row := ⟨h.ln, fun x hx => (h.lo x hx).1, h.tr⟩
def addRow (xs ys : List Int) : List Int := List.zipWith (· + ·) xs ys
theorem cnt_add {xs ys : List Int} {s : Int} (h : xs.length = ys.length) : cnt (addRow xs ys) s = cnt xs s + cnt ys s := by
  unfold cnt addRow
  rw [List.getD_eq_getElem?_getD, List.getD_eq_getElem?_getD, List.getD_eq_getElem?_getD, List.getElem?_zipWith]
  by_cases hp : s.natAbs - 1 < xs.length
  · rw [List.getElem?_eq_getElem hp, List.getElem?_eq_getElem (by omega)]; rfl
  · rw [List.getElem?_eq_none (by omega), List.getElem?_eq_none (by omega)]; rfl
theorem RowG.add {sh : List Tri} {xs ys : List Int} (hx : RowG sh xs) (hy : RowG sh ys) : RowG sh (addRow xs ys) where
  ln := by
    unfold addRow
    rw [List.length_zipWith, hx.ln, hy.ln, Nat.min_self]
  lo := by
    intro v hv
    unfold addRow at hv
    obtain ⟨i, hi, e⟩ := List.getElem_of_mem hv
    rw [List.getElem_zipWith] at e
    have h1 := hx.lo _ (List.getElem_mem (l := xs) (n := i) (by rw [List.length_zipWith] at hi; omega))
    have h2 := hy.lo _ (List.getElem_mem (l := ys) (n := i) (by rw [List.length_zipWith] at hi; omega))
    omega
  tr := by
    intro t ht
    have e := hx.ln.trans hy.ln.symm
    have a := hx.tr t ht
    have b := hy.tr t ht
    obtain ⟨a1, a2, a3, a4⟩ := a
    obtain ⟨b1, b2, b3, b4⟩ := b
    constructor <;> rw [cnt_add e, cnt_add e, cnt_add e] <;> omega
def t_fits : C3 :=
  (cRet (tAndE (tO eqR (tO modR (tB3 (onL sumX) (tC3 (tV 0) tN3)) (tK (.int 2))) (tK (.int 0))) (tO leR (tO mulR (tK (.int 2)) (tB3 (onL maxX) (tC3 (tV 0) tN3))) (tB3 (onL sumX) (tC3 (tV 0) tN3)))))

def sp_fits : Sp3 := spD (fun (a__ : Nat × Int × Int × Int) => match a__ with | (c, x, y, z) => [.ref c]) (fun (a__ : Nat × Int × Int × Int) (h : Sto) => match a__ with | (c, x, y, z) => h[c]? = some (.lst [.int x, .int y, .int z]) ∧ (x + y + z) % 2 = 0 ∧ x ≤ y + z ∧ y ≤ z + x ∧ z ≤ x + y) (fun (a__ : Nat × Int × Int × Int) (h : Sto) => match a__ with | (c, x, y, z) => .bl true) (fun (a__ : Nat × Int × Int × Int) (h : Sto) => match a__ with | (c, x, y, z) => h)
theorem mono_fits : MonoS sp_fits := mono_spD
theorem len_fits : ∀ ds h Q E, sp_fits ds h Q E → ds.length = 1 := len_spD fun _ => rfl
theorem fits_q {c : Nat} {x : Int} {y : Int} {z : Int} {h : Sto} {Q : DK} (hp : h[c]? = some (.lst [.int x, .int y, .int z]) ∧ (x + y + z) % 2 = 0 ∧ x ≤ y + z ∧ y ≤ z + x ∧ z ≤ x + y) (q : Q (.bl true) (h)) : callS sp_fits [.ref c] h Q := ⟨(c, x, y, z), rfl, hp, q⟩
theorem rd_fits : ∀ ds h Q E, ClS h.length h → ClDs h.length ds → sp_fits ds h Q E → t_fits (ends3 (GQ h.length Q)) (start3 1 ds) h := by
  rintro ds h Q E hcl _ ⟨⟨c, x, y, z⟩, rfl, hp0, q0⟩
  have hp : h[c]? = some (.lst [.int x, .int y, .int z]) ∧ (x + y + z) % 2 = 0 ∧ x ≤ y + z ∧ y ≤ z + x ∧ z ≤ x + y := hp0
  have q : Q (.bl true) (h) := q0
  clear hp0 q0
  obtain ⟨h1, h2, h3, h4, h5⟩ := hp
  try simp only [↓tV_q, ↓tO_q, ↓tAndE_q, ↓tN3_q, ↓tC3_q, ↓cRet_q, ↓tB3_q, ↓sumX_q, ↓start3_q, ↓onL_rq, onO_some, onC_q, List.getElem?_cons_zero, List.map_cons, List.map_nil, List.cons_append, List.nil_append, List.length_cons, List.length_nil, List.replicate_zero, Nat.reduceAdd, Nat.reduceSub, t_fits, h1]
  rw [intsOf3]
  try simp only [↓tK_q, ↓modR_ii_q, ↓eqR_ii_q, ifT_q, onIs_q, true_and, Int.reduceLT]
  have : [x, y, z].sum % 2 = 0 := by simp only [List.sum_cons, List.sum_nil]; omega
  rw [this]
  try simp only [↓tV_q, ↓tK_q, ↓tO_q, ↓tN3_q, ↓tC3_q, ↓tB3_q, ↓maxX_q, ↓start3_q, ↓onL_rq, onO_some, ifC_true, onC_q, List.getElem?_cons_zero, List.map_cons, List.map_nil, List.cons_append, List.nil_append, List.length_cons, List.length_nil, List.replicate_zero, Nat.reduceAdd, Nat.reduceSub, decide_true, h1]
  rw [intsOf3]
  try simp only [↓tV_q, ↓tN3_q, ↓tC3_q, ↓tB3_q, ↓start3_q, ↓mulR_ii_q, ↓onL_rq, onO_some, onIs_q, List.getElem?_cons_zero, List.map_cons, List.map_nil, List.cons_append, List.nil_append, List.length_cons, List.length_nil, List.replicate_zero, Nat.reduceAdd, Nat.reduceSub, Nat.reduceLT, true_and]
  intro mx hm _
  refine ⟨mulOk_l (by decide), ?_⟩
  try simp only [↓sumX_q, onC_q, h1]
  rw [intsOf3]
  try simp only [↓leR_ii_q, ends3_rt, onIs_q]
  have e : decide (2 * mx ≤ [x, y, z].sum) = true := by
    rw [decide_eq_true_eq]
    simp only [List.sum_cons, List.sum_nil]
    simp only [List.mem_cons, List.not_mem_nil, or_false] at hm
    rcases hm with rfl | rfl | rfl <;> omega
  rw [e]
  exact .inl q
def e_is_row_1 : E3 :=
  (tAndE (tCall3 sp_is_whole (tC3 (tV 2) tN3)) (tO geR (tV 2) (tK (.int 0))))
def e_is_row_2 : E3 :=
  (tCall3 sp_fits (tC3 (tCall3 sp_sides_counts (tC3 (tV 1) (tC3 (tV 3) tN3))) tN3))
def r_is_row_2 : C3 :=
  (cRet (tB3 allX (tLc3 (iSeq (tV 0)) (gN 3) bYes e_is_row_2 [3])))
def r_is_row_1 : C3 :=
  (cSeq (cIf (tNot3 (tT (tB3 allX (tLc3 (iSeq (tV 1)) (gN 2) bYes e_is_row_1 [2])))) (cRet (tK (.bl false))) cNext)
    r_is_row_2)
def t_is_row : C3 :=
  (cSeq (cIf (tOr3 (tNot3 (tT (tB3 isiR (tC3 (tV 1) (tC3 (tK (.ty "list")) tN3))))) (tT (tO neR (tB3 lenR (tC3 (tV 1) tN3)) (tCall3 sp_how_many_ties (tC3 (tV 0) tN3))))) (cRet (tK (.bl false))) cNext)
    r_is_row_1)

def sp_is_row : Sp3 := spD (fun (a__ : Nat × Nat × List Tri × List Int) => match a__ with | (n, k, sh, row) => [.ref n, .ref k]) (fun (a__ : Nat × Nat × List Tri × List Int) (h : Sto) => match a__ with | (n, k, sh, row) => h[n]? = some (.lst (sh.map triD)) ∧ h[k]? = some (.lst (row.map .int)) ∧ ShOk sh ∧ RowG sh row) (fun (a__ : Nat × Nat × List Tri × List Int) (h : Sto) => match a__ with | (n, k, sh, row) => .bl true) (fun (a__ : Nat × Nat × List Tri × List Int) (h : Sto) => match a__ with | (n, k, sh, row) => h)
theorem mono_is_row : MonoS sp_is_row := mono_spD
theorem len_is_row : ∀ ds h Q E, sp_is_row ds h Q E → ds.length = 2 := len_spD fun _ => rfl
theorem is_row_q {n : Nat} {k : Nat} {sh : List Tri} {row : List Int} {h : Sto} {Q : DK} (hp : h[n]? = some (.lst (sh.map triD)) ∧ h[k]? = some (.lst (row.map .int)) ∧ ShOk sh ∧ RowG sh row) (q : Q (.bl true) (h)) : callS sp_is_row [.ref n, .ref k] h Q := ⟨(n, k, sh, row), rfl, hp, q⟩
theorem rd_is_row : ∀ ds h Q E, ClS h.length h → ClDs h.length ds → sp_is_row ds h Q E → t_is_row (ends3 (GQ h.length Q)) (start3 4 ds) h := by
  rintro ds h Q E hcl _ ⟨⟨n, k, sh, row⟩, rfl, hp0, q0⟩
  have hp : h[n]? = some (.lst (sh.map triD)) ∧ h[k]? = some (.lst (row.map .int)) ∧ ShOk sh ∧ RowG sh row := hp0
  have q : Q (.bl true) (h) := q0
  clear hp0 q0
  obtain ⟨hn, hk, ok, ro⟩ := hp
  obtain ⟨m, m1, m6, hm, em⟩ := ok.half
  have rl : row.length = 3 * m := by rw [ro.ln, show sh.length / 2 = m by omega]
  try simp only [↓tV_q, ↓tK_q, ↓tO_q, ↓tT_q, ↓tOr3_q, ↓tNot3_q, ↓tN3_q, ↓tC3_q, ↓cSeq_q, ↓cIf_q, ↓tCall3_q, ↓tB3_q, ↓start3_q, ↓lenR_rq, ↓isi_5, onO_some, onB_bl, ifC_false, onC_q, isU_q, tyN_r, isT_6, List.getElem?_cons_zero, List.getElem?_cons_succ, List.map_cons, List.map_nil, List.cons_append, List.nil_append, List.length_cons, List.length_nil, List.replicate_succ, List.replicate_zero, Nat.reduceAdd, Nat.reduceSub, Bool.not_true, t_is_row, tyN_r hk, hk]
  refine how_many_ties_q (sh := sh) ⟨hn, ok⟩ ?_
  rw [em, List.length_map, rl]
  try simp only [↓tV_q, ↓tT_q, ↓tNot3_q, ↓cNext_q, ↓cSeq_q, ↓cIf_q, ↓iSeq_q, ↓iSeqD_rq, ↓tLc3_q, ↓tB3_q, ↓start3_q, ↓neR_ii_q, thenE_nx, onO_some, onB_bl, ifC_false, onC_q, wipe3_nil, wipe3_cons, List.getElem?_cons_zero, List.getElem?_cons_succ, List.set_cons_zero, List.set_cons_succ, List.map_cons, List.map_nil, List.cons_append, List.nil_append, List.length_cons, List.length_nil, List.replicate_succ, List.replicate_zero, Nat.reduceAdd, Nat.reduceSub, Bool.not_true, decide_true, r_is_row_1, hk]
  refine ⟨by rw [List.length_map]; omega, ?_⟩
  refine lcMap (f := fun v => D.int v) (r := fun _ => D.bl true) hk ?_ ?_
  · try simp only [↓tV_q, ↓cNext_q, ↓cRet_q, ↓iSeq_q, ↓iSeqD_rq, ↓tLc3_q, ↓tB3_q, ↓allX_q, thenE_nx, onO_some, onB_bl, ifC_false, onC_q, onBs_q, wipe3_nil, wipe3_cons, List.getElem?_cons_zero, List.set_cons_zero, List.set_cons_succ, Bool.not_true, bls_true, all_true, r_is_row_2, hn]
    refine ⟨by rw [List.length_map]; omega, ?_⟩
    refine lcL (f := triD) (fun l acc h' => acc = l.map (fun _ => D.bl true) ∧ ∃ g, h' = h ++ g) ⟨rfl, [], (List.append_nil h).symm⟩ ?_ ?_ ?_
    · rintro _ _ _ ⟨_, g, rfl⟩
      exact get_up hn
    · rintro _ _ ⟨rfl, g, rfl⟩
      try simp only [↓allX_q, ends3_rt, onBs_q, bls_true, all_true]
      exact gq_tail rfl trivial hcl q
    · rintro l t r acc h' F e ⟨rfl, g, rfl⟩ hF
      have ht : t ∈ sh := by rw [e]; exact List.mem_append_right _ List.mem_cons_self
      have si := ok.sidesIn hm ht
      obtain ⟨t1, t2, t3, t4⟩ := ro.tr t ht
      try simp only [↓tV_q, ↓tN3_q, ↓tC3_q, ↓gN_q, ↓bYes_q, ↓tCall3_q, onO_some, ifC_true, List.getElem?_cons_zero, List.getElem?_cons_succ, List.set_cons_zero, List.set_cons_succ, e_is_row_2]
      refine sides_counts_q ⟨get_up hk, by rw [rl]; exact si⟩ ?_
      try simp only [↓tN3_q]
      refine fits_q ⟨get_new, t1, t2, t3, t4⟩ ?_
      skip
      exact hF _ _ ⟨by rw [List.map_append]; rfl, _, by rw [List.append_assoc]⟩
  · intro v hv Q hQ
    have v0 := ro.lo v hv
    try simp only [↓tV_q, ↓tAndE_q, ↓tN3_q, ↓tC3_q, ↓gN_q, ↓tCall3_q, onO_some, List.getElem?_cons_zero, List.getElem?_cons_succ, List.set_cons_zero, List.set_cons_succ, e_is_row_1]
    refine whole_at (E := fun _ _ => False) kn_int ?_
    try simp only [↓tV_q, ↓tK_q, ↓tO_q, ↓geR_ii_q, onO_some, ifC_true, ifT_q, List.getElem?_cons_zero, List.getElem?_cons_succ, isW]
    have e : decide (0 ≤ v) = true := decide_eq_true v0
    rw [e]
    exact hQ
def e_sum_of_1 : E3 :=
  (tO addR (tV 3) (tV 4))
def t_sum_of : C3 :=
  (cRet (tNew (tLc3 (iZip3 (tC3 (tV 1) (tC3 (tV 2) tN3))) (gTup3 2 (gCons3 (gN 3) (gCons3 (gN 4) gNil3))) bYes e_sum_of_1 [3, 4])))

def sp_sum_of : Sp3 := spD (fun (a__ : Nat × Nat × Nat × List Int × List Int) => match a__ with | (n, k, j, xs, ys) => [.ref n, .ref k, .ref j]) (fun (a__ : Nat × Nat × Nat × List Int × List Int) (h : Sto) => match a__ with | (n, k, j, xs, ys) => h[k]? = some (.lst (xs.map .int)) ∧ h[j]? = some (.lst (ys.map .int)) ∧ xs.length ≤ 1000) (fun (a__ : Nat × Nat × Nat × List Int × List Int) (h : Sto) => match a__ with | (n, k, j, xs, ys) => .ref h.length) (fun (a__ : Nat × Nat × Nat × List Int × List Int) (h : Sto) => match a__ with | (n, k, j, xs, ys) => h ++ [.lst ((addRow xs ys).map .int)])
theorem mono_sum_of : MonoS sp_sum_of := mono_spD
theorem len_sum_of : ∀ ds h Q E, sp_sum_of ds h Q E → ds.length = 3 := len_spD fun _ => rfl
theorem sum_of_q {n : Nat} {k : Nat} {j : Nat} {xs : List Int} {ys : List Int} {h : Sto} {Q : DK} (hp : h[k]? = some (.lst (xs.map .int)) ∧ h[j]? = some (.lst (ys.map .int)) ∧ xs.length ≤ 1000) (q : Q (.ref h.length) (h ++ [.lst ((addRow xs ys).map .int)])) : callS sp_sum_of [.ref n, .ref k, .ref j] h Q := ⟨(n, k, j, xs, ys), rfl, hp, q⟩
theorem zip_ints : ∀ xs ys : List Int, List.zipWith (fun x y => D.tup [x, y]) (xs.map .int) (ys.map .int) = (xs.zip ys).map fun p => .tup [.int p.1, .int p.2]
  | [], _ => rfl
  | _ :: _, [] => rfl
  | x :: xs, y :: ys => congrArg (D.tup [.int x, .int y] :: ·) (zip_ints xs ys)
theorem rd_sum_of : ∀ ds h Q E, ClS h.length h → ClDs h.length ds → sp_sum_of ds h Q E → t_sum_of (ends3 (GQ h.length Q)) (start3 5 ds) h := by
  rintro ds h Q E hcl _ ⟨⟨n, k, j, xs, ys⟩, rfl, hp0, q0⟩
  have hp : h[k]? = some (.lst (xs.map .int)) ∧ h[j]? = some (.lst (ys.map .int)) ∧ xs.length ≤ 1000 := hp0
  have q : Q (.ref h.length) (h ++ [.lst ((addRow xs ys).map .int)]) := q0
  clear hp0 q0
  obtain ⟨hk, hj, hl⟩ := hp
  try simp only [↓tV_q, ↓tN3_q, ↓tC3_q, ↓tNew_q, ↓cRet_q, ↓iZip3_q, ↓zipD_rrq, ↓tLc3_q, ↓start3_q, onO_some, onC_q, wipe3_nil, wipe3_cons, List.getElem?_cons_zero, List.getElem?_cons_succ, List.set_cons_zero, List.set_cons_succ, List.map_cons, List.map_nil, List.cons_append, List.nil_append, List.length_cons, List.length_nil, List.replicate_succ, List.replicate_zero, Nat.reduceAdd, Nat.reduceSub, t_sum_of, hk, hj]
  rw [zip_ints]
  refine ⟨by rw [List.length_map, List.length_zip]; omega, ?_⟩
  refine lcMap (f := fun p : Int × Int => D.tup [.int p.1, .int p.2]) (r := fun p => D.int (p.1 + p.2)) ⟨hk, hj⟩ ?_ ?_
  · have e : (xs.zip ys).map (fun p => D.int (p.1 + p.2)) = (addRow xs ys).map .int := by
      unfold addRow
      rw [List.map_zipWith, List.zip_eq_zipWith, List.map_zipWith]
    rw [e]
    exact .inl q
  · intro p _ Q hQ
    try simp only [↓tV_q, ↓tO_q, ↓gN_q, ↓gNil3_q, ↓gCons3_q, ↓gTup3_q, ↓addR_ii_q, onO_some, List.getElem?_cons_zero, List.getElem?_cons_succ, List.set_cons_zero, List.set_cons_succ, List.length_cons, List.length_nil, Nat.reduceAdd, true_and, e_sum_of_1]
    exact hQ
/-- 1 at the ends of a point -/
def ind (S : List Th) : Th → Int := fun y => if isIn y S = true then 1 else 0
theorem inRD_pr {h : Sto} {n : Nat} {H : List Th} {i j : Int} {Q : DK} (e : h[n]? = some (.lst (H.map thD))) : inRD false (.tup [.int i, .int j]) (.ref n) h Q = Q (.bl (isIn (.inr (i, j)) H)) h := inRD_th (x := .inr (i, j)) e
def e_ring_1 : E3 :=
  (tO addR (tB3 intR (tC3 (tO (inRD false) (tTup3 (tC3 (tV 3) (tC3 (tK (.int 0)) tN3))) (tV 2)) tN3)) (tB3 intR (tC3 (tO (inRD false) (tTup3 (tC3 (tV 3) (tC3 (tK (.int 1)) tN3))) (tV 2)) tN3)))
def t_ring : C3 :=
  (cSeq (cAsg (tO ixR (tCall3 sp_points (tC3 (tV 0) tN3)) (tV 1)) (gN 2))
    (cRet (tNew (tLc3 (iRng (tC3 (tK (.int 1)) (tC3 (tO addR (tCall3 sp_how_many_ties (tC3 (tV 0) tN3)) (tK (.int 1))) tN3))) (gN 3) bYes e_ring_1 [3]))))

def sp_ring : Sp3 := spR (fun (a : Nat × Nat × List Tri) => [.ref a.1, .int a.2.1]) (fun a h => h[a.1]? = some (.lst (a.2.2.map triD)) ∧ ShOk a.2.2 ∧ ∀ hs, Part (endsE (3 * (a.2.2.length / 2))) (prsS a.2.2) hs → a.2.1 < hs.length)
  (fun a h d h' => ∃ hs S, Part (endsE (3 * (a.2.2.length / 2))) (prsS a.2.2) hs ∧ (sortHH hs)[a.2.1]? = some S ∧ d = .ref h.length ∧ h' = h ++ [.lst ((ringRow (3 * (a.2.2.length / 2)) (ind S)).map .int)])
theorem mono_ring : MonoS sp_ring := mono_spR
theorem len_ring : ∀ ds h Q E, sp_ring ds h Q E → ds.length = 2 := len_spR fun _ => rfl
theorem ring_q {h : Sto} {n p : Nat} {sh : List Tri} {Q : DK} (hn : h[n]? = some (.lst (sh.map triD))) (ok : ShOk sh) (hp : ∀ hs, Part (endsE (3 * (sh.length / 2))) (prsS sh) hs → p < hs.length) (q : ∀ hs S, Part (endsE (3 * (sh.length / 2))) (prsS sh) hs → (sortHH hs)[p]? = some S → Q (.ref h.length) (h ++ [.lst ((ringRow (3 * (sh.length / 2)) (ind S)).map .int)])) : callS sp_ring [.ref n, .int (p : Int)] h Q :=
  ⟨(n, p, sh), rfl, ⟨hn, ok, hp⟩, by rintro _ _ ⟨hs, S, P, e, rfl, rfl⟩; exact q hs S P e⟩
theorem rd_ring : ∀ ds h Q E, ClS h.length h → ClDs h.length ds → sp_ring ds h Q E → t_ring (ends3 (GQ h.length Q)) (start3 4 ds) h := by
  rintro ds h Q E hcl _ ⟨⟨n, p, sh⟩, rfl, ⟨hn, ok, hp⟩, q⟩
  have hn' : h[n]? = some (.lst (sh.map triD)) := hn
  have ok' : ShOk sh := ok
  have hp' : ∀ hs, Part (endsE (3 * (sh.length / 2))) (prsS sh) hs → p < hs.length := hp
  have q' : ∀ hs S, Part (endsE (3 * (sh.length / 2))) (prsS sh) hs → (sortHH hs)[p]? = some S → Q (.ref h.length) (h ++ [.lst ((ringRow (3 * (sh.length / 2)) (ind S)).map .int)]) := fun hs S P e => q _ _ ⟨hs, S, P, e, rfl, rfl⟩
  clear hn ok hp q
  obtain ⟨m, m1, m6, hm, em⟩ := ok'.half
  try simp only [↓tV_q, ↓tO_q, ↓tN3_q, ↓tC3_q, ↓cSeq_q, ↓cAsg_q, ↓tCall3_q, ↓start3_q, onO_some, List.getElem?_cons_zero, List.map_cons, List.map_nil, List.cons_append, List.nil_append, List.length_cons, List.length_nil, List.replicate_succ, List.replicate_zero, Nat.reduceAdd, Nat.reduceSub, t_ring]
  refine points_q1 hn' ok' fun g k zs hs hz ho P es => ?_
  have pz : p < zs.length := by
    have h1 := hp' hs P
    have h2 := congrArg List.length es
    rw [List.length_map, sortHH_len] at h2
    omega
  obtain ⟨z, ez⟩ : ∃ z, zs[p]? = some z := ⟨_, List.getElem?_eq_getElem pz⟩
  have eS : (sortHH hs)[p]? = some z.2 := by rw [← es, List.getElem?_map, ez]; rfl
  try simp only [↓tV_q, ↓start3_q, ↓ixR_rq, onO_some, onC_q, List.getElem?_cons_zero, List.getElem?_cons_succ, List.map_cons, List.map_nil, List.cons_append, List.nil_append, List.length_cons, List.length_nil, List.replicate_succ, List.replicate_zero, Nat.reduceAdd, Nat.reduceSub, hz.1]
  rw [atT_of (d := refD z) (by rw [atI_get (by omega) (by rw [List.length_map]; omega), Int.toNat_natCast, List.getElem?_map, ez]; rfl)]
  try simp only [↓tV_q, ↓tK_q, ↓tO_q, ↓tN3_q, ↓tC3_q, ↓tNew_q, ↓cRet_q, ↓gN_q, ↓iRng_q, ↓tLc3_q, ↓tCall3_q, ↓start3_q, thenE_nx, onO_some, List.getElem?_cons_zero, List.set_cons_zero, List.set_cons_succ, List.map_cons, List.map_nil, List.cons_append, List.nil_append, List.length_cons, List.length_nil, List.replicate_succ, List.replicate_zero, Nat.reduceAdd, Nat.reduceSub, refD]
  refine how_many_ties_q (sh := sh) ⟨get_up hn', ok'⟩ ?_
  rw [em]
  try simp only [↓tK_q, ↓tN3_q, ↓rngD_2q, ↓addR_ii_q, wipe3_nil, wipe3_cons, List.set_cons_zero, List.set_cons_succ]
  refine ⟨⟨by omega, by omega, by omega, by omega⟩, by simp; omega, ?_⟩
  rw [show (((3 * m : Nat) : Int) + 1 - 1).toNat = 3 * m by omega]
  have ec := hz.2 z (List.mem_of_getElem? ez)
  refine lcMap (f := fun (k : Nat) => D.int (1 + (k : Int))) (r := fun k => D.int (ind z.2 (.inr (1 + (k : Int), 0)) + ind z.2 (.inr (1 + (k : Int), 1)))) trivial ?_ ?_
  · have e : (List.range (3 * m)).map (fun (k : Nat) => D.int (ind z.2 (.inr (1 + (k : Int), 0)) + ind z.2 (.inr (1 + (k : Int), 1)))) = (ringRow (3 * (sh.length / 2)) (ind z.2)).map .int := by
      unfold ringRow
      rw [List.map_map, show sh.length / 2 = m by omega]; rfl
    rw [e]
    try simp only [ends3_rt]
    have := gq_one (n := h.length) (h := h) (g := g ++ [.lst ((ringRow (3 * (sh.length / 2)) (ind z.2)).map .int)]) (k := g.length) rfl get_new (cl_ints _) hcl (q' hs z.2 P eS)
    simpa [Nat.add_comm] using this
  · intro i _ Q hQ
    try simp only [↓tV_q, ↓tK_q, ↓tO_q, ↓tN3_q, ↓tC3_q, ↓tTup3_q, ↓gN_q, ↓tB3_q, onO_some, List.getElem?_cons_zero, List.getElem?_cons_succ, List.set_cons_zero, List.set_cons_succ, e_ring_1]
    rw [inRD_pr ec]
    try simp only [↓intR_b_q]
    rw [inRD_pr ec]
    try simp only [↓addR_ii_q, ↓intR_b_q]
    exact hQ
theorem eqX_of {neg : Bool} {d : D} {xs : List D} {p : PyData} {qs : List PyData} {h : Sto} {Q : DK} (e1 : toP h 9 d = some p) (e2 : xs.mapM (toP h 8) = some qs) : eqX neg d xs h Q = Q (.bl (if neg then !PyData.eqv p (.list qs) else PyData.eqv p (.list qs))) h := by
  unfold eqX
  rw [e1, e2]
theorem tk_sh8 {h : Sto} {n k : Nat} {sh : List Tri} (e : h[n]? = some (.lst (sh.map triD))) : toP h (k + 3) (.ref n) = some (.list (sh.map triP)) := toP_lst (k := k + 2) e (mapM_of fun z _ => rfl)
theorem tk_is {h : Sto} {n k : Nat} {ns : List Int} (e : h[n]? = some (.lst (ns.map .int))) : toP h (k + 2) (.ref n) = some (.list (ns.map .int)) := toP_lst (k := k + 1) e (toP_ints (k := k) ns)
theorem int_self {ns : List Int} : PyData.eqv (.list (ns.map .int)) (.list (ns.map .int)) = true := by rw [eqv_listI]; simp
theorem Part.num {E : List Th} {b : Bool} {ps qs : List (Th × Th)} {hs ks : List (List Th)} (hE : E.Nodup) (kE : ∀ x ∈ E, kd x = b) (P : Part E ps hs) (R : Part E qs ks) (same : ∀ x y, Ln ps x y ↔ Ln qs x y) : hs.length = ks.length := by
  have := congrArg List.length (Part.uniq hE kE P R same)
  rwa [sortHH_len, sortHH_len] at this
end F3
set_option maxHeartbeats 400000
/-! TZ: what is a sheet, of sheets. -/
namespace F3
open PySem PySem.Spec PyProof.Rows L2
def e_is_sheet_1 : E3 :=
  (tCall3 sp_is_whole (tC3 (tV 3) tN3))
def e_is_sheet_2 : E3 :=
  (tB3 absR (tC3 (tV 3) tN3))
def r_is_sheet_2 : C3 :=
  (cDrop (tLM extT (tV 1) (tC3 (tNew (tLc3 (iSeq (tV 2)) (gN 3) bYes e_is_sheet_2 [3])) tN3)))
def b_is_sheet_1 : C3 :=
  (cSeq (cIf (tOr3 (tNot3 (tT (tB3 isiR (tC3 (tV 2) (tC3 (tK (.ty "tuple")) tN3))))) (tOr3 (tT (tO neR (tB3 lenR (tC3 (tV 2) tN3)) (tK (.int 3)))) (tNot3 (tT (tB3 allX (tLc3 (iSeq (tV 2)) (gN 3) bYes e_is_sheet_1 [3])))))) (cRet (tK (.bl false))) cNext)
    r_is_sheet_2)
def r_is_sheet_1 : C3 :=
  (cSeq (cAsg (tNew tN3) (gN 1))
    (cSeq (cFor (iSeq (tV 0)) (gN 2) b_is_sheet_1)
    (cRet (tOX (eqX false) (tNew (tL3 (onLM srtX) (tC3 (tV 1) tN3))) (tL3 (onLM srtX) (tC3 (tO mulLR (tK (.int 2)) (tNew (xRg2 (tK (.int 1)) (tO addR (tCall3 sp_how_many_ties (tC3 (tV 0) tN3)) (tK (.int 1)))))) tN3))))))
def t_is_sheet : C3 :=
  (cSeq (cIf (tOr3 (tNot3 (tT (tB3 isiR (tC3 (tV 0) (tC3 (tK (.ty "list")) tN3))))) (tOr3 (tT (tO neR (tO modR (tB3 lenR (tC3 (tV 0) tN3)) (tK (.int 2))) (tK (.int 0)))) (tNot3 (tT (tCh leR leR (tK (.int 2)) (tB3 lenR (tC3 (tV 0) tN3)) (tK (.int 12))))))) (cRet (tK (.bl false))) cNext)
    r_is_sheet_1)

theorem sort_uniq : ∀ {l m : List Int}, l.Perm m → l.Pairwise (· ≤ ·) → m.Pairwise (· ≤ ·) → l = m
  | [], m, h, _, _ => (List.Perm.nil_eq h)
  | a :: l, m, h, h1, h2 => by
    cases m with
    | nil => exact absurd h.length_eq (by simp)
    | cons b m =>
      have e : a = b := by
        have ha : a ∈ b :: m := h.mem_iff.mp List.mem_cons_self
        have hb : b ∈ a :: l := h.mem_iff.mpr List.mem_cons_self
        have p1 := (List.pairwise_cons.mp h1).1
        have p2 := (List.pairwise_cons.mp h2).1
        rcases List.mem_cons.mp ha with h3 | h3
        · exact h3
        · rcases List.mem_cons.mp hb with h4 | h4
          · exact h4.symm
          · have := p1 b h4
            have := p2 a h3
            omega
      subst e
      rw [sort_uniq (List.Perm.cons_inv h) (List.pairwise_cons.mp h1).2 (List.pairwise_cons.mp h2).2]
theorem iwI_q {i : Int} {h : Sto} {Q : DK} (q : Q (.bl true) h) : callS sp_is_whole [.int i] h Q := ⟨.int i, rfl, ⟨"int", rfl⟩, q⟩
def sp_is_sheet : Sp3 := spD (fun (a__ : Nat × List Tri) => match a__ with | (n, sh) => [.ref n]) (fun (a__ : Nat × List Tri) (h : Sto) => match a__ with | (n, sh) => h[n]? = some (.lst (sh.map triD)) ∧ ShOk sh) (fun (a__ : Nat × List Tri) (h : Sto) => match a__ with | (n, sh) => .bl true) (fun (a__ : Nat × List Tri) (h : Sto) => match a__ with | (n, sh) => h)
theorem mono_is_sheet : MonoS sp_is_sheet := mono_spD
theorem len_is_sheet : ∀ ds h Q E, sp_is_sheet ds h Q E → ds.length = 1 := len_spD fun _ => rfl
theorem is_sheet_q {n : Nat} {sh : List Tri} {h : Sto} {Q : DK} (hp : h[n]? = some (.lst (sh.map triD)) ∧ ShOk sh) (q : Q (.bl true) (h)) : callS sp_is_sheet [.ref n] h Q := ⟨(n, sh), rfl, hp, q⟩
theorem rd_is_sheet : ∀ ds h Q E, ClS h.length h → ClDs h.length ds → sp_is_sheet ds h Q E → t_is_sheet (ends3 (GQ h.length Q)) (start3 4 ds) h := by
  rintro ds h Q E hcl _ ⟨⟨n, sh⟩, rfl, hp0, q0⟩
  have hp : h[n]? = some (.lst (sh.map triD)) ∧ ShOk sh := hp0
  have q : Q (.bl true) (h) := q0
  clear hp0 q0
  obtain ⟨hn, ok⟩ := hp
  obtain ⟨m, m1, m6, hm, em⟩ := ok.half
  have e0 : ∀ g : Sto, (Ap h g)[n]? = some (.lst (sh.map triD)) := fun g => get_up hn
  have q' : Q (.bl true) h := q
  conv => arg 3; rw [Ap_mk (h := h)]
  try simp only [↓tV_q, ↓tK_q, ↓tO_q, ↓tT_q, ↓tOr3_q, ↓tNot3_q, ↓tN3_q, ↓tC3_q, ↓cSeq_q, ↓cIf_q, ↓tB3_q, ↓start3_q, ↓modR_ii_q, ↓neR_ii_q, ↓lenR_rq, ↓isi_5, onO_some, onB_bl, ifC_false, onC_q, isU_q, tyN_r, isT_6, List.getElem?_cons_zero, List.map_cons, List.map_nil, List.cons_append, List.nil_append, List.length_cons, List.length_nil, List.replicate_succ, List.replicate_zero, Nat.reduceAdd, Nat.reduceSub, true_and, Bool.not_true, Int.reduceLT, t_is_sheet, e0, tyN_r (e0 _), List.length_map]
  rw [show decide ((sh.length : Int) % 2 = 0) = true from decide_eq_true (by omega)]
  try simp only [↓tV_q, ↓tK_q, ↓tT_q, ↓tNot3_q, ↓tCh_q, ↓tN3_q, ↓tC3_q, ↓tB3_q, ↓start3_q, ↓leR_ii_q, ↓lenR_rq, onO_some, ifC_false, onC_q, ifT_q, List.getElem?_cons_zero, List.map_cons, List.map_nil, List.cons_append, List.nil_append, List.length_cons, List.length_nil, List.replicate_succ, List.replicate_zero, Nat.reduceAdd, Nat.reduceSub, Bool.not_true, e0, List.length_map]
  rw [show decide ((2 : Int) ≤ (sh.length : Int)) = true from decide_eq_true (by omega)]
  try simp only [↓tK_q, ↓leR_ii_q, onB_bl, ifC_true, List.length_map]
  rw [show decide ((sh.length : Int) ≤ 12) = true from decide_eq_true (by omega)]
  try simp only [↓tV_q, ↓tN3_q, ↓tNew_q, ↓cNext_q, ↓cSeq_q, ↓cAsg_q, ↓gN_q, ↓cFor_q, ↓iSeq_q, ↓iSeqD_rq, ↓start3_q, ↓Ap_len, ↓Ap_app, thenE_nx, onO_some, ifC_false, onC_q, List.getElem?_cons_zero, List.set_cons_zero, List.set_cons_succ, List.map_cons, List.map_nil, List.cons_append, List.nil_append, List.length_cons, List.length_nil, List.replicate_succ, List.replicate_zero, Nat.reduceAdd, Nat.reduceSub, Bool.not_true, Nat.add_zero, r_is_sheet_1, e0]
  refine forL (f := triD) (fun l ρ h' => ∃ (g : Sto) (o2 o3 : Option D), ρ = [some (.ref n), some (.ref h.length), o2, o3] ∧ h' = Ap h (.lst (((sidesS l).map ab).map .int) :: g)) ⟨[], _, _, rfl, rfl⟩ ?_ ?_ ?_
  · rintro l ρ h' ⟨g, o2, o3, rfl, rfl⟩
    exact e0 _
  · rintro ρ h' ⟨g, o2, o3, rfl, rfl⟩
    try simp only [↓tV_q, ↓tN3_q, ↓tC3_q, ↓tNew_q, ↓cRet_q, ↓tL3_q, ↓tOX_q, ↓srtX_q, ↓onLM_rq, ↓Ap_get0, thenE_nx, onO_some, onC_q, List.getElem?_cons_zero, List.getElem?_cons_succ]
    rw [intsOf_map]
    try simp only [↓tV_q, ↓tK_q, ↓tO_q, ↓tN3_q, ↓tC3_q, ↓tNew_q, ↓tCall3_q, ↓tL3_q, ↓xRg2_q, ↓Ap_app, onO_some, onIs_q, List.getElem?_cons_zero, List.cons_append]
    intro ns' hp hs
    skip
    refine how_many_ties_q (sh := sh) ⟨e0 _, ok⟩ ?_
    rw [em]
    try simp only [↓tK_q, ↓xRg_q, ↓addR_ii_q, ↓mulLR_q, ↓Ap_len, ↓Ap_app, ↓Ap_getk, onI_int, List.getElem?_cons_succ, List.cons_append, List.length_cons]
    have eT : (((3 * m : Nat) : Int) + 1 - 1).toNat = 3 * m := by omega
    have eU : (List.range (3 * m)).map (fun (k : Nat) => D.int (1 + (k : Int))) = ((List.range (3 * m)).map fun (k : Nat) => 1 + (k : Int)).map .int := by rw [List.map_map]; rfl
    rw [eT, eU]
    generalize hW : ((List.range (3 * m)).map fun (k : Nat) => 1 + (k : Int)) = W
    have lW : W.length = 3 * m := by rw [← hW, List.length_map, List.length_range]
    refine ⟨⟨by decide, by decide, by omega, by omega, by omega⟩, ?_⟩
    try simp only [↓tN3_q, ↓srtX_q, ↓onLM_rq, ↓Ap_len, ↓Ap_app, ↓Ap_getk, onC_q, List.getElem?_cons_succ, List.cons_append, List.length_cons, get_new, List.length_map]
    refine ⟨⟨by decide, by decide, by rw [lW, show Int.toNat 2 = 2 from rfl]; omega⟩, ?_⟩
    have eV : (List.replicate (Int.toNat 2) (W.map D.int)).flatten = (W ++ W).map .int := by
      show W.map D.int ++ (W.map D.int ++ []) = _
      rw [List.append_nil, List.map_append]
    rw [eV]
    skip
    rw [intsOf_map]
    try simp only [↓Ap_len, ↓Ap_app, ends3_rt, onIs_q, List.cons_append, List.length_cons]
    intro ms hp2 hs2
    obtain ⟨m', _, _, h3, hperm⟩ := ok
    have em' : m' = m := by omega
    subst em'
    have p1 : ((sidesS sh).map ab).Perm (W ++ W) := by
      have := hperm.map fun (k : Nat) => (k : Int)
      rw [List.map_map, List.map_append] at this
      have e1 : (sidesS sh).map ab = (sidesS sh).map ((fun (k : Nat) => (k : Int)) ∘ Int.natAbs) := List.map_congr_left fun s _ => by
        simp only [Function.comp, ab]
        split <;> omega
      have e2 : (tiesL m').map (fun (k : Nat) => (k : Int)) = W := by
        rw [← hW]
        unfold tiesL
        rw [List.map_map]
        refine List.map_congr_left fun k _ => ?_
        simp only [Function.comp]
        omega
      rw [e1, ← e2]
      exact this
    have same : ms = ns' := sort_uniq (hp2.trans (p1.symm.trans hp.symm)) hs2 hs
    subst same
    have ec : (Ap h (Cell.lst (((sidesS sh).map ab).map D.int) :: (g ++ [Cell.lst (ms.map D.int)] ++ [Cell.lst (W.map D.int)] ++ [Cell.lst ((W ++ W).map D.int)])))[h.length + (g.length + 1)]? = some (.lst (ms.map .int)) := by
      rw [Ap_getk, List.getElem?_cons_succ]
      exact get_up (get_up get_new)
    rw [eqX_of (tk_is (k := 7) ec) (toP_ints (k := 7) ms)]
    have ve : PyData.eqv (.list (ms.map .int)) (.list (ms.map .int)) = true := by
      rw [PyData.eqv, eqv_ints]
      exact decide_eq_true rfl
    rw [if_neg Bool.false_ne_true, ve]
    exact gq_tail rfl (by simp [ClD]) hcl q'
  · rintro l t r ρ h' F e ⟨g, o2, o3, rfl, rfl⟩ hF
    try simp only [↓tV_q, ↓tK_q, ↓tO_q, ↓tT_q, ↓tOr3_q, ↓tNot3_q, ↓tN3_q, ↓tC3_q, ↓cSeq_q, ↓cIf_q, ↓gN_q, ↓tB3_q, ↓neR_ii_q, ↓lenR_t_q, ↓isi_4, onO_some, onB_bl, ifC_false, isU_q, tyN_tup_q, isT_5, List.getElem?_cons_zero, List.getElem?_cons_succ, List.set_cons_zero, List.set_cons_succ, List.length_cons, List.length_nil, Nat.reduceAdd, Bool.not_true, b_is_sheet_1, triD]
    rw [show decide (((3 : Nat) : Int) = 3) = true from rfl]
    try simp only [↓tV_q, ↓tT_q, ↓tNot3_q, ↓iSeq_q, ↓iSeqD_tq, ↓tLc3_q, ↓tB3_q, onO_some, ifC_false, wipe3_nil, wipe3_cons, List.getElem?_cons_zero, List.getElem?_cons_succ, List.set_cons_zero, List.set_cons_succ, List.length_cons, List.length_nil, Nat.reduceAdd, Nat.reduceLeDiff, true_and, Bool.not_true]
    refine lcMap (f := fun v : Int => D.int v) (xs := [t.1, t.2.1, t.2.2]) (r := fun _ => D.bl true) (by trivial) ?_ ?_
    · rw [show ([t.1, t.2.1, t.2.2].map fun _ => D.bl true) = [.bl true, .bl true, .bl true] from rfl]
      try simp only [↓allX_q]
      rw [show blsOf [.bl true, .bl true, .bl true] = some [true, true, true] from rfl]
      try simp only [onB_bl, onBs_q]
      rw [show ([true, true, true].all id) = true from rfl]
      try simp only [↓tV_q, ↓tC3_q, ↓tNew_q, ↓cNext_q, ↓cDrop_q, ↓iSeq_q, ↓iSeqD_tq, ↓tLc3_q, ↓tLM_q, ↓lmD_q, ↓Ap_get0, thenE_nx, onO_some, ifC_false, onC_q, wipe3_nil, wipe3_cons, List.getElem?_cons_zero, List.getElem?_cons_succ, List.set_cons_zero, List.set_cons_succ, List.length_cons, List.length_nil, Nat.reduceAdd, Nat.reduceLeDiff, true_and, Bool.not_true, r_is_sheet_2]
      refine lcMap (f := fun v : Int => D.int v) (xs := [t.1, t.2.1, t.2.2]) (r := fun v => D.int (ab v)) (by trivial) ?_ ?_
      · have ll : (sidesS l).length ≤ 36 := by
          have h1 := congrArg List.length e
          rw [List.length_append] at h1
          have h2 : ∀ s : List Tri, (sidesS s).length = 3 * s.length := fun s => by
            unfold sidesS
            induction s with
            | nil => rfl
            | cons a r ih => rw [List.flatMap_cons, List.length_append, ih, List.length_cons]; simp only [List.length_cons, List.length_nil]; omega
          rw [h2]
          omega
        try simp only [↓tN3_q, ↓extT_q, ↓Ap_len, ↓Ap_app, ↓Ap_get0, ↓Ap_getk, ↓Ap_set0, loopE_nx, onC_q, List.getElem?_cons_zero, List.getElem?_cons_succ, List.set_cons_zero, List.map_cons, List.map_nil, List.cons_append, List.length_cons, List.length_nil, Nat.reduceAdd, Nat.reduceLeDiff, get_new]
        refine ⟨by rw [List.length_map, List.length_map]; omega, hF _ _ ⟨g ++ [Cell.lst [D.int (ab t.1), D.int (ab t.2.1), D.int (ab t.2.2)]], _, _, rfl, ?_⟩⟩
        have e5 : sidesS (l ++ [t]) = sidesS l ++ [t.1, t.2.1, t.2.2] := by unfold sidesS; rw [List.flatMap_append]; rfl
        rw [e5, List.map_append, List.map_append]
        rfl
      · intro v _ Q' hQ
        try simp only [↓tV_q, ↓tN3_q, ↓tC3_q, ↓gN_q, ↓tB3_q, ↓absR_i_q, onO_some, List.getElem?_cons_zero, List.getElem?_cons_succ, List.set_cons_zero, List.set_cons_succ, e_is_sheet_2]
        exact hQ
    · intro v _ Q' hQ
      try simp only [↓tV_q, ↓tN3_q, ↓tC3_q, ↓gN_q, ↓tCall3_q, onO_some, List.getElem?_cons_zero, List.getElem?_cons_succ, List.set_cons_zero, List.set_cons_succ, e_is_sheet_1]
      exact iwI_q hQ
end F3
set_option maxHeartbeats 400000
/-! UG: the square of a tie (program). -/
namespace F3
open PySem PySem.Spec PyProof.Rows L2
/-- a triangle told from a side on -/
def rotS (t : Tri) (s : Int) : Tri := if s = t.1 then t else if s = t.2.1 then (t.2.1, t.2.2, t.1) else (t.2.2, t.1, t.2.1)
theorem whole_qI {d : D} {h : Sto} {Q : DK} (hk : Kn h d) (q : Q (.bl (isW d)) h) : callS sp_is_whole [d] h Q := ⟨d, rfl, hk, q⟩
def t_told_from : C3 :=
  (cSeq (cAsg (tTix (tV 0) (tC3 (tV 1) tN3)) (gN 2))
    (cRet (tO addR (tSl3 (tV 0) (oSo (tV 2)) oNo) (tSl3 (tV 0) oNo (oSo (tV 2))))))

def sp_told_from : Sp3 := spD (fun (a__ : Tri × Int) => match a__ with | (t, s) => [triD t, .int s]) (fun (a__ : Tri × Int) (h : Sto) => match a__ with | (t, s) => s ∈ [t.1, t.2.1, t.2.2]) (fun (a__ : Tri × Int) (h : Sto) => match a__ with | (t, s) => triD (rotS t s)) (fun (a__ : Tri × Int) (h : Sto) => match a__ with | (t, s) => h)
theorem mono_told_from : MonoS sp_told_from := mono_spD
theorem len_told_from : ∀ ds h Q E, sp_told_from ds h Q E → ds.length = 2 := len_spD fun _ => rfl
theorem told_from_q {t : Tri} {s : Int} {h : Sto} {Q : DK} (hp : s ∈ [t.1, t.2.1, t.2.2]) (q : Q (triD (rotS t s)) (h)) : callS sp_told_from [triD t, .int s] h Q := ⟨(t, s), rfl, hp, q⟩
theorem rd_told_from : ∀ ds h Q E, ClS h.length h → ClDs h.length ds → sp_told_from ds h Q E → t_told_from (ends3 (GQ h.length Q)) (start3 3 ds) h := by
  rintro ds h Q E hcl _ ⟨⟨t, s⟩, rfl, hp0, q0⟩
  have hp : s ∈ [t.1, t.2.1, t.2.2] := hp0
  have q : Q (triD (rotS t s)) (h) := q0
  clear hp0 q0
  obtain ⟨a, b, c⟩ := t
  try simp only [↓tV_q, ↓cSeq_q, ↓cAsg_q, ↓start3_q, ↓tTix_q, ↓tixD_q, onO_some, List.getElem?_cons_zero, List.map_cons, List.map_nil, List.cons_append, List.nil_append, List.length_cons, List.length_nil, List.replicate_succ, List.replicate_zero, Nat.reduceAdd, Nat.reduceSub, t_told_from, triD]
  have hi : intsOf [D.int a, D.int b, D.int c] = some [a, b, c] := rfl
  have hm : s = a ∨ s = b ∨ s = c := by simpa using hp
  try simp only [↓tV_q, ↓tO_q, ↓tN3_q, ↓tC3_q, ↓cRet_q, ↓gN_q, ↓tSl3_q, ↓oNo_q, ↓oSo_q, ↓start3_q, ↓addR_tt_q, ↓slR_t_q, ↓tixE_q, thenE_nx, ends3_rt, onO_some, onI_int, onIs_q, List.getElem?_cons_zero, List.getElem?_cons_succ, List.set_cons_zero, List.set_cons_succ, List.map_cons, List.map_nil, List.cons_append, List.nil_append, List.length_cons, List.length_nil, List.replicate_succ, List.replicate_zero, Nat.reduceAdd, Nat.reduceSub, true_and, hi]
  refine ⟨hp, ?_⟩
  unfold rotS at q
  by_cases h1 : s = a
  · subst h1
    rw [if_pos rfl] at q
    have e : (([s, b, c].idxOf s : Nat) : Int) = 0 := by simp
    rw [e]
    skip
    exact ⟨show [D.int s, D.int b, D.int c] ≠ [] from List.cons_ne_nil _ _, show 3 + 0 ≤ 16777216 by decide, .inl q⟩
  · rw [if_neg h1] at q
    by_cases h2 : s = b
    · subst h2
      rw [if_pos rfl] at q
      have e : (([a, s, c].idxOf s : Nat) : Int) = 1 := by simp [List.idxOf_cons, show (a == s) = false by simpa using fun z => h1 z.symm]
      rw [e]
      skip
      exact ⟨show [D.int s, D.int c] ≠ [] from List.cons_ne_nil _ _, show 2 + 1 ≤ 16777216 by decide, .inl q⟩
    · rw [if_neg h2] at q
      have h3 : s = c := (hm.resolve_left h1).resolve_left h2
      subst h3
      have e : (([a, b, s].idxOf s : Nat) : Int) = 2 := by simp [List.idxOf_cons, show (a == s) = false by simpa using fun z => h1 z.symm, show (b == s) = false by simpa using fun z => h2 z.symm]
      rw [e]
      skip
      exact ⟨show [D.int s] ≠ [] from List.cons_ne_nil _ _, show 1 + 2 ≤ 16777216 by decide, .inl q⟩
/-- the square of a tie: the numbers of both triangles, the four sides behind the tie -/
abbrev Sq := Nat × Nat × Int × Int × Int × Int
def sqOf (sh : List Tri) (a b : Nat × Int) : Option Sq :=
  if a.1 = b.1 then none else match sh[a.1]?, sh[b.1]? with
    | some t, some u =>
      let x := rotS t a.2
      let y := rotS u b.2
      some (a.1, b.1, x.2.1, x.2.2, if y.1 = x.1 then (-y.2.2, -y.2.1) else (y.2.1, y.2.2))
    | _, _ => none
def sqS (sh : List Tri) (k : Int) : Option Sq := match (allS sh).filter fun x => decide (ab x.2 = k) with
  | [a, b] => sqOf sh a b
  | _ => none
def sqD (x : Sq) : D := .tup [.int x.1, .int x.2.1, .tup [.int x.2.2.1, .int x.2.2.2.1, .int x.2.2.2.2.1, .int x.2.2.2.2.2]]
theorem allS_mem {sh : List Tri} {x : Nat × Int} (h : x ∈ allS sh) : ∃ t, sh[x.1]? = some t ∧ x.2 ∈ [t.1, t.2.1, t.2.2] := by
  unfold allS numT trS at h
  obtain ⟨p, hp, hx⟩ := List.mem_flatMap.mp h
  obtain ⟨i, hi⟩ := List.mem_iff_getElem?.mp hp
  rw [List.getElem?_mapIdx] at hi
  obtain ⟨t, ht, rfl⟩ := Option.map_eq_some_iff.mp hi
  obtain ⟨s, hs, rfl⟩ := List.mem_map.mp hx
  exact ⟨t, ht, hs⟩
theorem tie_pair {sh : List Tri} (ok : ShOk sh) {m : Nat} (hm : sh.length = 2 * m) {k : Int} (h1 : 1 ≤ k) (h2 : k ≤ 3 * m) : ∃ a b, (allS sh).filter (fun x => decide (ab x.2 = k)) = [a, b] := by
  have := two_sides ok hm h1 h2
  generalize (allS sh).filter (fun x => decide (ab x.2 = k)) = L at this ⊢
  match L, this with
  | [a, b], _ => exact ⟨a, b, rfl⟩
theorem tie_out {sh : List Tri} (ok : ShOk sh) {m : Nat} (hm : sh.length = 2 * m) {k : Int} (h : ¬ (1 ≤ k ∧ k ≤ 3 * m)) : sqS sh k = none := by
  have : (allS sh).filter (fun x => decide (ab x.2 = k)) = [] := by
    rw [List.filter_eq_nil_iff]
    intro x hx e
    have e := of_decide_eq_true e
    obtain ⟨t, ht, hs⟩ := allS_mem hx
    have hb := ok.side hm x.2 (by unfold sidesS; exact List.mem_flatMap.mpr ⟨t, List.mem_of_getElem? ht, hs⟩)
    apply h
    rw [← e]
    unfold ab
    constructor <;> split <;> omega
  unfold sqS
  rw [this]
theorem atI_at {α : Type} {xs : List α} {i : Nat} {x : α} (h : xs[i]? = some x) : atI xs (i : Int) = some x := by
  have hl := (List.getElem?_eq_some_iff.mp h).1
  obtain ⟨y, h1, h2⟩ := atI_some (xs := xs) (k := (i : Int)) (by omega) (by omega)
  rw [h1, ← h2]
  exact h
theorem ixN_nat {n i : Nat} (h : i < n) : ixN n (i : Int) = some i := by
  unfold ixN
  rw [if_pos (by omega), if_pos (by omega)]
  rfl
theorem dgR_at {h : Sto} {n : Nat} {k : Int} {d : D} {Q : DK} {kvs : List (Key × D)} (e : h[n]? = some (.dK kvs)) (hv : valD kvs (.inl k) = some d) (q : Q d h) : dgR (.ref n) (.int k) h Q := by
  unfold dgR
  simp only [e, keyD, hv]
  exact q
theorem ent_at {sh : List Tri} {es : List Ent} {a b : Nat × Int} {k : Int} (I : EntI (allS sh) es) (hf : (allS sh).filter (fun x => decide (ab x.2 = k)) = [a, b]) : ∃ e ∈ es, e.2.2 = [a, b] ∧ valD (es.map entK) (.inl k) = some (.ref e.2.1) := by
  have ha : a ∈ (allS sh).filter fun x => decide (ab x.2 = k) := by rw [hf]; exact List.mem_cons_self
  obtain ⟨ha1, ha2⟩ := List.mem_filter.mp ha
  obtain ⟨e, he, e1⟩ := I.al a ha1
  have ek : e.1 = k := e1.trans (of_decide_eq_true ha2)
  cases hx : es.find? fun e => decide (e.1 = k) with
  | none => exact absurd (by simpa using ek) (List.find?_eq_none.mp hx e he)
  | some f =>
    have fm := List.mem_of_find?_eq_some hx
    have fk : f.1 = k := by simpa using List.find?_some hx
    exact ⟨f, fm, by rw [I.ls f fm, fk, hf], by rw [val_ent, hx]; rfl⟩
def r_square_of_3 (E4 : X4) : C3 :=
  (cRet (tTup3 (tC3 (tO ixR (tV 2) (tK (.int 0))) (tC3 (tO ixR (tV 3) (tK (.int 0))) (tC3 (tTup3 (tC3 (tV 5) (tC3 (tV 6) (tC3 (tV 8) (tC3 (tV 9) tN3))))) tN3)))))
def r_square_of_2 (E4 : X4) : C3 :=
  (cSeq (cAsg (tCall3 sp_told_from (tC3 (tO ixR (tV 0) (tO ixR (tV 2) (tK (.int 0)))) (tC3 (tO ixR (tV 2) (tK (.int 1))) tN3))) (gTup3 3 (gCons3 (gN 4) (gCons3 (gN 5) (gCons3 (gN 6) gNil3)))))
    (cSeq (cAsg (tCall3 sp_told_from (tC3 (tO ixR (tV 0) (tO ixR (tV 3) (tK (.int 0)))) (tC3 (tO ixR (tV 3) (tK (.int 1))) tN3))) (gTup3 3 (gCons3 (gN 7) (gCons3 (gN 8) (gCons3 (gN 9) gNil3)))))
    (cSeq (cIf (tT (tO eqR (tV 7) (tV 4))) (cPar 8 9 (tC3 (tU negR (tV 9)) (tC3 (tU negR (tV 8)) tN3))) cNext)
    (r_square_of_3 E4))))
def r_square_of_1 (E4 : X4) : C3 :=
  (cSeq (cAsg (tO dgR (tCall3 sp_sides_of (tC3 (tV 0) tN3)) (tV 1)) (gLst3 2 (gCons3 (gN 2) (gCons3 (gN 3) gNil3))))
    (cSeq (cIf (tT (tO eqR (tO ixR (tV 2) (tK (.int 0))) (tO ixR (tV 3) (tK (.int 0))))) (cRz E4 "NoTurn") cNext)
    (r_square_of_2 E4)))
def t_square_of (E4 : X4) : C3 :=
  (cSeq (cIf (tOr3 (tNot3 (tT (tCall3 sp_is_whole (tC3 (tV 1) tN3)))) (tNot3 (tT (tCh leR leR (tK (.int 1)) (tV 1) (tCall3 sp_how_many_ties (tC3 (tV 0) tN3)))))) (cRz E4 "NoTurn") cNext)
    (r_square_of_1 E4))

def sp_square_of : Sp3 := fun ds h Q E => ∃ (n : Nat) (sh : List Tri) (k : Int), ds = [.ref n, .int k] ∧ h[n]? = some (.lst (sh.map triD)) ∧ ShOk sh ∧
  (∀ x, sqS sh k = some x → Q (sqD x) h) ∧ (sqS sh k = none → E (.type "NoTurn") h)
theorem mono_square_of : MonoS sp_square_of := fun ds h Q Q' E E' w1 w2 ⟨n, sh, k, e, a, b, c, d⟩ => ⟨n, sh, k, e, a, b, fun x o => w1 _ _ (c x o), fun o => w2 _ _ (d o)⟩
theorem len_square_of : ∀ ds h Q E, sp_square_of ds h Q E → ds.length = 2 := by rintro _ h Q E ⟨n, sh, k, rfl, _⟩; rfl
theorem rd_square_of : ∀ ds h Q E, ClS h.length h → ClDs h.length ds → sp_square_of ds h Q E → t_square_of (GE h.length E) (ends3 (GQ h.length Q)) (start3 10 ds) h := by
  rintro ds h Q E hcl _ ⟨n, sh, k, rfl, hn, ok, q, no⟩
  obtain ⟨m, m1, m6, hm, em⟩ := ok.half
  have e0 : ∀ g : Sto, (Ap h g)[n]? = some (.lst (sh.map triD)) := fun g => get_up hn
  have bad : ∀ (ρ : S3) (g : Sto), sqS sh k = none → GE h.length E "NoTurn" ρ (Ap h g) := fun ρ g e => ge_tail rfl hcl (no e)
  have bad0 : ∀ (ρ : S3), sqS sh k = none → GE h.length E "NoTurn" ρ h := fun ρ e => .inl (no e)
  try simp only [↓tV_q, ↓tT_q, ↓tOr3_q, ↓tNot3_q, ↓tN3_q, ↓tC3_q, ↓cSeq_q, ↓cIf_q, ↓tCall3_q, ↓start3_q, onO_some, List.getElem?_cons_zero, List.getElem?_cons_succ, List.map_cons, List.map_nil, List.cons_append, List.nil_append, List.length_cons, List.length_nil, List.replicate_succ, List.replicate_zero, Nat.reduceAdd, Nat.reduceSub, t_square_of]
  refine whole_qI ⟨_, rfl⟩ ?_
  try simp only [↓tV_q, ↓tK_q, ↓tT_q, ↓tNot3_q, ↓tCh_q, ↓start3_q, ↓leR_ii_q, onO_some, onB_bl, ifC_false, ifT_q, List.getElem?_cons_zero, List.getElem?_cons_succ, List.map_cons, List.map_nil, List.cons_append, List.nil_append, List.length_cons, List.length_nil, List.replicate_succ, List.replicate_zero, Nat.reduceAdd, Nat.reduceSub, Bool.not_true, isW]
  refine ifC_of (fun h1 => ?_) (fun h1 => ?_)
  · try simp only [↓tV_q, ↓tN3_q, ↓tC3_q, ↓tCall3_q, ↓start3_q, onO_some, List.getElem?_cons_zero, List.map_cons, List.map_nil, List.cons_append, List.nil_append, List.length_cons, List.length_nil, List.replicate_succ, List.replicate_zero, Nat.reduceAdd, Nat.reduceSub]
    refine how_many_ties_q (sh := sh) ⟨hn, ok⟩ ?_
    rw [em]
    try simp only [↓leR_ii_q, onB_bl]
    refine ifC_ofn (fun h2 => ?_) (fun h2 => ?_)
    · try simp only [↓start3_q, ↓cRz_q, List.map_cons, List.map_nil, List.cons_append, List.nil_append, List.length_cons, List.length_nil, List.replicate_succ, List.replicate_zero, Nat.reduceAdd, Nat.reduceSub]
      exact bad0 _ (tie_out ok hm fun z => h2 (by omega))
    · try simp only [↓tV_q, ↓tO_q, ↓tN3_q, ↓tC3_q, ↓cNext_q, ↓cSeq_q, ↓cAsg_q, ↓tCall3_q, ↓start3_q, thenE_nx, onO_some, List.getElem?_cons_zero, List.map_cons, List.map_nil, List.cons_append, List.nil_append, List.length_cons, List.length_nil, List.replicate_succ, List.replicate_zero, Nat.reduceAdd, Nat.reduceSub, r_square_of_1]
      refine sides_of_q hn (by omega) fun G es I C => ?_
      obtain ⟨a, b, hf⟩ := tie_pair ok hm h1 (by omega)
      have es1 : sqS sh k = sqOf sh a b := by unfold sqS; rw [hf]
      obtain ⟨e, he, e2, ev⟩ := ent_at I hf
      obtain ⟨j, j1, j2⟩ := C e he
      try simp only [↓tV_q, thenE_nx, onO_some, List.getElem?_cons_zero, List.getElem?_cons_succ]
      refine dgR_at (by rw [Ap_get0]; rfl) ev ?_
      rw [j1]
      rw [e2] at j2
      try simp only [↓tV_q, ↓tK_q, ↓tO_q, ↓tT_q, ↓cSeq_q, ↓cIf_q, ↓gN_q, ↓gNil3_q, ↓gCons3_q, ↓eqR_ii_q, ↓ixR_ti_q, ↓gLst3_q, ↓Ap_getk, onO_some, onB_bl, onC_q, atT_0, List.getElem?_cons_zero, List.getElem?_cons_succ, List.set_cons_zero, List.set_cons_succ, List.map_cons, List.map_nil, List.length_cons, List.length_nil, Nat.reduceAdd, true_and, j2, sdD]
      obtain ⟨t, ht, hta⟩ := allS_mem (show a ∈ allS sh from (List.mem_filter.mp (show a ∈ (allS sh).filter _ by rw [hf]; exact List.mem_cons_self)).1)
      obtain ⟨u, hu, hub⟩ := allS_mem (show b ∈ allS sh from (List.mem_filter.mp (show b ∈ (allS sh).filter _ by rw [hf]; exact List.mem_cons_of_mem _ List.mem_cons_self)).1)
      refine ifC_of (fun h3 => ?_) (fun h3 => ?_)
      · try simp only [↓cRz_q]
        refine bad _ _ (es1.trans ?_)
        unfold sqOf
        rw [if_pos (by omega)]
      · have es2 : sqS sh k = some (a.1, b.1, (rotS t a.2).2.1, (rotS t a.2).2.2, if (rotS u b.2).1 = (rotS t a.2).1 then (-(rotS u b.2).2.2, -(rotS u b.2).2.1) else ((rotS u b.2).2.1, (rotS u b.2).2.2)) := by
          rw [es1]
          unfold sqOf
          rw [if_neg (by omega), ht, hu]
        try simp only [↓tV_q, ↓tK_q, ↓tO_q, ↓tC3_q, ↓cNext_q, ↓cSeq_q, ↓cAsg_q, ↓tCall3_q, ↓ixR_ti_q, ↓ixR_rq, thenE_nx, onO_some, onC_q, atT_0, List.getElem?_cons_zero, List.getElem?_cons_succ, r_square_of_2, e0]
        rw [atT_of (d := triD t) (by rw [atI_map, atI_at ht]; rfl)]
        try simp only [↓tV_q, ↓tK_q, ↓tO_q, ↓tN3_q, ↓tC3_q, ↓ixR_ti_q, onO_some, atT_0, atT_1, List.getElem?_cons_zero, List.getElem?_cons_succ]
        refine told_from_q hta ?_
        generalize hX : rotS t a.2 = X at es2 ⊢
        try simp only [↓tV_q, ↓tK_q, ↓tO_q, ↓tC3_q, ↓cSeq_q, ↓cAsg_q, ↓gN_q, ↓gNil3_q, ↓gCons3_q, ↓gTup3_q, ↓tCall3_q, ↓ixR_ti_q, ↓ixR_rq, thenE_nx, onO_some, onC_q, atT_0, List.getElem?_cons_zero, List.getElem?_cons_succ, List.set_cons_zero, List.set_cons_succ, List.length_cons, List.length_nil, Nat.reduceAdd, true_and, triD, e0]
        rw [atT_of (d := triD u) (by rw [atI_map, atI_at hu]; rfl)]
        try simp only [↓tV_q, ↓tK_q, ↓tO_q, ↓tN3_q, ↓tC3_q, ↓ixR_ti_q, onO_some, atT_0, atT_1, List.getElem?_cons_zero, List.getElem?_cons_succ]
        refine told_from_q hub ?_
        generalize hY : rotS u b.2 = Y at es2 ⊢
        try simp only [↓tV_q, ↓tO_q, ↓tT_q, ↓cSeq_q, ↓cIf_q, ↓gN_q, ↓gNil3_q, ↓gCons3_q, ↓gTup3_q, ↓eqR_ii_q, thenE_nx, onO_some, onB_bl, List.getElem?_cons_zero, List.getElem?_cons_succ, List.set_cons_zero, List.set_cons_succ, List.length_cons, List.length_nil, Nat.reduceAdd, true_and, triD, r_square_of_3]
        have fin : ∀ G, GQ h.length Q (sqD (a.1, b.1, X.2.1, X.2.2, if Y.1 = X.1 then (-Y.2.2, -Y.2.1) else (Y.2.1, Y.2.2))) (Ap h G) := fun G => gq_tail rfl (by simp [ClD, sqD, ClDs]) hcl (q _ es2)
        refine ifC_of (fun h4 => ?_) (fun h4 => ?_)
        · rw [if_pos h4] at fin
          try simp only [↓tV_q, ↓tK_q, ↓tO_q, ↓tU_q, ↓tN3_q, ↓tC3_q, ↓tTup3_q, ↓cRet_q, ↓cPar_q, ↓parD_q, ↓negR_i_q, ↓ixR_ti_q, thenE_nx, ends3_rt, onO_some, atT_0, List.getElem?_cons_zero, List.getElem?_cons_succ, List.set_cons_zero, List.set_cons_succ]
          exact fin _
        · rw [if_neg h4] at fin
          try simp only [↓tV_q, ↓tK_q, ↓tO_q, ↓tN3_q, ↓tC3_q, ↓tTup3_q, ↓cNext_q, ↓cRet_q, ↓ixR_ti_q, thenE_nx, ends3_rt, onO_some, atT_0, List.getElem?_cons_zero, List.getElem?_cons_succ]
          exact fin _
  · try simp only [↓start3_q, ↓cRz_q, onB_bl, ifC_true, List.map_cons, List.map_nil, List.cons_append, List.nil_append, List.length_cons, List.length_nil, List.replicate_succ, List.replicate_zero, Nat.reduceAdd, Nat.reduceSub, Bool.not_false]
    exact bad0 _ (tie_out ok hm fun z => h1 z.1)
theorem square_of_q {n : Nat} {sh : List Tri} {k : Int} {h : Sto} {Q : DK} {E : X3} (hn : h[n]? = some (.lst (sh.map triD))) (ok : ShOk sh) (q : ∀ x, sqS sh k = some x → Q (sqD x) h) (no : sqS sh k = none → E (.type "NoTurn") h) : sp_square_of [.ref n, .int k] h Q E :=
  ⟨n, sh, k, rfl, hn, ok, q, no⟩
def trnS (sh : List Tri) (k : Int) (x : Sq) : List Tri := (sh.set x.1 (x.2.2.2.1, x.2.2.2.2.1, -k)).set x.2.1 (x.2.2.2.2.2, x.2.2.1, k)
theorem sqS_lt {sh : List Tri} {k : Int} {x : Sq} (h : sqS sh k = some x) : x.1 < sh.length ∧ x.2.1 < sh.length ∧ x.1 ≠ x.2.1 := by
  unfold sqS at h
  split at h
  next a b hf =>
    unfold sqOf at h
    split at h
    · cases h
    next hne =>
      split at h
      next t u ht hu =>
        cases h
        exact ⟨(List.getElem?_eq_some_iff.mp ht).1, (List.getElem?_eq_some_iff.mp hu).1, hne⟩
      next => cases h
  next => cases h
def t_turned_tie (E4 : X4) : C3 :=
  (cSeq (cAsg (tCallX sp_square_of E4 (tC3 (tV 0) (tC3 (tV 1) tN3))) (gTup3 3 (gCons3 (gN 2) (gCons3 (gN 3) (gCons3 (gN 4) gNil3)))))
    (cSeq (cAsg (tV 4) (gTup3 4 (gCons3 (gN 5) (gCons3 (gN 6) (gCons3 (gN 7) (gCons3 (gN 8) gNil3))))))
    (cSeq (cAsg (tNew (tL3 lstM (tC3 (tV 0) tN3))) (gN 9))
    (cSeq (cAsg (tTup3 (tC3 (tV 6) (tC3 (tV 7) (tC3 (tU negR (tV 1)) tN3)))) (gSub3 (tV 9) (tV 2)))
    (cSeq (cAsg (tTup3 (tC3 (tV 8) (tC3 (tV 5) (tC3 (tV 1) tN3)))) (gSub3 (tV 9) (tV 3)))
    (cRet (tV 9)))))))

def sp_turned_tie : Sp3 := fun ds h Q E => ∃ (n : Nat) (sh : List Tri) (k : Int), ds = [.ref n, .int k] ∧ h[n]? = some (.lst (sh.map triD)) ∧ ShOk sh ∧
  (∀ x, sqS sh k = some x → Q (.ref h.length) (h ++ [.lst ((trnS sh k x).map triD)])) ∧ (sqS sh k = none → E (.type "NoTurn") h)
theorem mono_turned_tie : MonoS sp_turned_tie := fun ds h Q Q' E E' w1 w2 ⟨n, sh, k, e, a, b, c, d⟩ => ⟨n, sh, k, e, a, b, fun x o => w1 _ _ (c x o), fun o => w2 _ _ (d o)⟩
theorem len_turned_tie : ∀ ds h Q E, sp_turned_tie ds h Q E → ds.length = 2 := by rintro _ h Q E ⟨n, sh, k, rfl, _⟩; rfl
theorem rd_turned_tie : ∀ ds h Q E, ClS h.length h → ClDs h.length ds → sp_turned_tie ds h Q E → t_turned_tie (GE h.length E) (ends3 (GQ h.length Q)) (start3 10 ds) h := by
  rintro ds h Q E hcl _ ⟨n, sh, k, rfl, hn, ok, q, no⟩
  obtain ⟨m, m1, m6, hm, em⟩ := ok.half
  try simp only [↓tV_q, ↓tN3_q, ↓tC3_q, ↓cSeq_q, ↓cAsg_q, ↓start3_q, ↓tCallX_q, onO_some, List.getElem?_cons_zero, List.getElem?_cons_succ, List.map_cons, List.map_nil, List.cons_append, List.nil_append, List.length_cons, List.length_nil, List.replicate_succ, List.replicate_zero, Nat.reduceAdd, Nat.reduceSub, t_turned_tie]
  refine ⟨n, sh, k, rfl, hn, ok, fun x hx => ?_, fun e => ⟨_, rfl, .inl (no e)⟩⟩
  obtain ⟨l1, l2, l3⟩ := sqS_lt hx
  have i1 : ixN (sh.map triD).length (x.1 : Int) = some x.1 := by
    rw [List.length_map]
    exact ixN_nat l1
  have i2 : ∀ y, ixN ((sh.map triD).set x.1 y).length (x.2.1 : Int) = some x.2.1 := fun y => by
    rw [List.length_set, List.length_map]
    exact ixN_nat l2
  have qx := q x hx
  have et : (trnS sh k x).map triD = ((sh.map triD).set x.1 (.tup [.int x.2.2.2.1, .int x.2.2.2.2.1, .int (-k)])).set x.2.1 (.tup [.int x.2.2.2.2.2, .int x.2.2.1, .int k]) := by
    unfold trnS
    rw [List.map_set, List.map_set]; rfl
  rw [et] at qx
  unfold sqD
  try simp only [↓tV_q, ↓tU_q, ↓tN3_q, ↓tC3_q, ↓tTup3_q, ↓tNew_q, ↓cSeq_q, ↓cAsg_q, ↓gN_q, ↓gNil3_q, ↓gCons3_q, ↓gTup3_q, ↓gSub3_q, ↓setR_q, ↓tL3_q, ↓start3_q, ↓negR_i_q, ↓lstM_rq, thenE_nx, onO_some, onC_q, List.getElem?_cons_zero, List.getElem?_cons_succ, List.set_cons_zero, List.set_cons_succ, List.map_cons, List.map_nil, List.cons_append, List.nil_append, List.length_cons, List.length_nil, List.replicate_succ, List.replicate_zero, Nat.reduceAdd, Nat.reduceSub, true_and, hn, get_new]
  rw [i1]
  try simp only [↓tV_q, ↓tN3_q, ↓tC3_q, ↓tTup3_q, ↓cSeq_q, ↓cAsg_q, ↓gSub3_q, ↓setR_q, thenE_nx, onO_some, onC_q, onN_q, List.getElem?_cons_zero, List.getElem?_cons_succ, get_new, set_app0]
  rw [i2]
  try simp only [↓tV_q, ↓cRet_q, thenE_nx, ends3_rt, onO_some, onN_q, List.getElem?_cons_zero, List.getElem?_cons_succ, set_app0]
  exact .inl qx
theorem turned_tie_q {n : Nat} {sh : List Tri} {k : Int} {h : Sto} {Q : DK} {E : X3} (hn : h[n]? = some (.lst (sh.map triD))) (ok : ShOk sh) (q : ∀ x, sqS sh k = some x → Q (.ref h.length) (h ++ [.lst ((trnS sh k x).map triD)])) (no : sqS sh k = none → E (.type "NoTurn") h) : sp_turned_tie [.ref n, .int k] h Q E :=
  ⟨n, sh, k, rfl, hn, ok, q, no⟩
end F3
set_option maxHeartbeats 400000
/-! UH: ties turned by the law; told or refused; a turned sheet is a sheet. -/
namespace F3
open PySem PySem.Spec PyProof.Rows L2
/-! ### a turned sheet is a sheet -/
theorem sum_set {α : Type} (f : α → Nat) {t' t : α} : ∀ {l : List α} {i : Nat}, l[i]? = some t → ((l.set i t').map f).sum + f t = (l.map f).sum + f t'
  | x :: l, 0, h => by
    have : x = t := by simpa using h
    subst this
    simp only [List.set_cons_zero, List.map_cons, List.sum_cons]
    omega
  | x :: l, i + 1, h => by
    have ih := sum_set f (t' := t') (l := l) (i := i) (by simpa using h)
    simp only [List.set_cons_succ, List.map_cons, List.sum_cons]
    omega
def cntT3 (c : Nat) (t : Tri) : Nat := ([t.1, t.2.1, t.2.2].map Int.natAbs).count c
theorem cnt_sides (c : Nat) : ∀ sh : List Tri, ((sidesS sh).map Int.natAbs).count c = (sh.map (cntT3 c)).sum
  | [] => rfl
  | t :: sh => by
    have ih := cnt_sides c sh
    unfold sidesS at ih ⊢
    rw [List.flatMap_cons, List.map_append, List.count_append, ih]
    show cntT3 c t + _ = _
    rw [List.map_cons (l := sh), List.sum_cons]
theorem cnt3 (c : Nat) (x y z : Int) : cntT3 c (x, y, z) = (if x.natAbs = c then 1 else 0) + (if y.natAbs = c then 1 else 0) + (if z.natAbs = c then 1 else 0) := by
  unfold cntT3
  simp only [List.map_cons, List.map_nil, List.count_cons, List.count_nil, beq_iff_eq]
  omega
theorem cnt_rot (c : Nat) {t : Tri} {s : Int} (h : s ∈ [t.1, t.2.1, t.2.2]) : (rotS t s).1 = s ∧ cntT3 c (rotS t s) = cntT3 c t := by
  obtain ⟨a, b, d⟩ := t
  have hm : s = a ∨ s = b ∨ s = d := by simpa using h
  unfold rotS
  dsimp only
  by_cases h1 : s = a
  · rw [if_pos h1]
    exact ⟨h1.symm, rfl⟩
  · rw [if_neg h1]
    by_cases h2 : s = b
    · rw [if_pos h2]
      refine ⟨h2.symm, ?_⟩
      rw [cnt3, cnt3]; omega
    · rw [if_neg h2]
      have h3 := (hm.resolve_left h1).resolve_left h2
      refine ⟨h3.symm, ?_⟩
      rw [cnt3, cnt3]; omega
theorem sqS_parts {sh : List Tri} {k : Int} {x : Sq} (h : sqS sh k = some x) : ∃ (s r : Int) (t u : Tri), ab s = k ∧ ab r = k ∧ sh[x.1]? = some t ∧ sh[x.2.1]? = some u ∧ s ∈ [t.1, t.2.1, t.2.2] ∧ r ∈ [u.1, u.2.1, u.2.2] ∧ x.1 ≠ x.2.1 ∧
    x.2.2.1 = (rotS t s).2.1 ∧ x.2.2.2.1 = (rotS t s).2.2 ∧ (x.2.2.2.2.1, x.2.2.2.2.2) = (if (rotS u r).1 = (rotS t s).1 then (-(rotS u r).2.2, -(rotS u r).2.1) else ((rotS u r).2.1, (rotS u r).2.2)) := by
  unfold sqS at h
  split at h
  next a b hf =>
    unfold sqOf at h
    have ha : a ∈ (allS sh).filter fun x => decide (ab x.2 = k) := by rw [hf]; exact List.mem_cons_self
    have hb : b ∈ (allS sh).filter fun x => decide (ab x.2 = k) := by rw [hf]; exact List.mem_cons_of_mem _ List.mem_cons_self
    obtain ⟨ha1, ha2⟩ := List.mem_filter.mp ha
    obtain ⟨hb1, hb2⟩ := List.mem_filter.mp hb
    obtain ⟨t, ht, hta⟩ := allS_mem ha1
    obtain ⟨u, hu, hub⟩ := allS_mem hb1
    split at h
    · cases h
    next hne =>
      rw [ht, hu] at h
      cases h
      exact ⟨a.2, b.2, t, u, of_decide_eq_true ha2, of_decide_eq_true hb2, ht, hu, hta, hub, hne, rfl, rfl, rfl⟩
  next => cases h
theorem ShOk.turned {sh : List Tri} (ok : ShOk sh) {k : Int} {x : Sq} (h : sqS sh k = some x) : ShOk (trnS sh k x) := by
  obtain ⟨s, r, t, u, hs, hr, ht, hu, hst, hru, hne, e1, e2, e3⟩ := sqS_parts h
  obtain ⟨m, m1, m6, hm, hp⟩ := ok
  refine ⟨m, m1, m6, by unfold trnS; rw [List.length_set, List.length_set]; exact hm, ?_⟩
  refine List.Perm.trans ?_ hp
  rw [List.perm_iff_count]
  intro c
  rw [cnt_sides, cnt_sides]
  unfold trnS
  have a1 := sum_set (cntT3 c) (t' := (x.2.2.2.1, x.2.2.2.2.1, -k)) ht
  have a2 := sum_set (cntT3 c) (t' := (x.2.2.2.2.2, x.2.2.1, k)) (l := sh.set x.1 (x.2.2.2.1, x.2.2.2.2.1, -k)) (i := x.2.1) (t := u) (by rw [List.getElem?_set_ne hne]; exact hu)
  obtain ⟨f1, f2⟩ := cnt_rot c hst
  obtain ⟨g1, g2⟩ := cnt_rot c hru
  generalize rotS t s = X at f1 f2 e1 e2 e3
  generalize rotS u r = Y at g1 g2 e3
  obtain ⟨X1, X2, X3⟩ := X
  obtain ⟨Y1, Y2, Y3⟩ := Y
  obtain ⟨x1, x2, p, q, v, w⟩ := x
  dsimp only at *
  subst f1 g1 e1 e2
  rw [cnt3 c X1 p q] at f2
  rw [cnt3 c Y1 Y2 Y3] at g2
  rw [cnt3 c q v (-k)] at a1
  rw [cnt3 c w p k] at a2
  have hk : X1.natAbs = k.natAbs ∧ Y1.natAbs = k.natAbs := by
    unfold ab at hs hr
    constructor
    · split at hs <;> omega
    · split at hr <;> omega
  rw [hk.1] at f2
  rw [hk.2] at g2
  have hn : (-k).natAbs = k.natAbs := by omega
  rw [hn] at a1
  split at e3
  · injection e3 with e4 e5
    subst e4 e5
    have n1 : (-Y3).natAbs = Y3.natAbs := by omega
    have n2 : (-Y2).natAbs = Y2.natAbs := by omega
    rw [n1] at a1
    rw [n2] at a2
    omega
  · injection e3 with e4 e5
    subst e4 e5
    omega
/-! ### the law's square -/
def rotA (t : Tri) (k : Int) : Tri := if ab t.1 = k then t else if ab t.2.1 = k then (t.2.1, t.2.2, t.1) else (t.2.2, t.1, t.2.1)
theorem place3 {x y z k : Int} : placeP [.int x, .int y, .int z] (.int k) = if x = k then some 0 else if y = k then some 1 else if z = k then some 2 else none := by
  unfold placeP
  simp only [List.findIdx?_cons, PyData.eqv, List.findIdx?_nil]
  by_cases h1 : x = k
  · simp [h1]
  · by_cases h2 : y = k
    · simp [h1, h2]
    · by_cases h3 : z = k <;> simp [h1, h2, h3]
def e_lfrom_1 : E3 :=
  (tB3 absR (tC3 (tV 3) tN3))
def t_lfrom : C3 :=
  (cSeq (cAsg (tLM idxT (tNew (tLc3 (iSeq (tV 0)) (gN 3) bYes e_lfrom_1 [3])) (tC3 (tV 1) tN3)) (gN 2))
    (cRet (tO addR (tSl3 (tV 0) (oSo (tV 2)) oNo) (tSl3 (tV 0) oNo (oSo (tV 2))))))

def sp_lfrom : Sp3 := spD (fun (a__ : Tri × Int) => match a__ with | (t, k) => [triD t, .int k]) (fun (a__ : Tri × Int) (h : Sto) => match a__ with | (t, k) => ab t.1 = k ∨ ab t.2.1 = k ∨ ab t.2.2 = k) (fun (a__ : Tri × Int) (h : Sto) => match a__ with | (t, k) => triD (rotA t k)) (fun (a__ : Tri × Int) (h : Sto) => match a__ with | (t, k) => h)
theorem mono_lfrom : MonoS sp_lfrom := mono_spD
theorem len_lfrom : ∀ ds h Q E, sp_lfrom ds h Q E → ds.length = 2 := len_spD fun _ => rfl
theorem lfrom_q {t : Tri} {k : Int} {h : Sto} {Q : DK} (hp : ab t.1 = k ∨ ab t.2.1 = k ∨ ab t.2.2 = k) (q : Q (triD (rotA t k)) (h)) : callS sp_lfrom [triD t, .int k] h Q := ⟨(t, k), rfl, hp, q⟩
theorem rd_lfrom : ∀ ds h Q E, ClS h.length h → ClDs h.length ds → sp_lfrom ds h Q E → t_lfrom (ends3 (GQ h.length Q)) (start3 4 ds) h := by
  rintro ds h Q E hcl _ ⟨⟨t, k⟩, rfl, hp0, q0⟩
  have hp : ab t.1 = k ∨ ab t.2.1 = k ∨ ab t.2.2 = k := hp0
  have q : Q (triD (rotA t k)) (h) := q0
  clear hp0 q0
  obtain ⟨a, b, c⟩ := t
  try simp only [↓tV_q, ↓tNew_q, ↓cSeq_q, ↓cAsg_q, ↓iSeq_q, ↓iSeqD_tq, ↓tLc3_q, ↓tLM_q, ↓start3_q, onO_some, wipe3_nil, wipe3_cons, List.getElem?_cons_zero, List.set_cons_zero, List.set_cons_succ, List.map_cons, List.map_nil, List.cons_append, List.nil_append, List.length_cons, List.length_nil, List.replicate_succ, List.replicate_zero, Nat.reduceAdd, Nat.reduceSub, Nat.reduceLeDiff, true_and, t_lfrom, triD]
  refine lcMap (f := fun v : Int => D.int v) (xs := [a, b, c]) (r := fun v => D.int (ab v)) trivial ?_ ?_
  · try simp only [↓tV_q, ↓tO_q, ↓tN3_q, ↓tC3_q, ↓cRet_q, ↓gN_q, ↓tSl3_q, ↓oSo_q, ↓lmD_q, ↓start3_q, thenE_nx, onO_some, onC_q, List.getElem?_cons_zero, List.getElem?_cons_succ, List.set_cons_zero, List.set_cons_succ, List.map_cons, List.map_nil, List.cons_append, List.nil_append, List.length_cons, List.length_nil, List.replicate_succ, List.replicate_zero, Nat.reduceAdd, Nat.reduceSub, get_new]
    unfold rotA at q
    dsimp only at q hp
    have tail : ∀ x, Q (triD x) h → GQ h.length Q (triD x) (h ++ [.lst [.int (ab a), .int (ab b), .int (ab c)]]) := fun x q => gq_tail rfl (by simp [ClD, triD, ClDs]) hcl q
    by_cases h1 : ab a = k
    · rw [if_pos h1] at q
      refine idxT_of (ps := [.int (ab a), .int (ab b), .int (ab c)]) (p := .int k) (j := 0) rfl rfl (by rw [place3, if_pos h1]) ?_
      try simp only [↓tV_q, ↓tSl3_q, ↓oNo_q, ↓oSo_q, ↓addR_tt_q, ↓slR_t_q, ends3_rt, onO_some, onI_int, List.getElem?_cons_zero, List.getElem?_cons_succ, set_app0]
      exact ⟨show [D.int a, D.int b, D.int c] ≠ [] from List.cons_ne_nil _ _, show 3 + 0 ≤ 16777216 by decide, tail _ q⟩
    · rw [if_neg h1] at q
      by_cases h2 : ab b = k
      · rw [if_pos h2] at q
        refine idxT_of (ps := [.int (ab a), .int (ab b), .int (ab c)]) (p := .int k) (j := 1) rfl rfl (by rw [place3, if_neg h1, if_pos h2]) ?_
        try simp only [↓tV_q, ↓tSl3_q, ↓oNo_q, ↓oSo_q, ↓addR_tt_q, ↓slR_t_q, ends3_rt, onO_some, onI_int, List.getElem?_cons_zero, List.getElem?_cons_succ, set_app0]
        exact ⟨show [D.int b, D.int c] ≠ [] from List.cons_ne_nil _ _, show 2 + 1 ≤ 16777216 by decide, tail _ q⟩
      · rw [if_neg h2] at q
        refine idxT_of (ps := [.int (ab a), .int (ab b), .int (ab c)]) (p := .int k) (j := 2) rfl rfl (by rw [place3, if_neg h1, if_neg h2, if_pos ((hp.resolve_left h1).resolve_left h2)]) ?_
        try simp only [↓tV_q, ↓tSl3_q, ↓oNo_q, ↓oSo_q, ↓addR_tt_q, ↓slR_t_q, ends3_rt, onO_some, onI_int, List.getElem?_cons_zero, List.getElem?_cons_succ, set_app0]
        exact ⟨show [D.int c] ≠ [] from List.cons_ne_nil _ _, show 1 + 2 ≤ 16777216 by decide, tail _ q⟩
  · intro v _ Q' hQ
    try simp only [↓tV_q, ↓tN3_q, ↓tC3_q, ↓gN_q, ↓tB3_q, ↓absR_i_q, onO_some, List.getElem?_cons_zero, List.getElem?_cons_succ, List.set_cons_zero, List.set_cons_succ, e_lfrom_1]
    exact hQ
def anyK (k : Int) (p : Nat × Tri) : Bool := decide (ab p.2.1 = k) || decide (ab p.2.2.1 = k) || decide (ab p.2.2.2 = k)
def sqpS (sh : List Tri) (k : Int) : List Nat := ((numT sh).filter (anyK k)).map Prod.fst
def cK (k : Int) (p : Nat × Tri) : List (Nat × Int) := (trS p).filter fun x => decide (ab x.2 = k)
theorem cK_any {k : Int} {p : Nat × Tri} : anyK k p = !(cK k p).isEmpty := by
  unfold anyK cK trS
  simp only [List.map_cons, List.map_nil, List.filter_cons, List.filter_nil]
  by_cases h1 : ab p.2.1 = k <;> by_cases h2 : ab p.2.2.1 = k <;> by_cases h3 : ab p.2.2.2 = k <;> simp [h1, h2, h3]
theorem cK_fst {k : Int} {p : Nat × Tri} {x : Nat × Int} (h : x ∈ cK k p) : x.1 = p.1 := by
  obtain ⟨h1, _⟩ := List.mem_filter.mp h
  obtain ⟨s, _, rfl⟩ := List.mem_map.mp h1
  rfl
theorem cK_none {k : Int} : ∀ {L : List (Nat × Tri)}, L.flatMap (cK k) = [] → L.filter (anyK k) = []
  | [], _ => rfl
  | p :: L, h => by
    rw [List.flatMap_cons, List.append_eq_nil_iff] at h
    rw [List.filter_cons, cK_any, h.1]
    exact cK_none h.2
theorem cK_one {k : Int} {a : Nat × Int} : ∀ {L : List (Nat × Tri)}, L.flatMap (cK k) = [a] → ∃ p ∈ L, cK k p = [a] ∧ L.filter (anyK k) = [p]
  | [], h => by cases h
  | p :: L, h => by
    rw [List.flatMap_cons] at h
    rw [List.filter_cons, cK_any]
    match hc : cK k p, h with
    | [], h =>
      obtain ⟨q, hq, e1, e2⟩ := cK_one (L := L) h
      exact ⟨q, List.mem_cons_of_mem _ hq, e1, e2⟩
    | x :: r, h =>
      rw [List.cons_append] at h
      injection h with h1 h2
      rw [List.append_eq_nil_iff] at h2
      refine ⟨p, List.mem_cons_self, by rw [hc, h1, h2.1], ?_⟩
      rw [cK_none h2.2]; rfl
theorem cK_two {k : Int} {a b : Nat × Int} : ∀ {L : List (Nat × Tri)}, L.flatMap (cK k) = [a, b] →
    (∃ p ∈ L, cK k p = [a, b] ∧ L.filter (anyK k) = [p]) ∨ ∃ p ∈ L, ∃ q ∈ L, cK k p = [a] ∧ cK k q = [b] ∧ L.filter (anyK k) = [p, q]
  | [], h => by cases h
  | p :: L, h => by
    rw [List.flatMap_cons] at h
    rw [List.filter_cons, cK_any]
    match hc : cK k p, h with
    | [], h =>
      rcases cK_two (L := L) h with ⟨q, hq, e1, e2⟩ | ⟨q, hq, r, hr, e1, e2, e3⟩
      · exact .inl ⟨q, List.mem_cons_of_mem _ hq, e1, e2⟩
      · exact .inr ⟨q, List.mem_cons_of_mem _ hq, r, List.mem_cons_of_mem _ hr, e1, e2, e3⟩
    | [x], h =>
      rw [List.singleton_append] at h
      injection h with h1 h2
      obtain ⟨q, hq, e1, e2⟩ := cK_one (L := L) h2
      exact .inr ⟨p, List.mem_cons_self, q, List.mem_cons_of_mem _ hq, by rw [hc, h1], e1, by rw [e2]; rfl⟩
    | x :: y :: r, h =>
      rw [List.cons_append, List.cons_append] at h
      injection h with h1 h2
      injection h2 with h2 h3
      rw [List.append_eq_nil_iff] at h3
      exact .inl ⟨p, List.mem_cons_self, by rw [hc, h1, h2, h3.1], by rw [cK_none h3.2]; rfl⟩
theorem cK_rot {k : Int} {i : Nat} {t : Tri} {a : Nat × Int} (h : cK k (i, t) = [a]) : rotA t k = rotS t a.2 ∧ (ab t.1 = k ∨ ab t.2.1 = k ∨ ab t.2.2 = k) := by
  obtain ⟨x, y, z⟩ := t
  unfold cK trS at h
  simp only [List.map_cons, List.map_nil, List.filter_cons, List.filter_nil] at h
  unfold rotA rotS
  dsimp only
  by_cases h1 : ab x = k
  · by_cases h2 : ab y = k
    · by_cases h3 : ab z = k <;> simp [h1, h2, h3] at h
    · by_cases h3 : ab z = k
      · simp [h1, h2, h3] at h
      · simp only [h1, h2, h3, decide_true, decide_false, if_true, List.cons.injEq, Bool.false_eq_true, if_false, and_true] at h
        subst h
        exact ⟨by rw [if_pos h1, if_pos rfl], .inl h1⟩
  · by_cases h2 : ab y = k
    · by_cases h3 : ab z = k
      · simp [h1, h2, h3] at h
      · simp only [h1, h2, h3, decide_true, decide_false, if_true, List.cons.injEq, Bool.false_eq_true, if_false, and_true] at h
        subst h
        exact ⟨by rw [if_neg h1, if_pos h2, if_neg (fun z => h1 (by rw [← z]; exact h2)), if_pos rfl], .inr (.inl h2)⟩
    · by_cases h3 : ab z = k
      · simp only [h1, h2, h3, decide_true, decide_false, if_true, List.cons.injEq, Bool.false_eq_true, if_false, and_true] at h
        subst h
        exact ⟨by rw [if_neg h1, if_neg h2, if_neg (fun z => h1 (by rw [← z]; exact h3)), if_neg (fun z => h2 (by rw [← z]; exact h3))], .inr (.inr h3)⟩
      · simp [h1, h2, h3] at h
theorem numT_nd {sh : List Tri} : ((numT sh).map Prod.fst).Nodup := by
  have : (numT sh).map Prod.fst = List.range sh.length := by
    apply List.ext_getElem?
    intro i
    unfold numT
    rw [List.getElem?_map, List.getElem?_mapIdx, Option.map_map]
    by_cases hi : i < sh.length
    · rw [List.getElem?_eq_getElem hi, List.getElem?_eq_getElem (by simpa using hi)]
      simp
    · rw [List.getElem?_eq_none (by omega), List.getElem?_eq_none (by simpa using hi)]
      rfl
  rw [this]
  exact List.nodup_range
/-- what the law finds of a tie -/
theorem law_sq {sh : List Tri} (ok : ShOk sh) {m : Nat} (hm : sh.length = 2 * m) {k : Int} (h1 : 1 ≤ k) (h2 : k ≤ 3 * m) :
    (sqS sh k = none ∧ (sqpS sh k).length ≠ 2) ∨ ∃ (i j : Nat) (t u : Tri) (x : Sq), sqS sh k = some x ∧ sqpS sh k = [i, j] ∧ sh[i]? = some t ∧ sh[j]? = some u ∧ (ab t.1 = k ∨ ab t.2.1 = k ∨ ab t.2.2 = k) ∧ (ab u.1 = k ∨ ab u.2.1 = k ∨ ab u.2.2 = k) ∧
      x = (i, j, (rotA t k).2.1, (rotA t k).2.2, if (rotA t k).1 = (rotA u k).1 then (-(rotA u k).2.2, -(rotA u k).2.1) else ((rotA u k).2.1, (rotA u k).2.2)) := by
  obtain ⟨a, b, hf⟩ := tie_pair ok hm h1 h2
  have hc : (numT sh).flatMap (cK k) = [a, b] := by
    rw [← hf]
    unfold allS
    rw [List.filter_flatMap]; rfl
  have mem : ∀ p ∈ numT sh, sh[p.1]? = some p.2 := fun p hp => by
    unfold numT at hp
    obtain ⟨i, hi⟩ := List.mem_iff_getElem?.mp hp
    rw [List.getElem?_mapIdx] at hi
    obtain ⟨t, ht, rfl⟩ := Option.map_eq_some_iff.mp hi
    exact ht
  rcases cK_two hc with ⟨p, hp, e1, e2⟩ | ⟨p, hp, q, hq, e1, e2, e3⟩
  · refine .inl ⟨?_, ?_⟩
    · unfold sqS
      rw [hf]
      unfold sqOf
      dsimp only
      rw [if_pos]
      rw [cK_fst (k := k) (p := p) (x := a) (by rw [e1]; exact List.mem_cons_self), cK_fst (k := k) (p := p) (x := b) (by rw [e1]; exact List.mem_cons_of_mem _ List.mem_cons_self)]
    · unfold sqpS
      rw [e2]
      simp
  · have fa := cK_fst (k := k) (p := p) (x := a) (by rw [e1]; exact List.mem_cons_self)
    have fb := cK_fst (k := k) (p := q) (x := b) (by rw [e2]; exact List.mem_cons_self)
    have ne : p.1 ≠ q.1 := by
      have := (List.filter_sublist (l := numT sh) (p := anyK k)).map Prod.fst |>.nodup numT_nd
      rw [e3] at this
      simp only [List.map_cons, List.map_nil, List.nodup_cons, List.mem_singleton] at this
      exact this.1
    obtain ⟨pi, pt⟩ := p
    obtain ⟨qi, qt⟩ := q
    obtain ⟨r1, r2⟩ := cK_rot e1
    obtain ⟨r3, r4⟩ := cK_rot e2
    refine .inr ⟨pi, qi, pt, qt, _, ?_, by unfold sqpS; rw [e3]; rfl, mem _ hp, mem _ hq, r2, r4, rfl⟩
    unfold sqS
    rw [hf]
    unfold sqOf
    dsimp only at fa fb ne ⊢
    rw [if_neg (by rw [fa, fb]; exact ne), fa, fb, mem _ hp, mem _ hq, r1, r3]
    dsimp only
    congr 5
    by_cases z : (rotS qt b.2).1 = (rotS pt a.2).1
    · rw [if_pos z, if_pos z.symm]
    · rw [if_neg z, if_neg fun y => z y.symm]
def e_lsquare_1 : E3 :=
  (tB3 absR (tC3 (tV 11) tN3))
def e_lsquare_2 : E3 :=
  (tV 9)
def r_lsquare_2 : C3 :=
  (cRet (tTup3 (tC3 (tV 2) (tC3 (tTup3 (tC3 (tV 4) (tC3 (tV 5) (tC3 (tV 7) (tC3 (tV 8) tN3))))) tN3))))
def r_lsquare_1 : C3 :=
  (cSeq (cAsg (tCall3 sp_lfrom (tC3 (tO ixR (tV 0) (tO ixR (tV 2) (tK (.int 0)))) (tC3 (tV 1) tN3))) (gTup3 3 (gCons3 (gN 3) (gCons3 (gN 4) (gCons3 (gN 5) gNil3)))))
    (cSeq (cAsg (tCall3 sp_lfrom (tC3 (tO ixR (tV 0) (tO ixR (tV 2) (tK (.int 1)))) (tC3 (tV 1) tN3))) (gTup3 3 (gCons3 (gN 6) (gCons3 (gN 7) (gCons3 (gN 8) gNil3)))))
    (cSeq (cIf (tT (tO eqR (tV 3) (tV 6))) (cRet (tTup3 (tC3 (tV 2) (tC3 (tTup3 (tC3 (tV 4) (tC3 (tV 5) (tC3 (tU negR (tV 8)) (tC3 (tU negR (tV 7)) tN3))))) tN3)))) cNext)
    r_lsquare_2)))
def t_lsquare : C3 :=
  (cSeq (cAsg (tNew (tLc3 (iEnum3 (tC3 (tV 0) tN3)) (gTup3 2 (gCons3 (gN 9) (gCons3 (gN 10) gNil3))) (tT (tOX inX (tV 1) (tLc3 (iSeq (tV 10)) (gN 11) bYes e_lsquare_1 [11]))) e_lsquare_2 [9, 10])) (gN 2))
    (cSeq (cIf (tT (tO neR (tB3 lenR (tC3 (tV 2) tN3)) (tK (.int 2)))) (cRet (tK .non)) cNext)
    r_lsquare_1))

def sp_lsquare : Sp3 := spR (fun (a : Nat × Int × List Tri) => [.ref a.1, .int a.2.1]) (fun a h => h[a.1]? = some (.lst (a.2.2.map triD)) ∧ ShOk a.2.2 ∧ 1 ≤ a.2.1 ∧ a.2.1 ≤ 3 * (a.2.2.length / 2))
  (fun a h d h' => (sqS a.2.2 a.2.1 = none ∧ d = .non ∧ h' = h) ∨ ∃ x, sqS a.2.2 a.2.1 = some x ∧ d = .tup [.ref h.length, .tup [.int x.2.2.1, .int x.2.2.2.1, .int x.2.2.2.2.1, .int x.2.2.2.2.2]] ∧ h' = h ++ [.lst [.int x.1, .int x.2.1]])
theorem mono_lsquare : MonoS sp_lsquare := mono_spR
theorem len_lsquare : ∀ ds h Q E, sp_lsquare ds h Q E → ds.length = 2 := len_spR fun _ => rfl
theorem rd_lsquare : ∀ ds h Q E, ClS h.length h → ClDs h.length ds → sp_lsquare ds h Q E → t_lsquare (ends3 (GQ h.length Q)) (start3 12 ds) h := by
  rintro ds h Q E hcl _ ⟨⟨n, k, sh⟩, rfl, ⟨hn, ok, k1, k2⟩, q⟩
  have hn' : h[n]? = some (.lst (sh.map triD)) := hn
  have ok' : ShOk sh := ok
  have k1' : 1 ≤ k := k1
  have k2' : k ≤ 3 * (sh.length / 2) := k2
  obtain ⟨m, m1, m6, hm, em⟩ := ok'.half
  try simp only [↓tV_q, ↓tN3_q, ↓tC3_q, ↓tNew_q, ↓cSeq_q, ↓cAsg_q, ↓iEnum3_q, ↓enD_q, ↓tLc3_q, ↓start3_q, onO_some, onC_q, wipe3_nil, wipe3_cons, List.getElem?_cons_zero, List.set_cons_zero, List.set_cons_succ, List.map_cons, List.map_nil, List.cons_append, List.nil_append, List.length_cons, List.length_nil, List.replicate_succ, List.replicate_zero, Nat.reduceAdd, Nat.reduceSub, t_lsquare, hn']
  rw [numT_D]
  refine ⟨by rw [List.length_map, numT_len]; omega, ?_⟩
  refine lcL (f := numD) (fun l acc h' => acc = ((l.filter (anyK k)).map Prod.fst).map (fun (i : Nat) => D.int (i : Int)) ∧ h' = h) ⟨rfl, rfl⟩ ?_ ?_ ?_
  · rintro _ _ h' ⟨_, e⟩
    rw [e]
    exact hn'
  · rintro _ h' ⟨ea, e⟩
    rw [e, ea, show ((numT sh).filter (anyK k)).map Prod.fst = sqpS sh k from rfl]
    rcases law_sq ok' hm k1' (by omega) with ⟨s1, s2⟩ | ⟨i, j, t, u, x, s1, s2, ht, hu, rt, ru, s3⟩
    · try simp only [↓tV_q, ↓tK_q, ↓tO_q, ↓tT_q, ↓tN3_q, ↓tC3_q, ↓cSeq_q, ↓cIf_q, ↓gN_q, ↓tB3_q, ↓start3_q, ↓neR_ii_q, ↓lenR_rq, thenE_nx, onO_some, onB_bl, onC_q, List.getElem?_cons_zero, List.getElem?_cons_succ, List.set_cons_zero, List.set_cons_succ, List.map_cons, List.map_nil, List.cons_append, List.nil_append, List.length_cons, List.length_nil, List.replicate_succ, List.replicate_zero, Nat.reduceAdd, Nat.reduceSub, get_new, List.length_map]
      rw [decide_eq_false (show ¬ ((sqpS sh k).length : Int) = 2 by omega)]
      try simp only [↓tK_q, ↓cRet_q, thenE_rt, ends3_rt, ifC_true, Bool.not_false]
      exact gq_tail rfl (by simp [ClD]) hcl (q _ _ (.inl ⟨s1, rfl, rfl⟩))
    · rw [s2]
      try simp only [↓tV_q, ↓tK_q, ↓tO_q, ↓tT_q, ↓tN3_q, ↓tC3_q, ↓cSeq_q, ↓cIf_q, ↓gN_q, ↓tB3_q, ↓start3_q, ↓neR_ii_q, ↓lenR_rq, thenE_nx, onO_some, onB_bl, onC_q, List.getElem?_cons_zero, List.getElem?_cons_succ, List.set_cons_zero, List.set_cons_succ, List.map_cons, List.map_nil, List.cons_append, List.nil_append, List.length_cons, List.length_nil, List.replicate_succ, List.replicate_zero, Nat.reduceAdd, Nat.reduceSub, get_new]
      rw [decide_eq_true (show ((2 : Nat) : Int) = 2 from rfl)]
      have e0 : (h ++ [Cell.lst [.int (i : Int), .int (j : Int)]])[n]? = some (.lst (sh.map triD)) := get_up hn'
      try simp only [↓tV_q, ↓tK_q, ↓tO_q, ↓tC3_q, ↓cNext_q, ↓cSeq_q, ↓cAsg_q, ↓tCall3_q, ↓ixR_rq, thenE_nx, onO_some, ifC_false, onC_q, atT_0, List.getElem?_cons_zero, List.getElem?_cons_succ, Bool.not_true, r_lsquare_1, get_new, e0]
      rw [atT_of (d := triD t) (by rw [atI_map, atI_at ht]; rfl)]
      try simp only [↓tV_q, ↓tN3_q, ↓tC3_q, onO_some, List.getElem?_cons_zero, List.getElem?_cons_succ]
      refine lfrom_q rt ?_
      generalize rotA t k = X at s3 ⊢
      try simp only [↓tV_q, ↓tK_q, ↓tO_q, ↓tC3_q, ↓cSeq_q, ↓cAsg_q, ↓gN_q, ↓gNil3_q, ↓gCons3_q, ↓gTup3_q, ↓tCall3_q, ↓ixR_rq, thenE_nx, onO_some, onC_q, atT_0, atT_1, List.getElem?_cons_zero, List.getElem?_cons_succ, List.set_cons_zero, List.set_cons_succ, List.length_cons, List.length_nil, Nat.reduceAdd, true_and, triD, get_new, e0]
      rw [atT_of (d := triD u) (by rw [atI_map, atI_at hu]; rfl)]
      try simp only [↓tV_q, ↓tN3_q, ↓tC3_q, onO_some, List.getElem?_cons_zero, List.getElem?_cons_succ]
      refine lfrom_q ru ?_
      generalize rotA u k = Y at s3 ⊢
      have fin := q _ _ (.inr ⟨x, s1, rfl, rfl⟩)
      rw [s3] at fin
      dsimp only at fin
      try simp only [↓tV_q, ↓tO_q, ↓tT_q, ↓cSeq_q, ↓cIf_q, ↓gN_q, ↓gNil3_q, ↓gCons3_q, ↓gTup3_q, ↓eqR_ii_q, thenE_nx, onO_some, onB_bl, List.getElem?_cons_zero, List.getElem?_cons_succ, List.set_cons_zero, List.set_cons_succ, List.length_cons, List.length_nil, Nat.reduceAdd, true_and, triD]
      refine ifC_of (fun h4 => ?_) (fun h4 => ?_)
      · rw [if_pos h4] at fin
        try simp only [↓tV_q, ↓tU_q, ↓tN3_q, ↓tC3_q, ↓tTup3_q, ↓cRet_q, ↓negR_i_q, thenE_rt, ends3_rt, onO_some, List.getElem?_cons_zero, List.getElem?_cons_succ]
        exact .inl fin
      · rw [if_neg h4] at fin
        try simp only [↓tV_q, ↓tN3_q, ↓tC3_q, ↓tTup3_q, ↓cNext_q, ↓cRet_q, thenE_nx, ends3_rt, onO_some, List.getElem?_cons_zero, List.getElem?_cons_succ, r_lsquare_2]
        exact .inl fin
  · rintro l p r acc h' F e ⟨ea, eh⟩ hF
    rw [eh]
    try simp only [↓tV_q, ↓tT_q, ↓gN_q, ↓gNil3_q, ↓gCons3_q, ↓gTup3_q, ↓iSeq_q, ↓iSeqD_tq, ↓tLc3_q, ↓tOX_q, onO_some, wipe3_nil, wipe3_cons, List.getElem?_cons_zero, List.getElem?_cons_succ, List.set_cons_zero, List.set_cons_succ, List.length_cons, List.length_nil, Nat.reduceAdd, Nat.reduceLeDiff, true_and, numD, triD]
    refine lcMap (f := fun v : Int => D.int v) (xs := [p.2.1, p.2.2.1, p.2.2.2]) (r := fun v => D.int (ab v)) trivial ?_ ?_
    · have ei : inD (.int k) [.int (ab p.2.1), .int (ab p.2.2.1), .int (ab p.2.2.2)] = anyK k p := by
        rw [Bool.eq_iff_iff]
        unfold anyK
        simp only [inD, eqD, Bool.or_eq_true, decide_eq_true_eq, Bool.or_false, beq_iff_eq, Bool.false_eq_true, or_false, List.any_cons, List.any_nil]
        omega
      try simp only [↓inX_q, onB_bl, List.map_cons, List.map_nil]
      refine ⟨⟨rfl, rfl⟩, ?_⟩
      rw [ei]
      cases ha : anyK k p with
      | true =>
        try simp only [↓tV_q, onO_some, ifC_true, List.getElem?_cons_zero, List.getElem?_cons_succ, e_lsquare_2]
        exact hF _ _ ⟨by rw [ea, List.filter_append, List.filter_cons, ha]; simp, rfl⟩
      | false =>
        try simp only [ifC_false]
        exact hF _ _ ⟨by rw [ea, List.filter_append, List.filter_cons, ha]; simp, rfl⟩
    · intro v _ Q' hQ
      try simp only [↓tV_q, ↓tN3_q, ↓tC3_q, ↓gN_q, ↓tB3_q, ↓absR_i_q, onO_some, List.getElem?_cons_zero, List.getElem?_cons_succ, List.set_cons_zero, List.set_cons_succ, e_lsquare_1]
      exact hQ
theorem lsquare_q {n : Nat} {k : Int} {sh : List Tri} {h : Sto} {Q : DK} (hn : h[n]? = some (.lst (sh.map triD))) (ok : ShOk sh) (h1 : 1 ≤ k) (h2 : k ≤ 3 * (sh.length / 2)) (q0 : sqS sh k = none → Q .non h)
    (q1 : ∀ x, sqS sh k = some x → Q (.tup [.ref h.length, .tup [.int x.2.2.1, .int x.2.2.2.1, .int x.2.2.2.2.1, .int x.2.2.2.2.2]]) (h ++ [.lst [.int x.1, .int x.2.1]])) : callS sp_lsquare [.ref n, .int k] h Q :=
  ⟨(n, k, sh), rfl, ⟨hn, ok, h1, h2⟩, by
    rintro _ _ (⟨e, rfl, rfl⟩ | ⟨x, e, rfl, rfl⟩)
    · exact q0 e
    · exact q1 x e⟩
def t_lturned : C3 :=
  (cSeq (cAsg (tCall3 sp_lsquare (tC3 (tV 0) (tC3 (tV 1) tN3))) (gTup3 2 (gCons3 (gN 2) (gCons3 (gN 3) gNil3))))
    (cSeq (cAsg (tV 3) (gTup3 4 (gCons3 (gN 4) (gCons3 (gN 5) (gCons3 (gN 6) (gCons3 (gN 7) gNil3))))))
    (cSeq (cAsg (tNew (tL3 lstM (tC3 (tV 0) tN3))) (gN 8))
    (cSeq (cAsg (tTup3 (tC3 (tV 5) (tC3 (tV 6) (tC3 (tU negR (tV 1)) tN3)))) (gSub3 (tV 8) (tO ixR (tV 2) (tK (.int 0)))))
    (cSeq (cAsg (tTup3 (tC3 (tV 7) (tC3 (tV 4) (tC3 (tV 1) tN3)))) (gSub3 (tV 8) (tO ixR (tV 2) (tK (.int 1)))))
    (cRet (tV 8)))))))

def sp_lturned : Sp3 := spR (fun (a : Nat × Int × List Tri × Sq) => [.ref a.1, .int a.2.1]) (fun a h => h[a.1]? = some (.lst (a.2.2.1.map triD)) ∧ ShOk a.2.2.1 ∧ (1 ≤ a.2.1 ∧ a.2.1 ≤ 3 * (a.2.2.1.length / 2)) ∧ sqS a.2.2.1 a.2.1 = some a.2.2.2)
  (fun a h d h' => d = .ref h.length ∧ h' = h ++ [.lst ((trnS a.2.2.1 a.2.1 a.2.2.2).map triD)])
theorem mono_lturned : MonoS sp_lturned := mono_spR
theorem len_lturned : ∀ ds h Q E, sp_lturned ds h Q E → ds.length = 2 := len_spR fun _ => rfl
theorem rd_lturned : ∀ ds h Q E, ClS h.length h → ClDs h.length ds → sp_lturned ds h Q E → t_lturned (ends3 (GQ h.length Q)) (start3 9 ds) h := by
  rintro ds h Q E hcl _ ⟨⟨n, k, sh, x⟩, rfl, ⟨hn, ok, ⟨k1, k2⟩, hx⟩, q⟩
  have hn' : h[n]? = some (.lst (sh.map triD)) := hn
  have hx' : sqS sh k = some x := hx
  have qx := q _ _ ⟨rfl, rfl⟩
  dsimp only at qx k1 k2
  try simp only [↓tV_q, ↓tN3_q, ↓tC3_q, ↓cSeq_q, ↓cAsg_q, ↓tCall3_q, ↓start3_q, onO_some, List.getElem?_cons_zero, List.getElem?_cons_succ, List.map_cons, List.map_nil, List.cons_append, List.nil_append, List.length_cons, List.length_nil, List.replicate_succ, List.replicate_zero, Nat.reduceAdd, Nat.reduceSub, t_lturned]
  refine lsquare_q hn' ok k1 k2 (fun e => by rw [e] at hx'; cases hx') fun y hy => ?_
  rw [hx'] at hy
  injection hy with hy
  subst hy
  obtain ⟨l1, l2, l3⟩ := sqS_lt hx'
  have i1 : ixN (sh.map triD).length (x.1 : Int) = some x.1 := by
    rw [List.length_map]
    exact ixN_nat l1
  have i2 : ∀ y, ixN ((sh.map triD).set x.1 y).length (x.2.1 : Int) = some x.2.1 := fun y => by
    rw [List.length_set, List.length_map]
    exact ixN_nat l2
  have et : (trnS sh k x).map triD = ((sh.map triD).set x.1 (.tup [.int x.2.2.2.1, .int x.2.2.2.2.1, .int (-k)])).set x.2.1 (.tup [.int x.2.2.2.2.2, .int x.2.2.1, .int k]) := by
    unfold trnS
    rw [List.map_set, List.map_set]; rfl
  rw [et] at qx
  have e0 : ∀ g : Sto, (Ap h g)[n]? = some (.lst (sh.map triD)) := fun g => get_up hn'
  rw [show h ++ [Cell.lst [.int (x.1 : Int), .int (x.2.1 : Int)]] = Ap h [.lst [.int (x.1 : Int), .int (x.2.1 : Int)]] from rfl]
  try simp only [↓tV_q, ↓tK_q, ↓tO_q, ↓tU_q, ↓tN3_q, ↓tC3_q, ↓tTup3_q, ↓tNew_q, ↓cSeq_q, ↓cAsg_q, ↓gN_q, ↓gNil3_q, ↓gCons3_q, ↓gTup3_q, ↓gSub3_q, ↓setR_q, ↓tL3_q, ↓start3_q, ↓negR_i_q, ↓ixR_rq, ↓lstM_rq, ↓Ap_len, ↓Ap_app, ↓Ap_get0, ↓Ap_getk, thenE_nx, onO_some, onC_q, atT_0, List.getElem?_cons_zero, List.getElem?_cons_succ, List.set_cons_zero, List.set_cons_succ, List.map_cons, List.map_nil, List.cons_append, List.nil_append, List.length_cons, List.length_nil, List.replicate_succ, List.replicate_zero, Nat.reduceAdd, Nat.reduceSub, true_and, e0]
  rw [i1]
  try simp only [↓tV_q, ↓tK_q, ↓tO_q, ↓tN3_q, ↓tC3_q, ↓tTup3_q, ↓cSeq_q, ↓cAsg_q, ↓gSub3_q, ↓setR_q, ↓ixR_rq, ↓Ap_get0, ↓Ap_getk, ↓Ap_setk, thenE_nx, onO_some, onC_q, onN_q, atT_0, atT_1, List.getElem?_cons_zero, List.getElem?_cons_succ, List.set_cons_zero, List.set_cons_succ]
  rw [i2]
  try simp only [↓tV_q, ↓cRet_q, ↓Ap_setk, thenE_nx, ends3_rt, onO_some, onN_q, List.getElem?_cons_zero, List.getElem?_cons_succ, List.set_cons_zero, List.set_cons_succ]
  exact gq_one (k := 1) rfl rfl (by rw [← et]; exact cl_tri) hcl qx
theorem lturned_q {n : Nat} {k : Int} {sh : List Tri} {x : Sq} {h : Sto} {Q : DK} (hn : h[n]? = some (.lst (sh.map triD))) (ok : ShOk sh) (h1 : 1 ≤ k) (h2 : k ≤ 3 * (sh.length / 2)) (hx : sqS sh k = some x)
    (q : Q (.ref h.length) (h ++ [.lst ((trnS sh k x).map triD)])) : callS sp_lturned [.ref n, .int k] h Q :=
  ⟨(n, k, sh, x), rfl, ⟨hn, ok, ⟨h1, h2⟩, hx⟩, by rintro _ _ ⟨rfl, rfl⟩; exact q⟩
/-! ### told or refused -/
def y_told62_1 (E4 : X4) : C3 :=
  (cRet (tCallX sp_turned_tie E4 (tC3 (tV 0) (tC3 (tV 1) tN3))))
def u_told62_1 (a : Addr) (c : String) : C3 :=
  (cIf (tAnd3 (tT (tIsE 2 a (subE c "NoTurn"))) (tAnd3 (tT (tIsE 2 a true)) (tNot3 (tT (tIsE 2 a (anyE c ["NoCord", "NoRow", "NoSheet"])))))) (cRet (tK (.str "no turn"))) cNext)
def t_told62 : C3 :=
  (cSeq (cTryE ["NoTurn"] 2 y_told62_1 u_told62_1)
    (cRet (tK (.str "other"))))

def sp_told62 : Sp3 := spR (fun (a : Nat × Int × List Tri) => [.ref a.1, .int a.2.1]) (fun a h => h[a.1]? = some (.lst (a.2.2.map triD)) ∧ ShOk a.2.2)
  (fun a h d h' => (sqS a.2.2 a.2.1 = none ∧ d = .str "no turn" ∧ h' = h) ∨ ∃ x, sqS a.2.2 a.2.1 = some x ∧ d = .ref h.length ∧ h' = h ++ [.lst ((trnS a.2.2 a.2.1 x).map triD)])
theorem mono_told62 : MonoS sp_told62 := mono_spR
theorem len_told62 : ∀ ds h Q E, sp_told62 ds h Q E → ds.length = 2 := len_spR fun _ => rfl
theorem told62_q {n : Nat} {k : Int} {sh : List Tri} {h : Sto} {Q : DK} (hn : h[n]? = some (.lst (sh.map triD))) (ok : ShOk sh) (q0 : sqS sh k = none → Q (.str "no turn") h) (q1 : ∀ x, sqS sh k = some x → Q (.ref h.length) (h ++ [.lst ((trnS sh k x).map triD)])) : callS sp_told62 [.ref n, .int k] h Q :=
  ⟨(n, k, sh), rfl, ⟨hn, ok⟩, by
    rintro _ _ (⟨e, rfl, rfl⟩ | ⟨x, e, rfl, rfl⟩)
    · exact q0 e
    · exact q1 x e⟩
theorem rd_told62 : ∀ ds h Q E, ClS h.length h → ClDs h.length ds → sp_told62 ds h Q E → t_told62 (ends3 (GQ h.length Q)) (start3 3 ds) h := by
  rintro ds h Q E hcl _ ⟨⟨n, k, sh⟩, rfl, ⟨hn, ok⟩, q⟩
  have end_ : sqS sh k = none → ∀ a, u_told62_1 a "NoTurn" (sufE 2 (thenE (cRet (tK (.str "other"))) (ends3 (GQ h.length Q)))) [some (.ref n), some (.int k), some (.adr a)] h := by
    intro o a
    have s1 : anyE "NoTurn" ["NoCord", "NoRow", "NoSheet"] = false := by decide
    have s2 : subE "NoTurn" "NoTurn" = true := by decide
    try simp only [↓tK_q, ↓tT_q, ↓tAnd3_q, ↓tNot3_q, ↓cRet_q, ↓cIf_q, ↓tIsE_q, ↓isAd_q, ↓sufE_rt, thenE_rt, ends3_rt, onB_bl, ifC_true, List.getElem?_cons_zero, List.getElem?_cons_succ, Bool.not_false, u_told62_1, isAd_q, s1, s2]
    exact .inl (q _ _ (.inl ⟨o, rfl, rfl⟩))
  try simp only [↓tV_q, ↓tN3_q, ↓tC3_q, ↓cSeq_q, ↓cRet_q, ↓start3_q, ↓tCallX_q, ↓cTryE_q, onO_some, List.getElem?_cons_zero, List.getElem?_cons_succ, List.map_cons, List.map_nil, List.cons_append, List.nil_append, List.length_cons, List.length_nil, List.replicate_succ, List.replicate_zero, Nat.reduceAdd, Nat.reduceSub, t_told62, y_told62_1]
  exact ⟨n, sh, k, rfl, hn, ok, fun x hx => .inl (q _ _ (.inr ⟨x, hx, rfl, rfl⟩)), fun o => ⟨_, rfl, by simp, end_ o⟩⟩
end F3
set_option maxHeartbeats 400000
/-! K62: ties turned. -/
namespace F3
open PySem PySem.Spec PyProof.Rows L2
theorem t_nt {h : Sto} : toP h 9 (.str (Str.ofString "no turn")) = some (.str (Str.ofString "no turn")) := by
  simp only [toP]
  rw [if_pos (show PyData.strOk (Str.ofString "no turn") = true from tok_str _)]
theorem v_nt : PyData.eqv (.str (Str.ofString "no turn")) (.str (Str.ofString "no turn")) = true := by
  simp [PyData.eqv]
def r_law_3 : C3 :=
  (cDrop (tLM appT (tV 8) (tC3 (tTup3 (tC3 (tK (.int 1)) (tC3 (tK (.int 2)) (tC3 (tK (.int 3)) tN3)))) tN3)))
def r_law_2 : C3 :=
  (cIf (tT (tB3 isiR (tC3 (tV 8) (tC3 (tK (.ty "list")) tN3)))) (cSeq (cIf (tT (tO isnR (tCall3 sp_is_sheet (tC3 (tNew (tL3 lstM (tC3 (tV 8) tN3))) tN3)) (tK (.bl true)))) (cRet (tK (.bl false))) cNext)
    r_law_3) cNext)
def b_law_2 : C3 :=
  (cSeq (cAsg (tCall3 sp_told62 (tC3 (tV 3) (tC3 (tV 5) tN3))) (gN 8))
    (cSeq (cIf (tOr3 (tT (tO neR (tV 8) (tV 6))) (tT (tO neR (tV 3) (tV 2)))) (cRet (tK (.bl false))) cNext)
    r_law_2))
def r_law_1 : C3 :=
  (cFor (iRng (tC3 (tK (.int 2)) tN3)) (gN 7) b_law_2)
def b_law_1 : C3 :=
  (cSeq (cAsg (tK (.str "no turn")) (gN 6))
    (cSeq (cIf (tT (tO isnR (tCall3 sp_lsquare (tC3 (tV 2) (tC3 (tV 5) tN3))) (tK .non))) (cAsg (tCall3 sp_lturned (tC3 (tV 2) (tC3 (tV 5) tN3))) (gN 6)) cNext)
    r_law_1))
def b_law_3 : C3 :=
  (cIf (tOr3 (tT (tO neR (tCall3 sp_told62 (tC3 (tV 3) (tC3 (tV 5) tN3))) (tK (.str "no turn")))) (tT (tO neR (tV 3) (tV 2)))) (cRet (tK (.bl false))) cNext)
def t_law : C3 :=
  (cSeq (cAsg (tNew (tC3 (tCall3 sp_sbig (tC3 (tV 0) (tC3 (tK (.int 0)) tN3))) tN3)) (gN 1))
    (cSeq (cAsg (tCall3 sp_lsheet (tC3 (tV 1) tN3)) (gN 2))
    (cSeq (cAsg (tNew (tL3 lstM (tC3 (tV 2) tN3))) (gN 3))
    (cSeq (cAsg (tO divR (tO mulR (tB3 lenR (tC3 (tV 2) tN3)) (tK (.int 3))) (tK (.int 2))) (gN 4))
    (cSeq (cFor (iRng (tC3 (tK (.int 1)) (tC3 (tO addR (tV 4) (tK (.int 1))) tN3))) (gN 5) b_law_1)
    (cSeq (cFor (iNew (tC3 (tK (.int 0)) (tC3 (tU negR (tK (.int 1))) (tC3 (tO addR (tV 4) (tK (.int 1))) (tC3 (tU negR (tV 4)) (tC3 (tO addR (tO addR (tV 4) (tK (.int 1))) (tCall3 sp_sdigit (tC3 (tV 1) (tC3 (tO powR (tK (.int 10)) (tK (.int 60))) tN3)))) (tC3 (tO subR (tU negR (tK (.int 1))) (tCall3 sp_sdigit (tC3 (tV 1) (tC3 (tO powR (tK (.int 10)) (tK (.int 60))) tN3)))) tN3))))))) (gN 5) b_law_3)
    (cRet (tK (.bl true)))))))))

theorem rd_law : ∀ ds h Q E, ClS h.length h → ClDs h.length ds → sp_law ds h Q E → t_law (ends3 (GQ h.length Q)) (start3 9 ds) h := by
  rintro ds h Q E _ _ ⟨ns, rfl, hl, rfl, q⟩
  have q' : ∀ (b : Bool) (h' : Sto), b = true → GQ 0 Q (.bl b) h' := fun b h' e => .inl (e ▸ q h')
  try simp only [↓tV_q, ↓tK_q, ↓tN3_q, ↓tC3_q, ↓tNew_q, ↓cSeq_q, ↓cAsg_q, ↓tCall3_q, ↓start3_q, onO_some, List.getElem?_cons_zero, List.map_cons, List.map_nil, List.cons_append, List.nil_append, List.length_cons, List.length_nil, List.replicate_succ, List.replicate_zero, Nat.reduceAdd, Nat.reduceSub, t_law]
  refine sbig_q (by decide) fun b => ?_
  try simp only [↓tV_q, ↓tN3_q, ↓tC3_q, ↓cSeq_q, ↓cAsg_q, ↓gN_q, ↓tCall3_q, ↓start3_q, thenE_nx, onO_some, List.getElem?_cons_zero, List.getElem?_cons_succ, List.set_cons_zero, List.set_cons_succ, List.map_cons, List.map_nil, List.cons_append, List.nil_append, List.length_cons, List.length_nil, List.replicate_succ, List.replicate_zero, Nat.reduceAdd, Nat.reduceSub]
  refine lsheet_q (h := [.lst [.int b]]) (g := []) (a := 0) (x := b) (by simp) fun x sh ok => ?_
  rw [show Rs [Cell.lst [.int b]] 0 x ([] ++ [.lst (sh.map triD)]) = Ap [] [.lst [.int x], .lst (sh.map triD)] from rfl]
  have g1 : (Ap [] [Cell.lst [.int x], .lst (sh.map triD)])[1]? = some (.lst (sh.map triD)) := rfl
  obtain ⟨m, m1, m6, hm, em⟩ := ok.half
  have g2 : (Ap [] [Cell.lst [.int x], .lst (sh.map triD), .lst (sh.map triD)])[1]? = some (.lst (sh.map triD)) := rfl
  try simp only [↓tV_q, ↓tK_q, ↓tO_q, ↓tN3_q, ↓tC3_q, ↓tNew_q, ↓cSeq_q, ↓cAsg_q, ↓gN_q, ↓cFor_q, ↓iRng_q, ↓rngD_2q, ↓tB3_q, ↓tL3_q, ↓addR_ii_q, ↓mulR_ii_q, ↓divR_ii_q, ↓lenR_rq, ↓lstM_rq, ↓Ap_len, ↓Ap_app, thenE_nx, onO_some, onC_q, List.getElem?_cons_zero, List.getElem?_cons_succ, List.set_cons_zero, List.set_cons_succ, List.cons_append, List.nil_append, List.length_cons, List.length_nil, Nat.reduceAdd, Nat.add_zero, g1, g2, List.length_map]
  rw [em]
  have b0 : (Ap [] [Cell.lst [.int x], .lst (sh.map triD), .lst (sh.map triD)])[0]? = some (.lst [.int x]) := rfl
  have b1 : (Ap [] [Cell.lst [.int x], .lst (sh.map triD), .lst (sh.map triD)])[1]? = some (.lst (sh.map triD)) := rfl
  have b2 : (Ap [] [Cell.lst [.int x], .lst (sh.map triD), .lst (sh.map triD)])[2]? = some (.lst (sh.map triD)) := rfl
  generalize Ap [] [Cell.lst [.int x], .lst (sh.map triD), .lst (sh.map triD)] = B at b0 b1 b2 ⊢
  clear g1 g2
  refine ⟨mulOk_r (by decide), divOk_of (by decide) (by decide), ⟨by omega, by omega, by omega, by omega⟩, ?_⟩
  rw [show (((3 * m : Nat) : Int) + 1 - 1).toNat = 3 * m by omega]
  refine forL (f := fun (k : Nat) => D.int (1 + (k : Int))) (fun l ρ h' => ∃ (G : Sto) (o5 o6 o7 o8 : Option D), ρ = [some (.fl (ns.map .int)), some (.ref 0), some (.ref 1), some (.ref 2), some (.int (3 * m : Nat)), o5, o6, o7, o8] ∧ h' = Ap B G) ⟨[], _, _, _, _, rfl, Ap_mk⟩ (fun _ _ _ _ => trivial) ?_ ?_
  · rintro ρ h' ⟨G, o5, o6, o7, o8, rfl, rfl⟩
    try simp only [↓tV_q, ↓tK_q, ↓tO_q, ↓tU_q, ↓tN3_q, ↓tC3_q, ↓cSeq_q, ↓cFor_q, ↓iNew_q, ↓tCall3_q, ↓addR_ii_q, ↓powR_ii_q, ↓negR_i_q, thenE_nx, onO_some, List.getElem?_cons_zero, List.getElem?_cons_succ, true_and, Int.reduceLE, Int.reduceNeg]
    have f0 : (Ap B G)[0]? = some (.lst [.int x]) := get_up b0
    have f1 : (Ap B G)[1]? = some (.lst (sh.map triD)) := get_up b1
    have f2 : (Ap B G)[2]? = some (.lst (sh.map triD)) := get_up b2
    generalize Ap B G = C at f0 f1 f2 ⊢
    have c0 : 0 < C.length := (List.getElem?_eq_some_iff.mp f0).1
    have r1 : ∀ y g, (Rs C 0 y g)[1]? = some (.lst (sh.map triD)) := fun y g => get_up (by rw [List.getElem?_set_ne (by decide)]; exact f1)
    have r2 : ∀ y g, (Rs C 0 y g)[2]? = some (.lst (sh.map triD)) := fun y g => get_up (by rw [List.getElem?_set_ne (by decide)]; exact f2)
    conv => enter [2]; arg 3; rw [Rs_mk f0]
    refine ⟨by decide, ?_⟩
    refine sdigit_q c0 (by decide) (by decide) fun x a a0 a1 => ?_
    try simp only [↓tV_q, ↓tK_q, ↓tO_q, ↓tU_q, ↓tN3_q, ↓tC3_q, ↓tCall3_q, ↓addR_ii_q, ↓powR_ii_q, ↓negR_i_q, onO_some, List.getElem?_cons_zero, List.getElem?_cons_succ, true_and, Int.reduceLE, Int.reduceNeg]
    refine ⟨by decide, ?_⟩
    refine sdigit_q c0 (by decide) (by decide) fun x b b0 b1 => ?_
    try simp only [↓tN3_q, ↓subR_ii_q, Int.reduceNeg]
    have out : ∀ k ∈ ([0, -1, ((3 * m : Nat) : Int) + 1, -((3 * m : Nat) : Int), ((3 * m : Nat) : Int) + 1 + a, -1 - b] : List Int), sqS sh k = none := fun k hk => by
      refine tie_out ok hm ?_
      simp only [List.mem_cons, List.not_mem_nil, or_false] at hk
      rcases hk with rfl | rfl | rfl | rfl | rfl | rfl <;> omega
    rw [show [D.int 0, D.int (-1), D.int (((3 * m : Nat) : Int) + 1), D.int (-((3 * m : Nat) : Int)), D.int (((3 * m : Nat) : Int) + 1 + a), D.int (-1 - b)] = ([0, -1, ((3 * m : Nat) : Int) + 1, -((3 * m : Nat) : Int), ((3 * m : Nat) : Int) + 1 + a, -1 - b] : List Int).map D.int from rfl]
    generalize ([0, -1, ((3 * m : Nat) : Int) + 1, -((3 * m : Nat) : Int), ((3 * m : Nat) : Int) + 1 + a, -1 - b] : List Int) = L at out ⊢
    refine forL (f := fun (k : Int) => D.int k) (fun l ρ h' => ∃ (g : Sto) (o5 o6 o7 o8 : Option D), ρ = [some (.fl (ns.map .int)), some (.ref 0), some (.ref 1), some (.ref 2), some (.int (3 * m : Nat)), o5, o6, o7, o8] ∧ h' = Rs C 0 x g) ⟨_, _, _, _, _, rfl, rfl⟩ (fun _ _ _ _ => trivial) ?_ ?_
    · rintro ρ h' ⟨g, o5, o6, o7, o8, rfl, rfl⟩
      try simp only [↓tK_q, ↓cRet_q, thenE_nx, ends3_rt]
      exact q' _ _ rfl
    · rintro l k r ρ h' F e ⟨g, o5, o6, o7, o8, rfl, rfl⟩ hF
      have on := out k (by rw [e]; exact List.mem_append_right _ List.mem_cons_self)
      try simp only [↓tV_q, ↓tO_q, ↓tT_q, ↓tOr3_q, ↓tN3_q, ↓tC3_q, ↓cIf_q, ↓gN_q, ↓tCall3_q, onO_some, List.getElem?_cons_zero, List.getElem?_cons_succ, List.set_cons_zero, List.set_cons_succ, b_law_3]
      refine told62_q (r2 _ _) ok (fun _ => ?_) fun y e1 => by rw [on] at e1; cases e1
      have t1 := tk_sh (r1 x g)
      have t2 := tk_sh (r2 x g)
      try simp only [↓tV_q, ↓tK_q, ↓tO_q, ↓tT_q, ↓cNext_q, ↓neR_rq, ↓neR_sq, loopE_nx, onO_some, onB_bl, ifC_false, eqT_q, List.getElem?_cons_zero, List.getElem?_cons_succ, Bool.not_true, t_nt, v_nt, t1, t2, eqv_sh]
      exact hF _ _ ⟨_, _, _, _, _, rfl, rfl⟩
  · rintro l j r ρ h' F e ⟨G, o5, o6, o7, o8, rfl, rfl⟩ hF
    obtain ⟨ej, jl⟩ := rng_at e
    have w1 : ∀ x : Sto, (Ap (Ap B G) x)[1]? = some (.lst (sh.map triD)) := fun x => get_up (get_up b1)
    have w2 : ∀ x : Sto, (Ap (Ap B G) x)[2]? = some (.lst (sh.map triD)) := fun x => get_up (get_up b2)
    have hF' : ∀ x o5 o6 o7 o8, F [some (.fl (ns.map .int)), some (.ref 0), some (.ref 1), some (.ref 2), some (.int (3 * m : Nat)), o5, o6, o7, o8] (Ap (Ap B G) x) := fun x o5 o6 o7 o8 => hF _ _ ⟨_, o5, o6, o7, o8, rfl, Ap_app⟩
    rw [Ap_mk (h := Ap B G)]
    generalize Ap B G = C at w1 w2 hF' ⊢
    clear hF
    try simp only [↓tV_q, ↓tK_q, ↓tO_q, ↓tT_q, ↓tN3_q, ↓tC3_q, ↓cSeq_q, ↓cIf_q, ↓cAsg_q, ↓gN_q, ↓tCall3_q, thenE_nx, onO_some, List.getElem?_cons_zero, List.getElem?_cons_succ, List.set_cons_zero, List.set_cons_succ, b_law_1]
    refine lsquare_q (w1 _) ok (by omega) (by omega) (fun e0 => ?_) fun y e0 => ?_
    · try simp only [↓tK_q, ↓tN3_q, ↓tC3_q, ↓cNext_q, ↓cFor_q, ↓iRng_q, ↓rngD_1q, ↓isnR_n_q, thenE_nx, onB_bl, ifC_false, isN_non_q, Bool.not_true, r_law_1]
      rw [show List.range (Int.toNat 2) = List.range 2 from rfl]
      refine ⟨by decide, ?_⟩
      refine forL (f := fun (k : Nat) => D.int (k : Int)) (fun l ρ h' => ∃ (g : Sto) (o7 o8 : Option D), ρ = [some (.fl (ns.map .int)), some (.ref 0), some (.ref 1), some (.ref 2), some (.int (3 * m : Nat)), some (.int (1 + (j : Int))), some (.str "no turn"), o7, o8] ∧ h' = Ap C g) ⟨_, _, _, rfl, rfl⟩ (fun _ _ _ _ => trivial) ?_ ?_
      · rintro ρ h' ⟨g, o7, o8, rfl, rfl⟩
        exact hF' _ _ _ _ _
      · rintro l2 j2 r2 ρ h' F2 e2 ⟨g, o7, o8, rfl, rfl⟩ hF2
        try simp only [↓tV_q, ↓tN3_q, ↓tC3_q, ↓cSeq_q, ↓cAsg_q, ↓gN_q, ↓tCall3_q, onO_some, List.getElem?_cons_zero, List.getElem?_cons_succ, List.set_cons_zero, List.set_cons_succ, b_law_2]
        refine told62_q (w2 _) ok (fun e1 => ?_) fun y e1 => by rw [e0] at e1; cases e1
        try simp only [↓tV_q, ↓tO_q, ↓tT_q, ↓tOr3_q, ↓cSeq_q, ↓cIf_q, ↓gN_q, ↓neR_rq, ↓neR_sq, thenE_nx, onO_some, onB_bl, ifC_false, eqT_q, List.getElem?_cons_zero, List.getElem?_cons_succ, List.set_cons_zero, List.set_cons_succ, Bool.not_true, t_nt, v_nt]
        have t1 := tk_sh (w1 g)
        have t2 := tk_sh (w2 g)
        try simp only [↓tV_q, ↓tK_q, ↓tT_q, ↓tN3_q, ↓tC3_q, ↓cNext_q, ↓cIf_q, ↓tB3_q, ↓isi_5, thenE_nx, loopE_nx, onO_some, onB_bl, ifC_false, eqT_q, isU_q, tyN_str_q, isT_20, List.getElem?_cons_zero, List.getElem?_cons_succ, Bool.not_true, t1, t2, eqv_sh, r_law_2]
        exact hF2 _ _ ⟨_, _, _, rfl, rfl⟩
    · try simp only [↓tV_q, ↓tK_q, ↓tN3_q, ↓tC3_q, ↓cAsg_q, ↓tCall3_q, ↓isnR_n_q, ↓Ap_len, ↓Ap_app, onO_some, onB_bl, ifC_true, isN_tup_q, List.getElem?_cons_zero, List.getElem?_cons_succ, List.nil_append, List.length_nil, Bool.not_false, Nat.add_zero]
      refine lturned_q (w1 _) ok (by omega) (by omega) e0 ?_
      try simp only [↓tK_q, ↓tN3_q, ↓tC3_q, ↓gN_q, ↓cFor_q, ↓iRng_q, ↓rngD_1q, ↓Ap_len, ↓Ap_app, thenE_nx, List.set_cons_zero, List.set_cons_succ, List.cons_append, List.nil_append, List.length_cons, List.length_nil, Nat.reduceAdd, r_law_1]
      rw [show List.range (Int.toNat 2) = List.range 2 from rfl]
      refine ⟨by decide, ?_⟩
      have ok2 := ok.turned e0
      generalize hT : trnS sh (1 + (j : Int)) y = sh2 at ok2 ⊢
      have w3 : ∀ x : Sto, (Ap (Ap C [Cell.lst [.int (y.1 : Int), .int (y.2.1 : Int)], .lst (sh2.map triD)]) x)[C.length + 1]? = some (.lst (sh2.map triD)) := fun x => by
        rw [show Ap (Ap C [Cell.lst [.int (y.1 : Int), .int (y.2.1 : Int)], .lst (sh2.map triD)]) x = _ from Ap_app, Ap_getk]; rfl
      refine forL (f := fun (k : Nat) => D.int (k : Int)) (fun l ρ h' => ∃ (g : Sto) (o7 o8 : Option D), ρ = [some (.fl (ns.map .int)), some (.ref 0), some (.ref 1), some (.ref 2), some (.int (3 * m : Nat)), some (.int (1 + (j : Int))), some (.ref (C.length + 1)), o7, o8] ∧ h' = Ap (Ap C [Cell.lst [.int (y.1 : Int), .int (y.2.1 : Int)], .lst (sh2.map triD)]) g) ⟨[], _, _, rfl, Ap_mk⟩ (fun _ _ _ _ => trivial) ?_ ?_
      · rintro ρ h' ⟨g, o7, o8, rfl, rfl⟩
        rw [show Ap (Ap C [Cell.lst [.int (y.1 : Int), .int (y.2.1 : Int)], .lst (sh2.map triD)]) g = _ from Ap_app]
        exact hF' _ _ _ _ _
      · rintro l2 j2 r2 ρ h' F2 e2 ⟨g, o7, o8, rfl, rfl⟩ hF2
        have u2 : ∀ x : Sto, (Ap (Ap C [Cell.lst [.int (y.1 : Int), .int (y.2.1 : Int)], .lst (sh2.map triD)]) x)[2]? = some (.lst (sh.map triD)) := fun x => get_up (w2 _)
        have u1 : ∀ x : Sto, (Ap (Ap C [Cell.lst [.int (y.1 : Int), .int (y.2.1 : Int)], .lst (sh2.map triD)]) x)[1]? = some (.lst (sh.map triD)) := fun x => get_up (w1 _)
        generalize Ap C [Cell.lst [.int (y.1 : Int), .int (y.2.1 : Int)], .lst (sh2.map triD)] = M at u1 u2 w3 hF2 ⊢
        try simp only [↓tV_q, ↓tN3_q, ↓tC3_q, ↓cSeq_q, ↓cAsg_q, ↓gN_q, ↓tCall3_q, onO_some, List.getElem?_cons_zero, List.getElem?_cons_succ, List.set_cons_zero, List.set_cons_succ, b_law_2]
        refine told62_q (u2 _) ok (fun e1 => by rw [e0] at e1; cases e1) fun y2 e1 => ?_
        rw [e0] at e1
        injection e1 with e1
        rw [← e1, hT, show Ap M g ++ [Cell.lst (sh2.map triD)] = Ap M (g ++ [Cell.lst (sh2.map triD)]) from Ap_app]
        have u3 : (Ap M (g ++ [Cell.lst (sh2.map triD)]))[(Ap M g).length]? = some (.lst (sh2.map triD)) := by
          rw [Ap_len, Ap_getk]; exact get_new
        try simp only [↓tV_q, ↓tO_q, ↓tT_q, ↓tOr3_q, ↓cSeq_q, ↓cIf_q, ↓gN_q, ↓neR_rq, ↓Ap_len, thenE_nx, onO_some, List.getElem?_cons_zero, List.getElem?_cons_succ, List.set_cons_zero, List.set_cons_succ]
        have t1 := tk_sh (w3 (g ++ [Cell.lst (sh2.map triD)]))
        have t2 := tk_sh u3
        have t3 := tk_sh (u1 (g ++ [Cell.lst (sh2.map triD)]))
        have t4 := tk_sh (u2 (g ++ [Cell.lst (sh2.map triD)]))
        rw [Ap_len] at t2 u3
        try simp only [↓tV_q, ↓tO_q, ↓tT_q, ↓cNext_q, ↓neR_rq, thenE_nx, onO_some, onB_bl, ifC_false, eqT_q, List.getElem?_cons_zero, List.getElem?_cons_succ, Bool.not_true, t1, t2, t3, t4, eqv_sh]
        try simp only [↓tV_q, ↓tK_q, ↓tO_q, ↓tT_q, ↓tN3_q, ↓tC3_q, ↓tNew_q, ↓cSeq_q, ↓cIf_q, ↓tCall3_q, ↓tB3_q, ↓tL3_q, ↓isi_5, ↓lstM_rq, ↓Ap_len, ↓Ap_app, ↓Ap_getk, onO_some, onB_bl, ifC_true, onC_q, isU_q, tyN_r, isT_6, List.getElem?_cons_zero, List.getElem?_cons_succ, r_law_2, tyN_r u3, get_new]
        refine is_sheet_q (sh := sh2) ⟨?_, ok2⟩ ?_
        · rw [Ap_getk, List.getElem?_append_right (by simp)]
          simp
        have e5 : (g ++ [Cell.lst (sh2.map triD)] ++ [Cell.lst (sh2.map triD)])[g.length]? = some (.lst (sh2.map triD)) := get_up get_new
        try simp only [↓tV_q, ↓tK_q, ↓tN3_q, ↓tC3_q, ↓tTup3_q, ↓cNext_q, ↓cDrop_q, ↓tLM_q, ↓lmD_q, ↓appT_q, ↓isnR_bb_q, ↓Ap_getk, ↓Ap_setk, thenE_nx, loopE_nx, onO_some, onB_bl, ifC_false, onC_q, List.getElem?_cons_zero, List.getElem?_cons_succ, Bool.not_true, decide_true, r_law_3, e5]
        have ln : sh2.length ≤ 12 := by
          obtain ⟨m', _, _, e6, _⟩ := ok2
          omega
        exact ⟨by rw [List.length_map]; omega, hF2 _ _ ⟨_, _, _, rfl, rfl⟩⟩
end F3
set_option maxHeartbeats 400000
namespace F3
open PySem PySem.Spec PyProof.Rows L2
def topS (i : Nat) : Stmt := PySem.Challenge.pw_farcords_k62_ties_turned.main.body.getD i (.Pass ⟨0, 0, 0, 0⟩)
abbrev s_is_whole : Stmt := topS 9
abbrev N_is_whole : List Str := ["thing"]
theorem sc_is_whole : FnScope N_is_whole ["thing"] (defScope s_is_whole) := ⟨rfl, rfl, rfl, by decide +kernel, rfl, by decide +kernel, by decide +kernel⟩
abbrev s_is_sheet : Stmt := topS 10
abbrev N_is_sheet : List Str := ["thing", "found", "triangle", "side"]
theorem sc_is_sheet : FnScope N_is_sheet ["thing"] (defScope s_is_sheet) := ⟨rfl, rfl, rfl, by decide +kernel, rfl, by decide +kernel, by decide +kernel⟩
abbrev s_how_many_ties : Stmt := topS 11
abbrev N_how_many_ties : List Str := ["sheet"]
theorem sc_how_many_ties : FnScope N_how_many_ties ["sheet"] (defScope s_how_many_ties) := ⟨rfl, rfl, rfl, by decide +kernel, rfl, by decide +kernel, by decide +kernel⟩
abbrev s_sides_of : Stmt := topS 12
abbrev N_sides_of : List Str := ["sheet", "found", "number_of", "triangle", "side"]
theorem sc_sides_of : FnScope N_sides_of ["sheet"] (defScope s_sides_of) := ⟨rfl, rfl, rfl, by decide +kernel, rfl, by decide +kernel, by decide +kernel⟩
abbrev s_told_from : Stmt := topS 14
abbrev N_told_from : List Str := ["triangle", "side", "at"]
theorem sc_told_from : FnScope N_told_from ["triangle", "side"] (defScope s_told_from) := ⟨rfl, rfl, rfl, by decide +kernel, rfl, by decide +kernel, by decide +kernel⟩
abbrev s_square_of : Stmt := topS 15
abbrev N_square_of : List Str := ["sheet", "tie", "one", "other", "side", "p", "q", "far", "u", "v"]
theorem sc_square_of : FnScope N_square_of ["sheet", "tie"] (defScope s_square_of) := ⟨rfl, rfl, rfl, by decide +kernel, rfl, by decide +kernel, by decide +kernel⟩
abbrev s_turned_tie : Stmt := topS 16
abbrev N_turned_tie : List Str := ["sheet", "tie", "first", "second", "square", "p", "q", "u", "v", "made"]
theorem sc_turned_tie : FnScope N_turned_tie ["sheet", "tie"] (defScope s_turned_tie) := ⟨rfl, rfl, rfl, by decide +kernel, rfl, by decide +kernel, by decide +kernel⟩
abbrev s_scell : Stmt := topS 18
abbrev N_scell : List Str := ["_law_script", "_law_k"]
theorem sc_scell : FnScope N_scell ["_law_script", "_law_k"] (defScope s_scell) := ⟨rfl, rfl, rfl, by decide +kernel, rfl, by decide +kernel, by decide +kernel⟩
abbrev s_sbig : Stmt := topS 19
abbrev N_sbig : List Str := ["_law_script", "_law_at", "_law_by", "_law_prime", "_law_cell", "_law_big_here", "_law_k", "_law_one"]
theorem sc_sbig : FnScope N_sbig ["_law_script", "_law_at"] (defScope s_sbig) := ⟨rfl, rfl, rfl, by decide +kernel, rfl, by decide +kernel, by decide +kernel⟩
abbrev s_sdigit : Stmt := topS 20
abbrev N_sdigit : List Str := ["_law_rest", "_law_many", "_law_found"]
theorem sc_sdigit : FnScope N_sdigit ["_law_rest", "_law_many"] (defScope s_sdigit) := ⟨rfl, rfl, rfl, by decide +kernel, rfl, by decide +kernel, by decide +kernel⟩
abbrev s_lsheet : Stmt := topS 21
abbrev N_lsheet : List Str := ["_law_rest", "_law_many", "_law_pool", "_law_order", "_law_k"]
theorem sc_lsheet : FnScope N_lsheet ["_law_rest"] (defScope s_lsheet) := ⟨rfl, rfl, rfl, by decide +kernel, rfl, by decide +kernel, by decide +kernel⟩
abbrev s_lfrom : Stmt := topS 22
abbrev N_lfrom : List Str := ["_law_triangle", "_law_tie", "_law_at", "_law_side"]
theorem sc_lfrom : FnScope N_lfrom ["_law_triangle", "_law_tie"] (defScope s_lfrom) := ⟨rfl, rfl, rfl, by decide +kernel, rfl, by decide +kernel, by decide +kernel⟩
abbrev s_lsquare : Stmt := topS 23
abbrev N_lsquare : List Str := ["_law_sheet_here", "_law_tie", "_law_spots", "_law_here", "_law_p", "_law_q", "_law_there", "_law_u", "_law_v", "_law_at", "_law_triangle", "_law_side"]
theorem sc_lsquare : FnScope N_lsquare ["_law_sheet_here", "_law_tie"] (defScope s_lsquare) := ⟨rfl, rfl, rfl, by decide +kernel, rfl, by decide +kernel, by decide +kernel⟩
abbrev s_lturned : Stmt := topS 24
abbrev N_lturned : List Str := ["_law_sheet_here", "_law_tie", "_law_spots", "_law_square_here", "_law_p", "_law_q", "_law_u", "_law_v", "_law_made"]
theorem sc_lturned : FnScope N_lturned ["_law_sheet_here", "_law_tie"] (defScope s_lturned) := ⟨rfl, rfl, rfl, by decide +kernel, rfl, by decide +kernel, by decide +kernel⟩
abbrev s_told62 : Stmt := topS 25
abbrev N_told62 : List Str := ["_law_sheet_here", "_law_tie", "e"]
theorem sc_told62 : FnScope N_told62 ["_law_sheet_here", "_law_tie"] (defScope s_told62) := ⟨rfl, rfl, rfl, by decide +kernel, rfl, by decide +kernel, by decide +kernel⟩
abbrev s_law : Stmt := topS 26
abbrev N_law : List Str := ["_law_script", "_law_rest", "_law_sheet_here", "_law_handed", "_law_far", "_law_tie", "_law_due", "_law_turn", "_law_told_here"]
theorem sc_law : FnScope N_law ["_law_script"] (defScope s_law) := ⟨rfl, rfl, rfl, by decide +kernel, rfl, by decide +kernel, by decide +kernel⟩
section
variable {P : Program} {w : World} {K : PySem.W.Frag} {mg : Str → Option Value} {base : Heap} {bk : String → Addr}
theorem d_is_whole {f : Addr} (m_int : mg "int" = none) (m_isinstance : mg "isinstance" = none) (m_bool : mg "bool" = none) (cdv : Value) (A : Around) (outer : List Env) (s : Shared) (H : Hp) (E : XK) (hr : Room 0 (A.deeper (envOfC "is_whole" (defScope s_is_whole) s.heap.objs.size f cdv))) :
    PCs3 (cxOf CX0 P w K mg base N_is_whole "is_whole" (defScope s_is_whole) f cdv A outer s H E).nox (defBody s_is_whole) t_is_whole :=
  (cs3_one (c3_ret (e3_and (e3_cb k_isi m_isinstance (a3_cons (e3_v 0) (a3_cons (e3_ty rfl m_int (by decide +kernel)) a3_nil))) (e3_one (e3_not (e3_cb k_isi m_isinstance (a3_cons (e3_v 0) (a3_cons (e3_ty rfl m_bool (by decide +kernel)) a3_nil))))))))
theorem d_is_sheet {f : Addr} (m_list : mg "list" = none) (m_isinstance : mg "isinstance" = none) (m_len : mg "len" = none) (m_tuple : mg "tuple" = none) (m_all : mg "all" = none) (m_abs : mg "abs" = none) (m_sorted : mg "sorted" = none) (m_range : mg "range" = none) (F_is_whole : Fn3 P w K mg base "is_whole" 1 ["thing"] sp_is_whole) (F_how_many_ties : Fn3 P w K mg base "how_many_ties" 1 ["sheet"] sp_how_many_ties) {tk_FEWEST : Tok} (g_FEWEST : mg "FEWEST" = some (.int 2 tk_FEWEST)) {tk_MOST : Tok} (g_MOST : mg "MOST" = some (.int 12 tk_MOST)) (cdv : Value) (A : Around) (outer : List Env) (s : Shared) (H : Hp) (E : XK) (hr : Room 1 (A.deeper (envOfC "is_sheet" (defScope s_is_sheet) s.heap.objs.size f cdv))) :
    PCs3 (cxOf CX0 P w K mg base N_is_sheet "is_sheet" (defScope s_is_sheet) f cdv A outer s H E).nox (defBody s_is_sheet) t_is_sheet :=
  (cs3_cons (c3_if (PW3.to (w3_or (b3_not (b3_val (e3_cb k_isi m_isinstance (a3_cons (e3_v 0) (a3_cons (e3_ty rfl m_list (by decide +kernel)) a3_nil))))) (w3_or (b3_cmp (o_ne hr.units) (e3_op o_mod (e3_cb k_len m_len (a3_cons (e3_v 0) a3_nil)) e3_int) e3_int) (w3_or1 (b3_not (b3_chain o_le o_le (e3_gint rfl g_FEWEST) (e3_cb k_len m_len (a3_cons (e3_v 0) a3_nil)) (e3_gint rfl g_MOST))))))) (cs3_one (c3_ret e3_bl)) cs3_nil)
    (show PCs3 _ _ r_is_sheet_1 from (cs3_cons (c3_set 1 sc_is_sheet.nd (e3_new (x3_lst a3_nil)))
    (cs3_cons (c3_for PassesOwn.never rfl (i3_seq (e3_v 0)) (g3_n 2 sc_is_sheet.nd) (show PCs3 _ _ b_is_sheet_1 from (cs3_cons (c3_if (PW3.to (w3_or (b3_not (b3_val (e3_cb k_isi m_isinstance (a3_cons (e3_v 2) (a3_cons (e3_ty rfl m_tuple (by decide +kernel)) a3_nil))))) (w3_or (b3_cmp (o_ne hr.units) (e3_cb k_len m_len (a3_cons (e3_v 2) a3_nil)) e3_int) (w3_or1 (b3_not (b3_val (e3_cbx (kx_all rfl) m_all (x3_lc (own := [("side", 3)]) rfl sc_is_sheet.nd (i3_seq (e3_v 2)) (blkOk_by (own := [("side", 3)]) (N := N_is_sheet) (sc := defScope s_is_sheet) (by decide +kernel)) cg_n gm_n (fun _ _ _ _ _ => (pg_name (i := 3) sc_is_sheet.nd rfl (by first | exact Or.inl rfl | exact Or.inr rfl))) (fun _ _ _ _ _ => pts3_nil) (fun _ _ _ _ _ => (show PE3 _ _ e_is_sheet_1 from (e3_call F_is_whole hr (a3_cons (e3_v 3) a3_nil)))))))))))) (cs3_one (c3_ret e3_bl)) cs3_nil)
    (show PCs3 _ _ r_is_sheet_2 from (cs3_one (c3_expr (e3_lm m_extend PySem.F.slot_list_extend PySem.F.type_list_extend (e3_v 1) (a3_cons (e3_new (x3_lc (own := [("side", 3)]) rfl sc_is_sheet.nd (i3_seq (e3_v 2)) (blkOk_by (own := [("side", 3)]) (N := N_is_sheet) (sc := defScope s_is_sheet) (by decide +kernel)) cg_n gm_n (fun _ _ _ _ _ => (pg_name (i := 3) sc_is_sheet.nd rfl (by first | exact Or.inl rfl | exact Or.inr rfl))) (fun _ _ _ _ _ => pts3_nil) (fun _ _ _ _ _ => (show PE3 _ _ e_is_sheet_2 from (e3_cb k_abs m_abs (a3_cons (e3_v 3) a3_nil)))))) a3_nil))))))))
    (cs3_one (c3_ret (e3_cmpx (ox_eq hr.units) (e3_new (x3_cb kl_sorted m_sorted (a3_cons (e3_v 1) a3_nil))) (x3_cb kl_sorted m_sorted (a3_cons (e3_op o_mulL e3_int (e3_new (x3_rg2 rfl m_list m_range e3_int (e3_op o_add (e3_call F_how_many_ties hr (a3_cons (e3_v 0) a3_nil)) e3_int)))) a3_nil)))))))))
theorem d_how_many_ties {f : Addr} (m_len : mg "len" = none) (cdv : Value) (A : Around) (outer : List Env) (s : Shared) (H : Hp) (E : XK) (hr : Room 0 (A.deeper (envOfC "how_many_ties" (defScope s_how_many_ties) s.heap.objs.size f cdv))) :
    PCs3 (cxOf CX0 P w K mg base N_how_many_ties "how_many_ties" (defScope s_how_many_ties) f cdv A outer s H E).nox (defBody s_how_many_ties) t_how_many_ties :=
  (cs3_one (c3_ret (e3_op o_div (e3_op o_mul (e3_cb k_len m_len (a3_cons (e3_v 0) a3_nil)) e3_int) e3_int)))
theorem d_sides_of {f : Addr} (m_enumerate : mg "enumerate" = none) (m_abs : mg "abs" = none) (cdv : Value) (A : Around) (outer : List Env) (s : Shared) (H : Hp) (E : XK) (hr : Room 0 (A.deeper (envOfC "sides_of" (defScope s_sides_of) s.heap.objs.size f cdv))) :
    PCs3 (cxOf CX0 P w K mg base N_sides_of "sides_of" (defScope s_sides_of) f cdv A outer s H E).nox (defBody s_sides_of) t_sides_of :=
  (cs3_cons (c3_set 1 sc_sides_of.nd e3_dnew)
    (cs3_cons (c3_for PassesOwn.never rfl (i3_enum rfl m_enumerate (a3_cons (e3_v 0) a3_nil)) (g3_tup rfl (gs3_cons (g3_n 2 sc_sides_of.nd) (gs3_cons (g3_n 3 sc_sides_of.nd) gs3_nil))) (show PCs3 _ _ b_sides_of_1 from (cs3_one (c3_for PassesOwn.never rfl (i3_seq (e3_v 3)) (g3_n 4 sc_sides_of.nd) (show PCs3 _ _ b_sides_of_2 from (cs3_one (c3_expr (e3_lm m_append PySem.F.slot_list_append PySem.F.type_list_append (e3_dsetd (e3_v 1) (e3_cb k_abs m_abs (a3_cons (e3_v 4) a3_nil)) (e3_new (x3_lst a3_nil)) ⟨rfl, rfl, rfl, rfl⟩) (a3_cons (e3_tup (a3_cons (e3_v 2) (a3_cons (e3_v 4) a3_nil))) a3_nil)))))))))
    (cs3_one (c3_ret (e3_v 1)))))
theorem d_told_from {f : Addr} (cdv : Value) (A : Around) (outer : List Env) (s : Shared) (H : Hp) (E : XK) (hr : Room 0 (A.deeper (envOfC "told_from" (defScope s_told_from) s.heap.objs.size f cdv))) :
    PCs3 (cxOf CX0 P w K mg base N_told_from "told_from" (defScope s_told_from) f cdv A outer s H E).nox (defBody s_told_from) t_told_from :=
  (cs3_cons (c3_set 2 sc_told_from.nd (e3_tix PySem.F.slot_tuple_index (e3_v 0) (a3_cons (e3_v 1) a3_nil)))
    (cs3_one (c3_ret (e3_op o_add (e3_sl (e3_v 0) (o3_so (e3_v 2)) o3_no) (e3_sl (e3_v 0) o3_no (o3_so (e3_v 2)))))))
theorem d_square_of {f : Addr} (BK : Book K mg bk ["NoTurn"] ["CordError", "NoRow", "NoCord", "NoTurn", "NoSheet"]) (F_is_whole : Fn3 P w K mg base "is_whole" 1 ["thing"] sp_is_whole) (F_how_many_ties : Fn3 P w K mg base "how_many_ties" 1 ["sheet"] sp_how_many_ties) (F_sides_of : Fn3 P w K mg base "sides_of" 1 ["sheet"] sp_sides_of) (F_told_from : Fn3 P w K mg base "told_from" 1 ["triangle", "side"] sp_told_from) (cdv : Value) (A : Around) (outer : List Env) (s : Shared) (H : Hp) (E : XK) (m0 : List Addr) (E4 : X4) (hr : Room 1 (A.deeper (envOfC "square_of" (defScope s_square_of) s.heap.objs.size f cdv))) (hE : ∀ c ρ h', E4 c ρ h' → UpW K bk m0 H (fun cls d _ H' => E cls d H') c ρ h') (tk : Takes (cxOf (L2.CX P w) P w K mg base N_square_of "square_of" (defScope s_square_of) f cdv A outer s H E) (fun cls d _ H' => E cls d H')) :
    PCsb (cxOf (L2.CX P w) P w K mg base N_square_of "square_of" (defScope s_square_of) f cdv A outer s H E) m0 H (defBody s_square_of) (t_square_of E4) :=
  (csb_cons (cb_if (PW3.to (w3_or (b3_not (b3_val (e3_call F_is_whole hr (a3_cons (e3_v 1) a3_nil)))) (w3_or1 (b3_not (b3_chain o_le o_le e3_int (e3_v 1) (e3_call F_how_many_ties hr (a3_cons (e3_v 0) a3_nil))))))) (csb_one (cb_raise (bk := bk) "NoTurn" rfl PySem.F.excBase_ValueError (BK.own "NoTurn" (by decide)) (BK.mg "NoTurn" (by decide)) tk hE)) (PCs3.b cs3_nil))
    (show PCsb _ _ _ _ (r_square_of_1 E4) from (csb_cons (PC3.b (c3_asg (e3_dget hr.units (e3_call F_sides_of hr (a3_cons (e3_v 0) a3_nil)) (e3_v 1)) (g3_lst rfl (gs3_cons (g3_n 2 sc_square_of.nd) (gs3_cons (g3_n 3 sc_square_of.nd) gs3_nil)))))
    (csb_cons (cb_if (b3_cmp (o_eq hr.units) (e3_ix (e3_v 2) e3_int) (e3_ix (e3_v 3) e3_int)) (csb_one (cb_raise (bk := bk) "NoTurn" rfl PySem.F.excBase_ValueError (BK.own "NoTurn" (by decide)) (BK.mg "NoTurn" (by decide)) tk hE)) (PCs3.b cs3_nil))
    (show PCsb _ _ _ _ (r_square_of_2 E4) from (csb_cons (PC3.b (c3_asg (e3_call F_told_from hr (a3_cons (e3_ix (e3_v 0) (e3_ix (e3_v 2) e3_int)) (a3_cons (e3_ix (e3_v 2) e3_int) a3_nil))) (g3_tup rfl (gs3_cons (g3_n 4 sc_square_of.nd) (gs3_cons (g3_n 5 sc_square_of.nd) (gs3_cons (g3_n 6 sc_square_of.nd) gs3_nil))))))
    (csb_cons (PC3.b (c3_asg (e3_call F_told_from hr (a3_cons (e3_ix (e3_v 0) (e3_ix (e3_v 3) e3_int)) (a3_cons (e3_ix (e3_v 3) e3_int) a3_nil))) (g3_tup rfl (gs3_cons (g3_n 7 sc_square_of.nd) (gs3_cons (g3_n 8 sc_square_of.nd) (gs3_cons (g3_n 9 sc_square_of.nd) gs3_nil))))))
    (csb_cons (PC3.b (c3_if (b3_cmp (o_eq hr.units) (e3_v 7) (e3_v 4)) (cs3_one (c3_par 8 9 rfl sc_square_of.nd (a3_cons (e3_un o_neg (e3_v 9)) (a3_cons (e3_un o_neg (e3_v 8)) a3_nil)))) cs3_nil))
    (show PCsb _ _ _ _ (r_square_of_3 E4) from (csb_one (PC3.b (c3_ret (e3_tup (a3_cons (e3_ix (e3_v 2) e3_int) (a3_cons (e3_ix (e3_v 3) e3_int) (a3_cons (e3_tup (a3_cons (e3_v 5) (a3_cons (e3_v 6) (a3_cons (e3_v 8) (a3_cons (e3_v 9) a3_nil))))) a3_nil))))))))))))))))
theorem d_turned_tie {f : Addr} (m_list : mg "list" = none) (F_square_of : Fn3X P w K mg base bk "square_of" 2 ["sheet", "tie"] sp_square_of) (cdv : Value) (A : Around) (outer : List Env) (s : Shared) (H : Hp) (E : XK) (m0 : List Addr) (E4 : X4) (hr : Room 2 (A.deeper (envOfC "turned_tie" (defScope s_turned_tie) s.heap.objs.size f cdv))) (hE : ∀ c ρ h', E4 c ρ h' → UpW K bk m0 H (fun cls d _ H' => E cls d H') c ρ h') (tk : Takes (cxOf (L2.CX P w) P w K mg base N_turned_tie "turned_tie" (defScope s_turned_tie) f cdv A outer s H E) (fun cls d _ H' => E cls d H')) :
    PCsb (cxOf (L2.CX P w) P w K mg base N_turned_tie "turned_tie" (defScope s_turned_tie) f cdv A outer s H E) m0 H (defBody s_turned_tie) (t_turned_tie E4) :=
  (csb_cons (cb_asg (eb_call F_square_of hr tk hE (a3_cons (e3_v 0) (a3_cons (e3_v 1) a3_nil))) (g3_tup rfl (gs3_cons (g3_n 2 sc_turned_tie.nd) (gs3_cons (g3_n 3 sc_turned_tie.nd) (gs3_cons (g3_n 4 sc_turned_tie.nd) gs3_nil)))))
    (csb_cons (PC3.b (c3_asg (e3_v 4) (g3_tup rfl (gs3_cons (g3_n 5 sc_turned_tie.nd) (gs3_cons (g3_n 6 sc_turned_tie.nd) (gs3_cons (g3_n 7 sc_turned_tie.nd) (gs3_cons (g3_n 8 sc_turned_tie.nd) gs3_nil)))))))
    (csb_cons (PC3.b (c3_set 9 sc_turned_tie.nd (e3_new (x3_ct kl_list m_list (a3_cons (e3_v 0) a3_nil)))))
    (csb_cons (PC3.b (c3_asg (e3_tup (a3_cons (e3_v 6) (a3_cons (e3_v 7) (a3_cons (e3_un o_neg (e3_v 1)) a3_nil)))) (g3_sub (e3_v 9) (e3_v 2))))
    (csb_cons (PC3.b (c3_asg (e3_tup (a3_cons (e3_v 8) (a3_cons (e3_v 5) (a3_cons (e3_v 1) a3_nil)))) (g3_sub (e3_v 9) (e3_v 3))))
    (csb_one (PC3.b (c3_ret (e3_v 9)))))))))
theorem d_scell {f : Addr} (m_len : mg "len" = none) (cdv : Value) (A : Around) (outer : List Env) (s : Shared) (H : Hp) (E : XK) (hr : Room 0 (A.deeper (envOfC "_law_cell_at" (defScope s_scell) s.heap.objs.size f cdv))) :
    PCs3 (cxOf CX0 P w K mg base N_scell "_law_cell_at" (defScope s_scell) f cdv A outer s H E).nox (defBody s_scell) t_scell :=
  (cs3_cons (c3_if (b3_cmp o_lt (e3_v 1) (e3_cb k_len m_len (a3_cons (e3_v 0) a3_nil))) (cs3_one (c3_ret (e3_ix (e3_v 0) (e3_v 1)))) cs3_nil)
    (cs3_one (c3_ret e3_int)))
theorem d_sbig {f : Addr} (m_range : mg "range" = none) (F_scell : Fn3 P w K mg base "_law_cell_at" 1 ["_law_script", "_law_k"] sp_scell) (cdv : Value) (A : Around) (outer : List Env) (s : Shared) (H : Hp) (E : XK) (hr : Room 1 (A.deeper (envOfC "_law_big" (defScope s_sbig) s.heap.objs.size f cdv))) :
    PCs3 (cxOf CX0 P w K mg base N_sbig "_law_big" (defScope s_sbig) f cdv A outer s H E).nox (defBody s_sbig) t_sbig :=
  (cs3_cons (c3_set 2 sc_sbig.nd (e3_tup (a3_cons e3_int (a3_cons e3_int (a3_cons e3_int (a3_cons e3_int (a3_cons e3_int (a3_cons e3_int (a3_cons e3_int (a3_cons e3_int a3_nil))))))))))
    (cs3_cons (c3_set 3 sc_sbig.nd (e3_tup (a3_cons e3_int (a3_cons e3_int (a3_cons e3_int (a3_cons e3_int (a3_cons e3_int (a3_cons e3_int (a3_cons e3_int (a3_cons e3_int a3_nil))))))))))
    (cs3_cons (c3_set 4 sc_sbig.nd (e3_call F_scell hr (a3_cons (e3_v 0) (a3_cons (e3_v 1) a3_nil))))
    (cs3_cons (c3_if (b3_cmp o_ge (e3_v 4) (e3_op o_pow e3_int e3_int)) (cs3_one (c3_ret (e3_v 4))) cs3_nil)
    (show PCs3 _ _ r_sbig_1 from (cs3_cons (c3_set 5 sc_sbig.nd e3_int)
    (cs3_cons (c3_for PassesOwn.never rfl (i3_range1 rfl m_range (a3_cons e3_int a3_nil)) (g3_n 6 sc_sbig.nd) (show PCs3 _ _ b_sbig_1 from (cs3_cons (c3_set 7 sc_sbig.nd (e3_op o_add (e3_op o_add (e3_op o_mod (e3_call F_scell hr (a3_cons (e3_v 0) (a3_cons (e3_op o_add (e3_v 1) (e3_op o_mod (e3_v 6) e3_int)) a3_nil))) (e3_op o_pow e3_int e3_int)) e3_int) (e3_op o_mul (e3_v 6) (e3_v 6))))
    (cs3_one (c3_set 5 sc_sbig.nd (e3_op o_add (e3_op o_mul (e3_v 5) e3_int) (e3_op o_mod (e3_op o_mod (e3_op o_mul (e3_v 7) (e3_ix (e3_v 2) (e3_op o_mod (e3_v 6) e3_int))) (e3_ix (e3_v 3) (e3_op o_mod (e3_v 6) e3_int))) e3_int)))))))
    (cs3_one (c3_ret (e3_v 5))))))))))
theorem d_sdigit {f : Addr} (cdv : Value) (A : Around) (outer : List Env) (s : Shared) (H : Hp) (E : XK) (hr : Room 0 (A.deeper (envOfC "_law_digit" (defScope s_sdigit) s.heap.objs.size f cdv))) :
    PCs3 (cxOf CX0 P w K mg base N_sdigit "_law_digit" (defScope s_sdigit) f cdv A outer s H E).nox (defBody s_sdigit) t_sdigit :=
  (cs3_cons (c3_set 2 sc_sdigit.nd (e3_op o_mod (e3_ix (e3_v 0) e3_int) (e3_v 1)))
    (cs3_cons (c3_asg (e3_op o_div (e3_ix (e3_v 0) e3_int) (e3_v 1)) (g3_sub (e3_v 0) e3_int))
    (cs3_one (c3_ret (e3_v 2)))))
theorem d_lsheet {f : Addr} (m_list : mg "list" = none) (m_range : mg "range" = none) (m_len : mg "len" = none) (m_tuple : mg "tuple" = none) (F_sdigit : Fn3 P w K mg base "_law_digit" 1 ["_law_rest", "_law_many"] sp_sdigit) (cdv : Value) (A : Around) (outer : List Env) (s : Shared) (H : Hp) (E : XK) (hr : Room 1 (A.deeper (envOfC "_law_sheet" (defScope s_lsheet) s.heap.objs.size f cdv))) :
    PCs3 (cxOf CX0 P w K mg base N_lsheet "_law_sheet" (defScope s_lsheet) f cdv A outer s H E).nox (defBody s_lsheet) t_lsheet :=
  (cs3_cons (c3_set 1 sc_lsheet.nd (e3_op o_add e3_int (e3_op o_mul e3_int (e3_call F_sdigit hr (a3_cons (e3_v 0) (a3_cons e3_int a3_nil))))))
    (cs3_cons (c3_if (b3_cmp (o_eq hr.units) (e3_call F_sdigit hr (a3_cons (e3_v 0) (a3_cons e3_int a3_nil))) e3_int) (cs3_one (c3_set 1 sc_lsheet.nd (e3_op o_add e3_int (e3_op o_mul e3_int (e3_call F_sdigit hr (a3_cons (e3_v 0) (a3_cons e3_int a3_nil))))))) cs3_nil)
    (show PCs3 _ _ r_lsheet_1 from (cs3_cons (c3_set 2 sc_lsheet.nd (e3_op o_mulL e3_int (e3_new (x3_rg2 rfl m_list m_range e3_int (e3_op o_add (e3_op o_div (e3_op o_mul (e3_v 1) e3_int) e3_int) e3_int)))))
    (cs3_cons (c3_set 3 sc_lsheet.nd (e3_new (x3_lst a3_nil)))
    (cs3_cons (c3_while PassesOwn.never (b3_cmpx (ox_ne hr.units) (e3_v 2) (x3_lst a3_nil)) (show PCs3 _ _ b_lsheet_1 from (cs3_one (c3_expr (e3_lm m_append PySem.F.slot_list_append PySem.F.type_list_append (e3_v 3) (a3_cons (e3_op o_mul (e3_lm m_popAt PySem.F.slot_list_pop PySem.F.type_list_pop (e3_v 2) (a3_cons (e3_call F_sdigit hr (a3_cons (e3_v 0) (a3_cons (e3_cb k_len m_len (a3_cons (e3_v 2) a3_nil)) a3_nil))) a3_nil)) (e3_op o_sub e3_int (e3_op o_mul e3_int (e3_call F_sdigit hr (a3_cons (e3_v 0) (a3_cons e3_int a3_nil)))))) a3_nil))))))
    (cs3_one (c3_ret (e3_new (x3_lc (own := [("_law_k", 4)]) rfl sc_lsheet.nd (i3_range1 rfl m_range (a3_cons (e3_v 1) a3_nil)) (blkOk_by (own := [("_law_k", 4)]) (N := N_lsheet) (sc := defScope s_lsheet) (by decide +kernel)) cg_n gm_n (fun _ _ _ _ _ => (pg_name (i := 4) sc_lsheet.nd rfl (by first | exact Or.inl rfl | exact Or.inr rfl))) (fun _ _ _ _ _ => pts3_nil) (fun _ _ _ _ _ => (show PE3 _ _ e_lsheet_1 from (e3_ct k_tuple m_tuple (a3_cons (e3_sl (e3_v 3) (o3_so (e3_op o_mul e3_int (e3_v 4))) (o3_so (e3_op o_add (e3_op o_mul e3_int (e3_v 4)) e3_int))) a3_nil))))))))))))))
theorem d_lfrom {f : Addr} (m_abs : mg "abs" = none) (cdv : Value) (A : Around) (outer : List Env) (s : Shared) (H : Hp) (E : XK) (hr : Room 0 (A.deeper (envOfC "_law_from" (defScope s_lfrom) s.heap.objs.size f cdv))) :
    PCs3 (cxOf CX0 P w K mg base N_lfrom "_law_from" (defScope s_lfrom) f cdv A outer s H E).nox (defBody s_lfrom) t_lfrom :=
  (cs3_cons (c3_set 2 sc_lfrom.nd (e3_lm (m_index (units65 hr)) PySem.F.slot_list_index PySem.F.type_list_index (e3_new (x3_lc (own := [("_law_side", 3)]) rfl sc_lfrom.nd (i3_seq (e3_v 0)) (blkOk_by (own := [("_law_side", 3)]) (N := N_lfrom) (sc := defScope s_lfrom) (by decide +kernel)) cg_n gm_n (fun _ _ _ _ _ => (pg_name (i := 3) sc_lfrom.nd rfl (by first | exact Or.inl rfl | exact Or.inr rfl))) (fun _ _ _ _ _ => pts3_nil) (fun _ _ _ _ _ => (show PE3 _ _ e_lfrom_1 from (e3_cb k_abs m_abs (a3_cons (e3_v 3) a3_nil)))))) (a3_cons (e3_v 1) a3_nil)))
    (cs3_one (c3_ret (e3_op o_add (e3_sl (e3_v 0) (o3_so (e3_v 2)) o3_no) (e3_sl (e3_v 0) o3_no (o3_so (e3_v 2)))))))
theorem d_lsquare {f : Addr} (m_enumerate : mg "enumerate" = none) (m_abs : mg "abs" = none) (m_len : mg "len" = none) (F_lfrom : Fn3 P w K mg base "_law_from" 1 ["_law_triangle", "_law_tie"] sp_lfrom) (cdv : Value) (A : Around) (outer : List Env) (s : Shared) (H : Hp) (E : XK) (hr : Room 1 (A.deeper (envOfC "_law_square" (defScope s_lsquare) s.heap.objs.size f cdv))) :
    PCs3 (cxOf CX0 P w K mg base N_lsquare "_law_square" (defScope s_lsquare) f cdv A outer s H E).nox (defBody s_lsquare) t_lsquare :=
  (cs3_cons (c3_setLc (own := [("_law_at", 9), ("_law_triangle", 10)]) 2 rfl sc_lsquare.nd (i3_enum rfl m_enumerate (a3_cons (e3_v 0) a3_nil)) (blkOk_by (own := [("_law_at", 9), ("_law_triangle", 10)]) (N := N_lsquare) (sc := defScope s_lsquare) (by decide +kernel)) (cg_tup (cg_cons cg_n (cg_cons cg_n cg_nil))) (gm_tup (gm_cons gm_n (gm_cons gm_n gm_nil))) (fun _ _ _ _ _ => (pg_tup rfl (pgs_cons (pg_name (i := 9) sc_lsquare.nd rfl (by first | exact Or.inl rfl | exact Or.inr rfl)) (pgs_cons (pg_name (i := 10) sc_lsquare.nd rfl (by first | exact Or.inl rfl | exact Or.inr rfl)) pgs_nil)))) (fun _ _ _ _ _ => pts3_one (b3_cmpx ox_in (e3_v 1) (x3_lc (own := [("_law_side", 11)]) rfl sc_lsquare.nd (i3_seq (e3_v 10)) (by exact blkOk_by (own := [("_law_side", 11)]) (N := N_lsquare) (sc := relS _ (defScope s_lsquare)) (by decide +kernel)) cg_n gm_n (fun _ _ _ _ _ => (pg_name (i := 11) sc_lsquare.nd rfl (by first | exact Or.inl rfl | exact Or.inr rfl))) (fun _ _ _ _ _ => pts3_nil) (fun _ _ _ _ _ => (show PE3 _ _ e_lsquare_1 from (e3_cb k_abs m_abs (a3_cons (e3_v 11) a3_nil))))))) (fun _ _ _ _ _ => (show PE3 _ _ e_lsquare_2 from (e3_v 9))))
    (cs3_cons (c3_if (b3_cmp (o_ne hr.units) (e3_cb k_len m_len (a3_cons (e3_v 2) a3_nil)) e3_int) (cs3_one (c3_ret e3_non)) cs3_nil)
    (show PCs3 _ _ r_lsquare_1 from (cs3_cons (c3_asg (e3_call F_lfrom hr (a3_cons (e3_ix (e3_v 0) (e3_ix (e3_v 2) e3_int)) (a3_cons (e3_v 1) a3_nil))) (g3_tup rfl (gs3_cons (g3_n 3 sc_lsquare.nd) (gs3_cons (g3_n 4 sc_lsquare.nd) (gs3_cons (g3_n 5 sc_lsquare.nd) gs3_nil)))))
    (cs3_cons (c3_asg (e3_call F_lfrom hr (a3_cons (e3_ix (e3_v 0) (e3_ix (e3_v 2) e3_int)) (a3_cons (e3_v 1) a3_nil))) (g3_tup rfl (gs3_cons (g3_n 6 sc_lsquare.nd) (gs3_cons (g3_n 7 sc_lsquare.nd) (gs3_cons (g3_n 8 sc_lsquare.nd) gs3_nil)))))
    (cs3_cons (c3_if (b3_cmp (o_eq hr.units) (e3_v 3) (e3_v 6)) (cs3_one (c3_ret (e3_tup (a3_cons (e3_v 2) (a3_cons (e3_tup (a3_cons (e3_v 4) (a3_cons (e3_v 5) (a3_cons (e3_un o_neg (e3_v 8)) (a3_cons (e3_un o_neg (e3_v 7)) a3_nil))))) a3_nil))))) cs3_nil)
    (show PCs3 _ _ r_lsquare_2 from (cs3_one (c3_ret (e3_tup (a3_cons (e3_v 2) (a3_cons (e3_tup (a3_cons (e3_v 4) (a3_cons (e3_v 5) (a3_cons (e3_v 7) (a3_cons (e3_v 8) a3_nil))))) a3_nil))))))))))))
theorem d_lturned {f : Addr} (m_list : mg "list" = none) (F_lsquare : Fn3 P w K mg base "_law_square" 2 ["_law_sheet_here", "_law_tie"] sp_lsquare) (cdv : Value) (A : Around) (outer : List Env) (s : Shared) (H : Hp) (E : XK) (hr : Room 2 (A.deeper (envOfC "_law_turned" (defScope s_lturned) s.heap.objs.size f cdv))) :
    PCs3 (cxOf CX0 P w K mg base N_lturned "_law_turned" (defScope s_lturned) f cdv A outer s H E).nox (defBody s_lturned) t_lturned :=
  (cs3_cons (c3_asg (e3_call F_lsquare hr (a3_cons (e3_v 0) (a3_cons (e3_v 1) a3_nil))) (g3_tup rfl (gs3_cons (g3_n 2 sc_lturned.nd) (gs3_cons (g3_n 3 sc_lturned.nd) gs3_nil))))
    (cs3_cons (c3_asg (e3_v 3) (g3_tup rfl (gs3_cons (g3_n 4 sc_lturned.nd) (gs3_cons (g3_n 5 sc_lturned.nd) (gs3_cons (g3_n 6 sc_lturned.nd) (gs3_cons (g3_n 7 sc_lturned.nd) gs3_nil))))))
    (cs3_cons (c3_set 8 sc_lturned.nd (e3_new (x3_ct kl_list m_list (a3_cons (e3_v 0) a3_nil))))
    (cs3_cons (c3_asg (e3_tup (a3_cons (e3_v 5) (a3_cons (e3_v 6) (a3_cons (e3_un o_neg (e3_v 1)) a3_nil)))) (g3_sub (e3_v 8) (e3_ix (e3_v 2) e3_int)))
    (cs3_cons (c3_asg (e3_tup (a3_cons (e3_v 7) (a3_cons (e3_v 4) (a3_cons (e3_v 1) a3_nil)))) (g3_sub (e3_v 8) (e3_ix (e3_v 2) e3_int)))
    (cs3_one (c3_ret (e3_v 8))))))))
theorem d_told62 {f : Addr} (m_isinstance : mg "isinstance" = none) (m_ValueError : mg "ValueError" = none) (BK : Book K mg bk ["NoTurn"] ["CordError", "NoRow", "NoCord", "NoTurn", "NoSheet"]) (F_turned_tie : Fn3X P w K mg base bk "turned_tie" 3 ["sheet", "tie"] sp_turned_tie) (cdv : Value) (A : Around) (outer : List Env) (s : Shared) (H : Hp) (E : XK) (hr : Room 3 (A.deeper (envOfC "_law_told" (defScope s_told62) s.heap.objs.size f cdv))) :
    PCs3 (cxOf CX0 P w K mg base N_told62 "_law_told" (defScope s_told62) f cdv A outer s H E).nox (defBody s_told62) t_told62 :=
  (cs3_cons (c3_try (bk := bk) sc_told62.nd ⟨rfl, by decide, .inl (BK.mg "CordError" (by decide))⟩ BK.ctch (fun W pn xe m0 H0 E4 tk po hE => (show PCsb _ _ _ _ (y_told62_1 E4) from (csb_one (cb_ret (eb_call F_turned_tie hr tk hE (a3_cons (e3_v 0) (a3_cons (e3_v 1) a3_nil))))))) (mx_ret (mx_call F_turned_tie.mono (MonoA.c3 (MonoE.var 0) (MonoA.c3 (MonoE.var 1) MonoA.n3)))) (fun a oe c pn hc hz hf => (show PCs3 _ _ (u_told62_1 a c) from (cs3_one (c3_if (PW3.to (w3_and (b3_val (e3_isC 2 (BK.exc c hc) hz hf m_isinstance (BK.mg "NoTurn" (by decide)) (BK.kit c hc "NoTurn" (by decide)))) (w3_and (b3_val (e3_isT 2 (BK.exc c hc) hz hf m_isinstance m_ValueError (BK.kitV c hc))) (w3_and1 (b3_not (b3_val (e3_isCT 2 c ["NoCord", "NoRow", "NoSheet"] (BK.exc c hc) hz hf m_isinstance (pa_cons (pe_glob (v := .ref (bk "NoCord")) rfl (BK.mg "NoCord" (by decide)) rfl (by decide)) (pa_cons (pe_glob (v := .ref (bk "NoRow")) rfl (BK.mg "NoRow" (by decide)) rfl (by decide)) (pa_cons (pe_glob (v := .ref (bk "NoSheet")) rfl (BK.mg "NoSheet" (by decide)) rfl (by decide)) pa_nil))) (fun y hy => BK.kit c hc y ((by decide : ∀ y ∈ ["NoCord", "NoRow", "NoSheet"], y ∈ ["CordError", "NoRow", "NoCord", "NoTurn", "NoSheet"]) y hy))))))))) (cs3_one (c3_ret e3_str)) cs3_nil)))))
    (cs3_one (c3_ret e3_str)))
theorem d_law {f : Addr} (m_list : mg "list" = none) (m_len : mg "len" = none) (m_range : mg "range" = none) (m_isinstance : mg "isinstance" = none) (F_sbig : Fn3 P w K mg base "_law_big" 2 ["_law_script", "_law_at"] sp_sbig) (F_lsheet : Fn3 P w K mg base "_law_sheet" 2 ["_law_rest"] sp_lsheet) (F_lsquare : Fn3 P w K mg base "_law_square" 2 ["_law_sheet_here", "_law_tie"] sp_lsquare) (F_lturned : Fn3 P w K mg base "_law_turned" 3 ["_law_sheet_here", "_law_tie"] sp_lturned) (F_told62 : Fn3 P w K mg base "_law_told" 4 ["_law_sheet_here", "_law_tie"] sp_told62) (F_is_sheet : Fn3 P w K mg base "is_sheet" 2 ["thing"] sp_is_sheet) (F_sdigit : Fn3 P w K mg base "_law_digit" 1 ["_law_rest", "_law_many"] sp_sdigit) (cdv : Value) (A : Around) (outer : List Env) (s : Shared) (H : Hp) (E : XK) (hr : Room 4 (A.deeper (envOfC "law" (defScope s_law) s.heap.objs.size f cdv))) :
    PCs3 (cxOf CX0 P w K mg base N_law "law" (defScope s_law) f cdv A outer s H E).nox (defBody s_law) t_law :=
  (cs3_cons (c3_set 1 sc_law.nd (e3_new (x3_lst (a3_cons (e3_call F_sbig hr (a3_cons (e3_v 0) (a3_cons e3_int a3_nil))) a3_nil))))
    (cs3_cons (c3_set 2 sc_law.nd (e3_call F_lsheet hr (a3_cons (e3_v 1) a3_nil)))
    (cs3_cons (c3_set 3 sc_law.nd (e3_new (x3_ct kl_list m_list (a3_cons (e3_v 2) a3_nil))))
    (cs3_cons (c3_set 4 sc_law.nd (e3_op o_div (e3_op o_mul (e3_cb k_len m_len (a3_cons (e3_v 2) a3_nil)) e3_int) e3_int))
    (cs3_cons (c3_for PassesOwn.never rfl (i3_range2 rfl m_range (a3_cons e3_int (a3_cons (e3_op o_add (e3_v 4) e3_int) a3_nil))) (g3_n 5 sc_law.nd) (show PCs3 _ _ b_law_1 from (cs3_cons (c3_set 6 sc_law.nd e3_str)
    (cs3_cons (c3_if (b3_cmp o_isn (e3_call F_lsquare hr (a3_cons (e3_v 2) (a3_cons (e3_v 5) a3_nil))) e3_non) (cs3_one (c3_set 6 sc_law.nd (e3_call F_lturned hr (a3_cons (e3_v 2) (a3_cons (e3_v 5) a3_nil))))) cs3_nil)
    (show PCs3 _ _ r_law_1 from (cs3_one (c3_for PassesOwn.never rfl (i3_range1 rfl m_range (a3_cons e3_int a3_nil)) (g3_n 7 sc_law.nd) (show PCs3 _ _ b_law_2 from (cs3_cons (c3_set 8 sc_law.nd (e3_call F_told62 hr (a3_cons (e3_v 3) (a3_cons (e3_v 5) a3_nil))))
    (cs3_cons (c3_if (PW3.to (w3_or (b3_cmp (o_ne hr.units) (e3_v 8) (e3_v 6)) (w3_or1 (b3_cmp (o_ne hr.units) (e3_v 3) (e3_v 2))))) (cs3_one (c3_ret e3_bl)) cs3_nil)
    (show PCs3 _ _ r_law_2 from (cs3_one (c3_if (b3_val (e3_cb k_isi m_isinstance (a3_cons (e3_v 8) (a3_cons (e3_ty rfl m_list (by decide +kernel)) a3_nil)))) (cs3_cons (c3_if (b3_cmp o_isn (e3_call F_is_sheet hr (a3_cons (e3_new (x3_ct kl_list m_list (a3_cons (e3_v 8) a3_nil))) a3_nil)) e3_bl) (cs3_one (c3_ret e3_bl)) cs3_nil)
    (show PCs3 _ _ r_law_3 from (cs3_one (c3_expr (e3_lm m_append PySem.F.slot_list_append PySem.F.type_list_append (e3_v 8) (a3_cons (e3_tup (a3_cons e3_int (a3_cons e3_int (a3_cons e3_int a3_nil)))) a3_nil)))))) cs3_nil)))))))))))))
    (cs3_cons (c3_for PassesOwn.never rfl (i3_new (x3_lst (a3_cons e3_int (a3_cons (e3_un o_neg e3_int) (a3_cons (e3_op o_add (e3_v 4) e3_int) (a3_cons (e3_un o_neg (e3_v 4)) (a3_cons (e3_op o_add (e3_op o_add (e3_v 4) e3_int) (e3_call F_sdigit hr (a3_cons (e3_v 1) (a3_cons (e3_op o_pow e3_int e3_int) a3_nil)))) (a3_cons (e3_op o_sub (e3_un o_neg e3_int) (e3_call F_sdigit hr (a3_cons (e3_v 1) (a3_cons (e3_op o_pow e3_int e3_int) a3_nil)))) a3_nil)))))))) (g3_n 5 sc_law.nd) (show PCs3 _ _ b_law_3 from (cs3_one (c3_if (PW3.to (w3_or (b3_cmp (o_ne hr.units) (e3_call F_told62 hr (a3_cons (e3_v 3) (a3_cons (e3_v 5) a3_nil))) e3_str) (w3_or1 (b3_cmp (o_ne hr.units) (e3_v 3) (e3_v 2))))) (cs3_one (c3_ret e3_bl)) cs3_nil))))
    (cs3_one (c3_ret e3_bl))))))))
end
theorem all_mk {l : PySem.W.OpenLaw} {w : World} {K : PySem.W.Frag} {h : Heap} {mg : Str → Option Value} {fa : Addr} (X : K.In h) (G : h.Ns mainGlobals mg) (hfa : mg "law" = some (.ref fa))
    {f0 : Addr} {od0 an0 : Option Addr} {sl0 : Array (Option Value)} {oc0 kV0 dc0 pm0 cd0 ct0 : Value}
    (a0 : PySem.W.nsIn K mainGlobals "is_whole" = some (some (.ref f0))) (l0 : K.lookup f0 = some ⟨oc0, od0, .func (PySem.W.fnOf "is_whole" "is_whole" (defArgs s_is_whole) (defBody s_is_whole) (defScope s_is_whole) .none kV0 dc0 pm0 an0 cd0 ct0), sl0⟩) (c0 : PySem.W.codeIn K cd0 "is_whole" = true) (k0 : PySem.W.keepIn K (.ref f0) = true)
    {f1 : Addr} {od1 an1 : Option Addr} {sl1 : Array (Option Value)} {oc1 kV1 dc1 pm1 cd1 ct1 : Value}
    (a1 : PySem.W.nsIn K mainGlobals "is_sheet" = some (some (.ref f1))) (l1 : K.lookup f1 = some ⟨oc1, od1, .func (PySem.W.fnOf "is_sheet" "is_sheet" (defArgs s_is_sheet) (defBody s_is_sheet) (defScope s_is_sheet) .none kV1 dc1 pm1 an1 cd1 ct1), sl1⟩) (c1 : PySem.W.codeIn K cd1 "is_sheet" = true) (k1 : PySem.W.keepIn K (.ref f1) = true)
    {f2 : Addr} {od2 an2 : Option Addr} {sl2 : Array (Option Value)} {oc2 kV2 dc2 pm2 cd2 ct2 : Value}
    (a2 : PySem.W.nsIn K mainGlobals "how_many_ties" = some (some (.ref f2))) (l2 : K.lookup f2 = some ⟨oc2, od2, .func (PySem.W.fnOf "how_many_ties" "how_many_ties" (defArgs s_how_many_ties) (defBody s_how_many_ties) (defScope s_how_many_ties) .none kV2 dc2 pm2 an2 cd2 ct2), sl2⟩) (c2 : PySem.W.codeIn K cd2 "how_many_ties" = true) (k2 : PySem.W.keepIn K (.ref f2) = true)
    {f3 : Addr} {od3 an3 : Option Addr} {sl3 : Array (Option Value)} {oc3 kV3 dc3 pm3 cd3 ct3 : Value}
    (a3 : PySem.W.nsIn K mainGlobals "sides_of" = some (some (.ref f3))) (l3 : K.lookup f3 = some ⟨oc3, od3, .func (PySem.W.fnOf "sides_of" "sides_of" (defArgs s_sides_of) (defBody s_sides_of) (defScope s_sides_of) .none kV3 dc3 pm3 an3 cd3 ct3), sl3⟩) (c3 : PySem.W.codeIn K cd3 "sides_of" = true) (k3 : PySem.W.keepIn K (.ref f3) = true)
    {f4 : Addr} {od4 an4 : Option Addr} {sl4 : Array (Option Value)} {oc4 kV4 dc4 pm4 cd4 ct4 : Value}
    (a4 : PySem.W.nsIn K mainGlobals "told_from" = some (some (.ref f4))) (l4 : K.lookup f4 = some ⟨oc4, od4, .func (PySem.W.fnOf "told_from" "told_from" (defArgs s_told_from) (defBody s_told_from) (defScope s_told_from) .none kV4 dc4 pm4 an4 cd4 ct4), sl4⟩) (c4 : PySem.W.codeIn K cd4 "told_from" = true) (k4 : PySem.W.keepIn K (.ref f4) = true)
    {f5 : Addr} {od5 an5 : Option Addr} {sl5 : Array (Option Value)} {oc5 kV5 dc5 pm5 cd5 ct5 : Value}
    (a5 : PySem.W.nsIn K mainGlobals "square_of" = some (some (.ref f5))) (l5 : K.lookup f5 = some ⟨oc5, od5, .func (PySem.W.fnOf "square_of" "square_of" (defArgs s_square_of) (defBody s_square_of) (defScope s_square_of) .none kV5 dc5 pm5 an5 cd5 ct5), sl5⟩) (c5 : PySem.W.codeIn K cd5 "square_of" = true) (k5 : PySem.W.keepIn K (.ref f5) = true)
    {f6 : Addr} {od6 an6 : Option Addr} {sl6 : Array (Option Value)} {oc6 kV6 dc6 pm6 cd6 ct6 : Value}
    (a6 : PySem.W.nsIn K mainGlobals "turned_tie" = some (some (.ref f6))) (l6 : K.lookup f6 = some ⟨oc6, od6, .func (PySem.W.fnOf "turned_tie" "turned_tie" (defArgs s_turned_tie) (defBody s_turned_tie) (defScope s_turned_tie) .none kV6 dc6 pm6 an6 cd6 ct6), sl6⟩) (c6 : PySem.W.codeIn K cd6 "turned_tie" = true) (k6 : PySem.W.keepIn K (.ref f6) = true)
    {f7 : Addr} {od7 an7 : Option Addr} {sl7 : Array (Option Value)} {oc7 kV7 dc7 pm7 cd7 ct7 : Value}
    (a7 : PySem.W.nsIn K mainGlobals "_law_cell_at" = some (some (.ref f7))) (l7 : K.lookup f7 = some ⟨oc7, od7, .func (PySem.W.fnOf "_law_cell_at" "_law_cell_at" (defArgs s_scell) (defBody s_scell) (defScope s_scell) .none kV7 dc7 pm7 an7 cd7 ct7), sl7⟩) (c7 : PySem.W.codeIn K cd7 "_law_cell_at" = true) (k7 : PySem.W.keepIn K (.ref f7) = true)
    {f8 : Addr} {od8 an8 : Option Addr} {sl8 : Array (Option Value)} {oc8 kV8 dc8 pm8 cd8 ct8 : Value}
    (a8 : PySem.W.nsIn K mainGlobals "_law_big" = some (some (.ref f8))) (l8 : K.lookup f8 = some ⟨oc8, od8, .func (PySem.W.fnOf "_law_big" "_law_big" (defArgs s_sbig) (defBody s_sbig) (defScope s_sbig) .none kV8 dc8 pm8 an8 cd8 ct8), sl8⟩) (c8 : PySem.W.codeIn K cd8 "_law_big" = true) (k8 : PySem.W.keepIn K (.ref f8) = true)
    {f9 : Addr} {od9 an9 : Option Addr} {sl9 : Array (Option Value)} {oc9 kV9 dc9 pm9 cd9 ct9 : Value}
    (a9 : PySem.W.nsIn K mainGlobals "_law_digit" = some (some (.ref f9))) (l9 : K.lookup f9 = some ⟨oc9, od9, .func (PySem.W.fnOf "_law_digit" "_law_digit" (defArgs s_sdigit) (defBody s_sdigit) (defScope s_sdigit) .none kV9 dc9 pm9 an9 cd9 ct9), sl9⟩) (c9 : PySem.W.codeIn K cd9 "_law_digit" = true) (k9 : PySem.W.keepIn K (.ref f9) = true)
    {f10 : Addr} {od10 an10 : Option Addr} {sl10 : Array (Option Value)} {oc10 kV10 dc10 pm10 cd10 ct10 : Value}
    (a10 : PySem.W.nsIn K mainGlobals "_law_sheet" = some (some (.ref f10))) (l10 : K.lookup f10 = some ⟨oc10, od10, .func (PySem.W.fnOf "_law_sheet" "_law_sheet" (defArgs s_lsheet) (defBody s_lsheet) (defScope s_lsheet) .none kV10 dc10 pm10 an10 cd10 ct10), sl10⟩) (c10 : PySem.W.codeIn K cd10 "_law_sheet" = true) (k10 : PySem.W.keepIn K (.ref f10) = true)
    {f11 : Addr} {od11 an11 : Option Addr} {sl11 : Array (Option Value)} {oc11 kV11 dc11 pm11 cd11 ct11 : Value}
    (a11 : PySem.W.nsIn K mainGlobals "_law_from" = some (some (.ref f11))) (l11 : K.lookup f11 = some ⟨oc11, od11, .func (PySem.W.fnOf "_law_from" "_law_from" (defArgs s_lfrom) (defBody s_lfrom) (defScope s_lfrom) .none kV11 dc11 pm11 an11 cd11 ct11), sl11⟩) (c11 : PySem.W.codeIn K cd11 "_law_from" = true) (k11 : PySem.W.keepIn K (.ref f11) = true)
    {f12 : Addr} {od12 an12 : Option Addr} {sl12 : Array (Option Value)} {oc12 kV12 dc12 pm12 cd12 ct12 : Value}
    (a12 : PySem.W.nsIn K mainGlobals "_law_square" = some (some (.ref f12))) (l12 : K.lookup f12 = some ⟨oc12, od12, .func (PySem.W.fnOf "_law_square" "_law_square" (defArgs s_lsquare) (defBody s_lsquare) (defScope s_lsquare) .none kV12 dc12 pm12 an12 cd12 ct12), sl12⟩) (c12 : PySem.W.codeIn K cd12 "_law_square" = true) (k12 : PySem.W.keepIn K (.ref f12) = true)
    {f13 : Addr} {od13 an13 : Option Addr} {sl13 : Array (Option Value)} {oc13 kV13 dc13 pm13 cd13 ct13 : Value}
    (a13 : PySem.W.nsIn K mainGlobals "_law_turned" = some (some (.ref f13))) (l13 : K.lookup f13 = some ⟨oc13, od13, .func (PySem.W.fnOf "_law_turned" "_law_turned" (defArgs s_lturned) (defBody s_lturned) (defScope s_lturned) .none kV13 dc13 pm13 an13 cd13 ct13), sl13⟩) (c13 : PySem.W.codeIn K cd13 "_law_turned" = true) (k13 : PySem.W.keepIn K (.ref f13) = true)
    {f14 : Addr} {od14 an14 : Option Addr} {sl14 : Array (Option Value)} {oc14 kV14 dc14 pm14 cd14 ct14 : Value}
    (a14 : PySem.W.nsIn K mainGlobals "_law_told" = some (some (.ref f14))) (l14 : K.lookup f14 = some ⟨oc14, od14, .func (PySem.W.fnOf "_law_told" "_law_told" (defArgs s_told62) (defBody s_told62) (defScope s_told62) .none kV14 dc14 pm14 an14 cd14 ct14), sl14⟩) (c14 : PySem.W.codeIn K cd14 "_law_told" = true) (k14 : PySem.W.keepIn K (.ref f14) = true)
    {f15 : Addr} {od15 an15 : Option Addr} {sl15 : Array (Option Value)} {oc15 kV15 dc15 pm15 cd15 ct15 : Value}
    (a15 : PySem.W.nsIn K mainGlobals "law" = some (some (.ref f15))) (l15 : K.lookup f15 = some ⟨oc15, od15, .func (PySem.W.fnOf "law" "law" (defArgs s_law) (defBody s_law) (defScope s_law) .none kV15 dc15 pm15 an15 cd15 ct15), sl15⟩) (c15 : PySem.W.codeIn K cd15 "law" = true) (k15 : PySem.W.keepIn K (.ref f15) = true)
    (z_int : PySem.W.nsIn K mainGlobals "int" = some none)
    (z_isinstance : PySem.W.nsIn K mainGlobals "isinstance" = some none)
    (z_bool : PySem.W.nsIn K mainGlobals "bool" = some none)
    (z_list : PySem.W.nsIn K mainGlobals "list" = some none)
    (z_len : PySem.W.nsIn K mainGlobals "len" = some none)
    (z_tuple : PySem.W.nsIn K mainGlobals "tuple" = some none)
    (z_all : PySem.W.nsIn K mainGlobals "all" = some none)
    (z_abs : PySem.W.nsIn K mainGlobals "abs" = some none)
    (z_sorted : PySem.W.nsIn K mainGlobals "sorted" = some none)
    (z_range : PySem.W.nsIn K mainGlobals "range" = some none)
    (z_enumerate : PySem.W.nsIn K mainGlobals "enumerate" = some none)
    (z_ValueError : PySem.W.nsIn K mainGlobals "ValueError" = some none)
    {tk_FEWEST : Tok} (y_FEWEST : PySem.W.nsIn K mainGlobals "FEWEST" = some (some (.int 2 tk_FEWEST)))
    {tk_MOST : Tok} (y_MOST : PySem.W.nsIn K mainGlobals "MOST" = some (some (.int 12 tk_MOST)))
    {A_CordError : Addr} (y_CordError : PySem.W.nsIn K mainGlobals "CordError" = some (some (.ref A_CordError)))
    {A_NoRow : Addr} (y_NoRow : PySem.W.nsIn K mainGlobals "NoRow" = some (some (.ref A_NoRow)))
    {A_NoCord : Addr} (y_NoCord : PySem.W.nsIn K mainGlobals "NoCord" = some (some (.ref A_NoCord)))
    {A_NoTurn : Addr} (y_NoTurn : PySem.W.nsIn K mainGlobals "NoTurn" = some (some (.ref A_NoTurn)))
    {A_NoSheet : Addr} (y_NoSheet : PySem.W.nsIn K mainGlobals "NoSheet" = some (some (.ref A_NoSheet)))
    (o0_NoTurn : PySem.W.excIn K A_NoTurn [.type "ValueError", .type "Exception", .type "BaseException", .type "object"] "ValueError.__new__" = true)
    (o1_NoTurn : PySem.W.keepIn K (.ref A_NoTurn) = true)
    (o2_NoTurn : PySem.W.subIn K (.ref A_NoTurn) (.type "BaseException") = some true)
    (o3_NoTurn : PySem.W.typeIn K (.ref A_NoTurn) = some (.type "type"))
    (e0_NoTurn : PySem.W.findIn K (.ref A_NoTurn) "__getattribute__" = some (some (.builtin "BaseException.__getattribute__")))
    (e1_NoTurn : PySem.W.findIn K (.ref A_NoTurn) "__getattr__" = some none)
    (e3_NoTurn : PySem.W.hasDictIn K A_NoTurn = true)
    (e4_NoTurn : PySem.W.findIn K (.ref A_NoTurn) "__class__" = some (some (.builtin "object.__class__")))
    (e7_NoTurn : PySem.W.mroIn K A_NoTurn (.type "object") = some true)
    (x0_NoTurn : PySem.W.exmOne K (.ref A_NoTurn) (.ref A_CordError) = some true)
    (v0_NoTurn : PySem.W.kitOne K (.ref A_NoTurn) (.type "ValueError") = some true)
    (t_CordError_NoTurn : PySem.W.kitOne K (.ref A_NoTurn) (.ref A_CordError) = some (subE "NoTurn" "CordError"))
    (t_NoRow_NoTurn : PySem.W.kitOne K (.ref A_NoTurn) (.ref A_NoRow) = some (subE "NoTurn" "NoRow"))
    (t_NoCord_NoTurn : PySem.W.kitOne K (.ref A_NoTurn) (.ref A_NoCord) = some (subE "NoTurn" "NoCord"))
    (t_NoTurn_NoTurn : PySem.W.kitOne K (.ref A_NoTurn) (.ref A_NoTurn) = some (subE "NoTurn" "NoTurn"))
    (t_NoSheet_NoTurn : PySem.W.kitOne K (.ref A_NoTurn) (.ref A_NoSheet) = some (subE "NoTurn" "NoSheet"))
    (e5_all : PySem.W.specialIn K (.builtin "object.__class__") "__get__" = some (some (.builtin "getset_descriptor.__get__"))) (e6_all : PySem.W.takesIn K (.builtin "object.__class__") = some true)
    : ∃ fd : FuncData, (∀ (s : Shared) (v : Value), BindsTo s fd ⟨[v], []⟩ [("_law_script", v)]) ∧ ∀ base : Heap, K.In base → base.Ns mainGlobals mg → FnOk l.prog w K mg base CX0 5 fa fd ["_law_script"] (LSp K sp_law) := by
  have e := hfa.symm.trans (PySem.W.mg_of X G a15)
  cases e
  have m_int := PySem.W.mg_none_of X G z_int
  have m_isinstance := PySem.W.mg_none_of X G z_isinstance
  have m_bool := PySem.W.mg_none_of X G z_bool
  have m_list := PySem.W.mg_none_of X G z_list
  have m_len := PySem.W.mg_none_of X G z_len
  have m_tuple := PySem.W.mg_none_of X G z_tuple
  have m_all := PySem.W.mg_none_of X G z_all
  have m_abs := PySem.W.mg_none_of X G z_abs
  have m_sorted := PySem.W.mg_none_of X G z_sorted
  have m_range := PySem.W.mg_none_of X G z_range
  have m_enumerate := PySem.W.mg_none_of X G z_enumerate
  have m_ValueError := PySem.W.mg_none_of X G z_ValueError
  have g_FEWEST := PySem.W.mg_of X G y_FEWEST
  have g_MOST := PySem.W.mg_of X G y_MOST
  refine ⟨PySem.W.fnOf "law" "law" (defArgs s_law) (defBody s_law) (defScope s_law) .none kV15 dc15 pm15 an15 cd15 ct15, fun s v => .of_eq rfl, fun base _ _ => ?_⟩
  let bk : String → Addr := fun s => if s = "NoRow" then A_NoRow else if s = "NoCord" then A_NoCord else if s = "NoTurn" then A_NoTurn else if s = "NoSheet" then A_NoSheet else A_CordError
  have BK : Book K mg bk ["NoTurn"] ["CordError", "NoRow", "NoCord", "NoTurn", "NoSheet"] := by
    refine ⟨fun c hc => ?_, fun c hc => ?_, fun c hc => ?_, fun c hc y hy => ?_, fun c hc => ?_, fun y hy => ?_⟩
    · simp only [List.mem_cons, List.not_mem_nil, or_false] at hc
      rcases hc with rfl
      · exact ⟨o0_NoTurn, o1_NoTurn, o2_NoTurn, o3_NoTurn⟩
    · simp only [List.mem_cons, List.not_mem_nil, or_false] at hc
      rcases hc with rfl
      · exact ⟨e0_NoTurn, e1_NoTurn, o2_NoTurn, e3_NoTurn, e4_NoTurn, e5_all, e6_all, e7_NoTurn⟩
    · simp only [List.mem_cons, List.not_mem_nil, or_false] at hc
      rcases hc with rfl
      · exact x0_NoTurn
    · simp only [List.mem_cons, List.not_mem_nil, or_false] at hc hy
      rcases hc with rfl
      · rcases hy with rfl | rfl | rfl | rfl | rfl
        · exact t_CordError_NoTurn
        · exact t_NoRow_NoTurn
        · exact t_NoCord_NoTurn
        · exact t_NoTurn_NoTurn
        · exact t_NoSheet_NoTurn
    · simp only [List.mem_cons, List.not_mem_nil, or_false] at hc
      rcases hc with rfl
      · exact v0_NoTurn
    · simp only [List.mem_cons, List.not_mem_nil, or_false] at hy
      rcases hy with rfl | rfl | rfl | rfl | rfl
      · exact PySem.W.mg_of X G y_CordError
      · exact PySem.W.mg_of X G y_NoRow
      · exact PySem.W.mg_of X G y_NoCord
      · exact PySem.W.mg_of X G y_NoTurn
      · exact PySem.W.mg_of X G y_NoSheet
  have U7 := fun_mk (st := s_scell) l7 c7 k7
  have F_scell : Fn3 l.prog w K mg base "_law_cell_at" 1 ["_law_script", "_law_k"] sp_scell := ⟨⟨f7, _, PySem.W.mg_of X G a7, U7.kp, U7.binds (fun _ _ _ _ _ _ us hl => match us, hl with | [_, _], _ => rfl), fn3 U7 sc_scell (len_scell) (fun cdv A outer s H E hr => d_scell m_len cdv A outer s H E hr) rd_scell⟩, mono_scell⟩
  have U8 := fun_mk (st := s_sbig) l8 c8 k8
  have F_sbig : Fn3 l.prog w K mg base "_law_big" 2 ["_law_script", "_law_at"] sp_sbig := ⟨⟨f8, _, PySem.W.mg_of X G a8, U8.kp, U8.binds (fun _ _ _ _ _ _ us hl => match us, hl with | [_, _], _ => rfl), fn3 U8 sc_sbig (len_sbig) (fun cdv A outer s H E hr => d_sbig m_range F_scell cdv A outer s H E hr) rd_sbig⟩, mono_sbig⟩
  have U9 := fun_mk (st := s_sdigit) l9 c9 k9
  have F_sdigit : Fn3 l.prog w K mg base "_law_digit" 1 ["_law_rest", "_law_many"] sp_sdigit := ⟨⟨f9, _, PySem.W.mg_of X G a9, U9.kp, U9.binds (fun _ _ _ _ _ _ us hl => match us, hl with | [_, _], _ => rfl), fn3 U9 sc_sdigit (len_sdigit) (fun cdv A outer s H E hr => d_sdigit  cdv A outer s H E hr) rd_sdigit⟩, mono_sdigit⟩
  have U10 := fun_mk (st := s_lsheet) l10 c10 k10
  have F_lsheet : Fn3 l.prog w K mg base "_law_sheet" 2 ["_law_rest"] sp_lsheet := ⟨⟨f10, _, PySem.W.mg_of X G a10, U10.kp, U10.binds (fun _ _ _ _ _ _ us hl => match us, hl with | [_], _ => rfl), fn3 U10 sc_lsheet (len_lsheet) (fun cdv A outer s H E hr => d_lsheet m_list m_range m_len m_tuple F_sdigit cdv A outer s H E hr) rd_lsheet⟩, mono_lsheet⟩
  have U11 := fun_mk (st := s_lfrom) l11 c11 k11
  have F_lfrom : Fn3 l.prog w K mg base "_law_from" 1 ["_law_triangle", "_law_tie"] sp_lfrom := ⟨⟨f11, _, PySem.W.mg_of X G a11, U11.kp, U11.binds (fun _ _ _ _ _ _ us hl => match us, hl with | [_, _], _ => rfl), fn3 U11 sc_lfrom (len_lfrom) (fun cdv A outer s H E hr => d_lfrom m_abs cdv A outer s H E hr) rd_lfrom⟩, mono_lfrom⟩
  have U12 := fun_mk (st := s_lsquare) l12 c12 k12
  have F_lsquare : Fn3 l.prog w K mg base "_law_square" 2 ["_law_sheet_here", "_law_tie"] sp_lsquare := ⟨⟨f12, _, PySem.W.mg_of X G a12, U12.kp, U12.binds (fun _ _ _ _ _ _ us hl => match us, hl with | [_, _], _ => rfl), fn3 U12 sc_lsquare (len_lsquare) (fun cdv A outer s H E hr => d_lsquare m_enumerate m_abs m_len F_lfrom cdv A outer s H E hr) rd_lsquare⟩, mono_lsquare⟩
  have U13 := fun_mk (st := s_lturned) l13 c13 k13
  have F_lturned : Fn3 l.prog w K mg base "_law_turned" 3 ["_law_sheet_here", "_law_tie"] sp_lturned := ⟨⟨f13, _, PySem.W.mg_of X G a13, U13.kp, U13.binds (fun _ _ _ _ _ _ us hl => match us, hl with | [_, _], _ => rfl), fn3 U13 sc_lturned (len_lturned) (fun cdv A outer s H E hr => d_lturned m_list F_lsquare cdv A outer s H E hr) rd_lturned⟩, mono_lturned⟩
  have U0 := fun_mk (st := s_is_whole) l0 c0 k0
  have F_is_whole : Fn3 l.prog w K mg base "is_whole" 1 ["thing"] sp_is_whole := ⟨⟨f0, _, PySem.W.mg_of X G a0, U0.kp, U0.binds (fun _ _ _ _ _ _ us hl => match us, hl with | [_], _ => rfl), fn3 U0 sc_is_whole (len_is_whole) (fun cdv A outer s H E hr => d_is_whole m_int m_isinstance m_bool cdv A outer s H E hr) rd_is_whole⟩, mono_is_whole⟩
  have U2 := fun_mk (st := s_how_many_ties) l2 c2 k2
  have F_how_many_ties : Fn3 l.prog w K mg base "how_many_ties" 1 ["sheet"] sp_how_many_ties := ⟨⟨f2, _, PySem.W.mg_of X G a2, U2.kp, U2.binds (fun _ _ _ _ _ _ us hl => match us, hl with | [_], _ => rfl), fn3 U2 sc_how_many_ties (len_how_many_ties) (fun cdv A outer s H E hr => d_how_many_ties m_len cdv A outer s H E hr) rd_how_many_ties⟩, mono_how_many_ties⟩
  have U3 := fun_mk (st := s_sides_of) l3 c3 k3
  have F_sides_of : Fn3 l.prog w K mg base "sides_of" 1 ["sheet"] sp_sides_of := ⟨⟨f3, _, PySem.W.mg_of X G a3, U3.kp, U3.binds (fun _ _ _ _ _ _ us hl => match us, hl with | [_], _ => rfl), fn3 U3 sc_sides_of (len_sides_of) (fun cdv A outer s H E hr => d_sides_of m_enumerate m_abs cdv A outer s H E hr) rd_sides_of⟩, mono_sides_of⟩
  have U4 := fun_mk (st := s_told_from) l4 c4 k4
  have F_told_from : Fn3 l.prog w K mg base "told_from" 1 ["triangle", "side"] sp_told_from := ⟨⟨f4, _, PySem.W.mg_of X G a4, U4.kp, U4.binds (fun _ _ _ _ _ _ us hl => match us, hl with | [_, _], _ => rfl), fn3 U4 sc_told_from (len_told_from) (fun cdv A outer s H E hr => d_told_from  cdv A outer s H E hr) rd_told_from⟩, mono_told_from⟩
  have U5 := fun_mk (st := s_square_of) l5 c5 k5
  have F_square_of : Fn3X l.prog w K mg base bk "square_of" 2 ["sheet", "tie"] sp_square_of := ⟨⟨f5, _, PySem.W.mg_of X G a5, U5.kp, U5.binds (fun _ _ _ _ _ _ us hl => match us, hl with | [_, _], _ => rfl), fn3X U5 sc_square_of (len_square_of) (fun cdv A outer s H E m0 E4 hr hE tk => d_square_of BK F_is_whole F_how_many_ties F_sides_of F_told_from cdv A outer s H E m0 E4 hr hE tk) rd_square_of⟩, mono_square_of⟩
  have U6 := fun_mk (st := s_turned_tie) l6 c6 k6
  have F_turned_tie : Fn3X l.prog w K mg base bk "turned_tie" 3 ["sheet", "tie"] sp_turned_tie := ⟨⟨f6, _, PySem.W.mg_of X G a6, U6.kp, U6.binds (fun _ _ _ _ _ _ us hl => match us, hl with | [_, _], _ => rfl), fn3X U6 sc_turned_tie (len_turned_tie) (fun cdv A outer s H E m0 E4 hr hE tk => d_turned_tie m_list F_square_of cdv A outer s H E m0 E4 hr hE tk) rd_turned_tie⟩, mono_turned_tie⟩
  have U14 := fun_mk (st := s_told62) l14 c14 k14
  have F_told62 : Fn3 l.prog w K mg base "_law_told" 4 ["_law_sheet_here", "_law_tie"] sp_told62 := ⟨⟨f14, _, PySem.W.mg_of X G a14, U14.kp, U14.binds (fun _ _ _ _ _ _ us hl => match us, hl with | [_, _], _ => rfl), fn3 U14 sc_told62 (len_told62) (fun cdv A outer s H E hr => d_told62 m_isinstance m_ValueError BK F_turned_tie cdv A outer s H E hr) rd_told62⟩, mono_told62⟩
  have U1 := fun_mk (st := s_is_sheet) l1 c1 k1
  have F_is_sheet : Fn3 l.prog w K mg base "is_sheet" 2 ["thing"] sp_is_sheet := ⟨⟨f1, _, PySem.W.mg_of X G a1, U1.kp, U1.binds (fun _ _ _ _ _ _ us hl => match us, hl with | [_], _ => rfl), fn3 U1 sc_is_sheet (len_is_sheet) (fun cdv A outer s H E hr => d_is_sheet m_list m_isinstance m_len m_tuple m_all m_abs m_sorted m_range F_is_whole F_how_many_ties g_FEWEST g_MOST cdv A outer s H E hr) rd_is_sheet⟩, mono_is_sheet⟩
  have U15 := fun_mk (st := s_law) l15 c15 k15
  exact fn3 U15 sc_law (len_law) (fun cdv A outer s H E hr => d_law m_list m_len m_range m_isinstance F_sbig F_lsheet F_lsquare F_lturned F_told62 F_is_sheet F_sdigit cdv A outer s H E hr) rd_law

end F3
open PySem PySem.W PyProof.Rows
set_option maxHeartbeats 0 in
theorem PySem.Challenge.cw_farcords_k62_ties_turned_holds : PySem.Challenge.rw_farcords_k62_ties_turned.Holds := by
  w_on; o_law; k_head; (case hw => w_witness2)
  k_fill
  refine L2.walk_of (l := PySem.Challenge.rw_farcords_k62_ties_turned) (n := 63) (k := 5) (x := "_law_script") (CX := fun _ => L2.CX0) (sp := fun w => F3.LSp _ F3.sp_law) rfl (by decide) rfl ⟨rfl, by decide, by decide⟩ (fun w h Y => PySem.W.kIn_of Y) ?F (fun _ _ a ns hl o hS => F3.law_start hl o hS F3.start_law) (fun _ _ _ _ _ h => h)
  case F =>
    intro w mg fa h KX G hmg
    refine' F3.all_mk KX G hmg ?a0 ?l0 ?c0 ?k0 ?a1 ?l1 ?c1 ?k1 ?a2 ?l2 ?c2 ?k2 ?a3 ?l3 ?c3 ?k3 ?a4 ?l4 ?c4 ?k4 ?a5 ?l5 ?c5 ?k5 ?a6 ?l6 ?c6 ?k6 ?a7 ?l7 ?c7 ?k7 ?a8 ?l8 ?c8 ?k8 ?a9 ?l9 ?c9 ?k9 ?a10 ?l10 ?c10 ?k10 ?a11 ?l11 ?c11 ?k11 ?a12 ?l12 ?c12 ?k12 ?a13 ?l13 ?c13 ?k13 ?a14 ?l14 ?c14 ?k14 ?a15 ?l15 ?c15 ?k15 ?z_int ?z_isinstance ?z_bool ?z_list ?z_len ?z_tuple ?z_all ?z_abs ?z_sorted ?z_range ?z_enumerate ?z_ValueError ?y_FEWEST ?y_MOST ?y_CordError ?y_NoRow ?y_NoCord ?y_NoTurn ?y_NoSheet ?o0_NoTurn ?o1_NoTurn ?o2_NoTurn ?o3_NoTurn ?e0_NoTurn ?e1_NoTurn ?e3_NoTurn ?e4_NoTurn ?e7_NoTurn ?x0_NoTurn ?v0_NoTurn ?t_CordError_NoTurn ?t_NoRow_NoTurn ?t_NoCord_NoTurn ?t_NoTurn_NoTurn ?t_NoSheet_NoTurn ?e5_all ?e6_all
    (case a0 => k_is)
    (case l0 => k_is)
    (case c0 => k_is)
    (case k0 => k_is)
    (case a1 => k_is)
    (case l1 => k_is)
    (case c1 => k_is)
    (case k1 => k_is)
    (case a2 => k_is)
    (case l2 => k_is)
    (case c2 => k_is)
    (case k2 => k_is)
    (case a3 => k_is)
    (case l3 => k_is)
    (case c3 => k_is)
    (case k3 => k_is)
    (case a4 => k_is)
    (case l4 => k_is)
    (case c4 => k_is)
    (case k4 => k_is)
    (case a5 => k_is)
    (case l5 => k_is)
    (case c5 => k_is)
    (case k5 => k_is)
    (case a6 => k_is)
    (case l6 => k_is)
    (case c6 => k_is)
    (case k6 => k_is)
    (case a7 => k_is)
    (case l7 => k_is)
    (case c7 => k_is)
    (case k7 => k_is)
    (case a8 => k_is)
    (case l8 => k_is)
    (case c8 => k_is)
    (case k8 => k_is)
    (case a9 => k_is)
    (case l9 => k_is)
    (case c9 => k_is)
    (case k9 => k_is)
    (case a10 => k_is)
    (case l10 => k_is)
    (case c10 => k_is)
    (case k10 => k_is)
    (case a11 => k_is)
    (case l11 => k_is)
    (case c11 => k_is)
    (case k11 => k_is)
    (case a12 => k_is)
    (case l12 => k_is)
    (case c12 => k_is)
    (case k12 => k_is)
    (case a13 => k_is)
    (case l13 => k_is)
    (case c13 => k_is)
    (case k13 => k_is)
    (case a14 => k_is)
    (case l14 => k_is)
    (case c14 => k_is)
    (case k14 => k_is)
    (case a15 => k_is)
    (case l15 => k_is)
    (case c15 => k_is)
    (case k15 => k_is)
    (case z_int => k_is)
    (case z_isinstance => k_is)
    (case z_bool => k_is)
    (case z_list => k_is)
    (case z_len => k_is)
    (case z_tuple => k_is)
    (case z_all => k_is)
    (case z_abs => k_is)
    (case z_sorted => k_is)
    (case z_range => k_is)
    (case z_enumerate => k_is)
    (case z_ValueError => k_is)
    (case y_FEWEST => k_is)
    (case y_MOST => k_is)
    (case y_CordError => k_is)
    (case y_NoRow => k_is)
    (case y_NoCord => k_is)
    (case y_NoTurn => k_is)
    (case y_NoSheet => k_is)
    (case o0_NoTurn => k_exc)
    (case o1_NoTurn => k_is)
    (case o2_NoTurn => k_is)
    (case o3_NoTurn => k_is)
    (case e0_NoTurn => k_is)
    (case e1_NoTurn => k_is)
    (case e3_NoTurn => k_is)
    (case e4_NoTurn => k_is)
    (case e7_NoTurn => k_is)
    (case x0_NoTurn => kts_exm)
    (case v0_NoTurn => kit_is)
    (case t_CordError_NoTurn => kit_is)
    (case t_NoRow_NoTurn => kit_is)
    (case t_NoCord_NoTurn => kit_is)
    (case t_NoTurn_NoTurn => kit_is)
    (case t_NoSheet_NoTurn => kit_is)
    (case e5_all => k_is)
    (case e6_all => k_is)
