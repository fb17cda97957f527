import PyProof.Rows.All
import Wide.All
import OpenK.AllK
import Wide.FinOn
import HandS.ForMost
import HandS.Exc
import HandS.TryOnly
import HandS.TryMany
import HandS.ExcOwn
import HandS.ExcIs
import HandS.WordsExc
import HandS.Style
import HandS.IsInst
import HandS.Conv
import HandS.Deep
import HandS.SetFor
import HandS.HotCalls
import HandS.Text
import HandS.StrMore
import HandS.More
import HandS.Dict
import HandS.RaiseMore
import HandS.Iter
import HandS.ListItems
import HandS.Zip
import KE.IntTextLaws
import PyProof.StrLawsChain
import PySem.Challenge.RW_debttree_k08_debts_and_ways
set_option Elab.async false
set_option linter.all false
set_option maxRecDepth 100000
set_option maxHeartbeats 1000000
/-! The layer J: data values, a store, results; readings of HandS told by plain functions on frames and stores. -/
namespace DebtJ
open PySem PySem.Spec PyProof.Rows L2

/-! ### values, objects, stores, results -/
inductive D where
  | non | bl (b : Bool) | int (i : Int) | str (s : Str) | tup (xs : List D) | ref (n : Nat) | scr
instance : Inhabited D := ⟨.non⟩
abbrev Fr := List (Option D)
inductive O where
  | lst (xs : List D)
  | ins (c : Nat) (fs : List (Str × D))
  | dic (kvs : List (Key × D))
  | frd (kvs : List (Key × D))
abbrev Store := List O
inductive R (β : Type) where
  | ok (b : β) (S : Store)
  | exc (c : Nat) (S : Store)
  | no
def R.bind {β γ : Type} (r : R β) (k : β → Store → R γ) : R γ := match r with
  | .ok b S => k b S
  | .exc c S => .exc c S
  | .no => .no
def R.of {β : Type} : Option (β × Store) → R β
  | some (b, S) => .ok b S
  | none => .no
inductive RS where
  | nx (φ : Fr) (S : Store)
  | rt (d : D) (S : Store)
  | bk (φ : Fr) (S : Store)
  | ct (φ : Fr) (S : Store)
  | exc (c : Nat) (φ : Fr) (S : Store)
  | no
abbrev SE := Fr → Store → R D
abbrev SA := Fr → Store → R (List D)
abbrev ST := Fr → Store → R Bool
abbrev SS := Fr → Store → RS
abbrev SF := List D → Store → R D

/-- where the classes stand, where the script stands, what it holds -/
structure Pm where
  ca : Nat → Addr
  a0 : Addr
  ns : List Int

/-! ### what a value, a frame, a store means in an abstract heap -/
mutual
inductive VR (G : Pm) (α : List Addr) (H : Hp) : D → V → Prop
  | non : VR G α H .non .non
  | bl (b : Bool) : VR G α H (.bl b) (.bl b)
  | int (i : Int) : VR G α H (.int i) (.int i)
  | str (s : Str) : VR G α H (.str s) (.str s)
  | scr : VR G α H .scr (.ref G.a0)
  | ref {n : Nat} {a : Addr} : α[n]? = some a → VR G α H (.ref n) (.ref a)
  | tup {a : Addr} {vs : List V} {xs : List D} : H a = some (.tup vs) → VRs G α H xs vs → VR G α H (.tup xs) (.ref a)
inductive VRs (G : Pm) (α : List Addr) (H : Hp) : List D → List V → Prop
  | nil : VRs G α H [] []
  | cons {d : D} {v : V} {ds : List D} {vs : List V} : VR G α H d v → VRs G α H ds vs → VRs G α H (d :: ds) (v :: vs)
end
structure Ext (α : List Addr) (H : Hp) (α' : List Addr) (H' : Hp) : Prop where
  pre : ∃ β, α' = α ++ β
  tup : ∀ b xs, H b = some (.tup xs) → H' b = some (.tup xs)
  frz : ∀ b o u, H b = some (.frz o u) → H' b = some (.frz o u)
section
variable {G : Pm} {α α' α'' : List Addr} {H H' H'' : Hp}
theorem Ext.refl (α : List Addr) (H : Hp) : Ext α H α H := ⟨⟨[], by simp⟩, fun _ _ h => h, fun _ _ _ h => h⟩
theorem Ext.trans (a : Ext α H α' H') (b : Ext α' H' α'' H'') : Ext α H α'' H'' := by
  obtain ⟨β, e1⟩ := a.pre
  obtain ⟨β', e2⟩ := b.pre
  exact ⟨⟨β ++ β', by rw [e2, e1, List.append_assoc]⟩, fun b' xs h => b.tup _ _ (a.tup _ _ h), fun b' o u h => b.frz _ _ _ (a.frz _ _ _ h)⟩
theorem Ext.get (a : Ext α H α' H') {n : Nat} {x : Addr} (h : α[n]? = some x) : α'[n]? = some x := by
  obtain ⟨β, e⟩ := a.pre
  have hl : n < α.length := (List.getElem?_eq_some_iff.mp h).1
  rw [e, List.getElem?_append_left hl]
  exact h
mutual
theorem VR.mono (e : Ext α H α' H') : ∀ {d : D} {v : V}, VR G α H d v → VR G α' H' d v
  | _, _, .non => .non
  | _, _, .bl b => .bl b
  | _, _, .int i => .int i
  | _, _, .str s => .str s
  | _, _, .scr => .scr
  | _, _, .ref h => .ref (e.get h)
  | _, _, .tup h r => .tup (e.tup _ _ h) (VRs.mono e r)
theorem VRs.mono (e : Ext α H α' H') : ∀ {ds : List D} {vs : List V}, VRs G α H ds vs → VRs G α' H' ds vs
  | _, _, .nil => .nil
  | _, _, .cons r t => .cons (VR.mono e r) (VRs.mono e t)
end
theorem VRs.length : ∀ {ds : List D} {vs : List V}, VRs G α H ds vs → ds.length = vs.length
  | _, _, .nil => rfl
  | _, _, .cons _ t => by rw [List.length_cons, List.length_cons, VRs.length t]
theorem VRs.get : ∀ {ds : List D} {vs : List V} {i : Nat} {d : D}, VRs G α H ds vs → ds[i]? = some d → ∃ v, vs[i]? = some v ∧ VR G α H d v
  | _, _, _, _, .nil, e => by simp at e
  | _, _, 0, _, .cons r _, e => by simp at e; subst e; exact ⟨_, rfl, r⟩
  | _, _, i + 1, d, .cons _ t, e => by
    obtain ⟨v, h1, h2⟩ := VRs.get (i := i) (d := d) t (by simpa using e)
    exact ⟨v, by simpa using h1, h2⟩
theorem VRs.append : ∀ {ds es : List D} {vs ws : List V}, VRs G α H ds vs → VRs G α H es ws → VRs G α H (ds ++ es) (vs ++ ws)
  | _, _, _, _, .nil, s => s
  | _, _, _, _, .cons r t, s => .cons r (VRs.append t s)
theorem VRs.set {d : D} {v : V} (r : VR G α H d v) : ∀ {ds : List D} {vs : List V} (i : Nat), VRs G α H ds vs → VRs G α H (ds.set i d) (vs.set i v)
  | _, _, _, .nil => .nil
  | _, _, 0, .cons _ t => .cons r t
  | _, _, i + 1, .cons q t => .cons q (VRs.set r i t)
theorem VRs.eraseIdx : ∀ {ds : List D} {vs : List V} (i : Nat), VRs G α H ds vs → VRs G α H (ds.eraseIdx i) (vs.eraseIdx i)
  | _, _, _, .nil => .nil
  | _, _, 0, .cons _ t => t
  | _, _, i + 1, .cons q t => .cons q (VRs.eraseIdx i t)
theorem VRs.take : ∀ {ds : List D} {vs : List V} (n : Nat), VRs G α H ds vs → VRs G α H (ds.take n) (vs.take n)
  | _, _, 0, _ => .nil
  | _, _, _ + 1, .nil => .nil
  | _, _, n + 1, .cons r t => .cons r (VRs.take n t)
theorem VRs.drop : ∀ {ds : List D} {vs : List V} (n : Nat), VRs G α H ds vs → VRs G α H (ds.drop n) (vs.drop n)
  | _, _, 0, r => r
  | _, _, _ + 1, .nil => .nil
  | _, _, n + 1, .cons _ t => VRs.drop n t
theorem VRs.reverse {ds : List D} {vs : List V} (h : VRs G α H ds vs) : VRs G α H ds.reverse vs.reverse := by
  induction ds generalizing vs with
  | nil => cases h; exact .nil
  | cons d ds ih => cases h with
    | cons r t => rw [List.reverse_cons, List.reverse_cons]; exact (ih t).append (.cons r .nil)
theorem VRs.rep {ds : List D} {vs : List V} (h : VRs G α H ds vs) : ∀ k : Nat, VRs G α H (List.replicate k ds).flatten (List.replicate k vs).flatten
  | 0 => .nil
  | k + 1 => by
    rw [List.replicate_succ, List.replicate_succ, List.flatten_cons, List.flatten_cons]
    exact h.append (VRs.rep h k)
end

/-- fields -/
def FRl (G : Pm) (α : List Addr) (H : Hp) : List (Str × D) → List (Str × V) → Prop := Paired fun p q => p.1 = q.1 ∧ VR G α H p.2 q.2
def KVl (G : Pm) (α : List Addr) (H : Hp) : List (Key × D) → List (Key × V) → Prop := Paired fun p q => p.1 = q.1 ∧ VR G α H p.2 q.2
def OR (G : Pm) (α : List Addr) (H : Hp) (a : Addr) : O → Prop
  | .lst xs => ∃ vs, H a = some (.lst vs) ∧ VRs G α H xs vs
  | .ins c fs => ∃ dx vfs, H a = some (.ins (G.ca c) dx vfs) ∧ FRl G α H fs vfs
  | .dic kvs => ∃ vs, H a = some (.dK vs) ∧ KVl G α H kvs vs
  | .frd kvs => ∃ fo vs, H a = some (.frz fo (.dK vs)) ∧ KVl G α H kvs vs
/-- the script: locked, or written -/
def ScrOk (K : PySem.W.Frag) (H : Hp) (a : Addr) (ns : List Int) : Prop :=
  (∃ fo, H a = some (.frz fo (.lst (ns.map V.int)))) ∨ ∃ (o : Obj) (its : Array Value) (n : Nat), K.lookup a = some o ∧ o.cls = .type "list" ∧ o.dict = none ∧ o.data = .seq its n ∧ its.size ≤ sizeLine ∧ Vals (ns.map V.int) its.toList
structure RSt (K : PySem.W.Frag) (G : Pm) (α : List Addr) (S : Store) (H : Hp) : Prop where
  len : α.length = S.length
  nd : α.Nodup
  scr : ScrOk K H G.a0 G.ns
  ob : ∀ (n : Nat) (o : O), S[n]? = some o → ∃ a, α[n]? = some a ∧ OR G α H a o
/-- the frame; ξ: the slot that holds the exception that is handled, and its address -/
structure RF (G : Pm) (α : List Addr) (H : Hp) (ξ : Option (Nat × Addr)) (σ : L2.St) (φ : Fr) : Prop where
  len : σ.length = φ.length
  at_ : ∀ (i : Nat) (d : D), φ[i]? = some (some d) → ∃ v, σ[i]? = some (some v) ∧ VR G α H d v
  xi : ∀ p, ξ = some p → σ[p.1]? = some (some (.ref p.2)) ∧ φ[p.1]? = some none
section
variable {K : PySem.W.Frag} {G : Pm} {α α' α'' : List Addr} {H H' H'' : Hp} {S S' : Store} {σ : L2.St} {φ : Fr} {ξ : Option (Nat × Addr)}
theorem RF.mono (e : Ext α H α' H') (f : RF G α H ξ σ φ) : RF G α' H' ξ σ φ := ⟨f.len, fun i d h => let ⟨v, h1, h2⟩ := f.at_ i d h; ⟨v, h1, h2.mono e⟩, f.xi⟩
theorem paired_mono {κ : Type} (e : Ext α H α' H') : ∀ {fs : List (κ × D)} {vs : List (κ × V)}, Paired (fun (p : κ × D) (q : κ × V) => p.1 = q.1 ∧ VR G α H p.2 q.2) fs vs → Paired (fun (p : κ × D) (q : κ × V) => p.1 = q.1 ∧ VR G α' H' p.2 q.2) fs vs
  | _, _, .nil => .nil
  | _, _, .cons r t => .cons ⟨r.1, r.2.mono e⟩ (paired_mono e t)
theorem paired_lookup {κ : Type} [BEq κ] {f : κ} {d : D} : ∀ {fs : List (κ × D)} {vs : List (κ × V)}, Paired (fun (p : κ × D) (q : κ × V) => p.1 = q.1 ∧ VR G α H p.2 q.2) fs vs → fs.lookup f = some d → ∃ v, vs.lookup f = some v ∧ VR G α H d v
  | _, _, .nil, h => by simp at h
  | (k, x) :: fs, (k', y) :: vs, .cons r t, h => by
    obtain ⟨e, r⟩ := r
    simp only at e r
    subst e
    rw [List.lookup_cons] at h ⊢
    cases hb : f == k with
    | true =>
      rw [hb] at h
      simp only [Option.some.injEq] at h
      subst h
      exact ⟨y, rfl, r⟩
    | false =>
      rw [hb] at h
      exact paired_lookup t h
theorem paired_lookup_none {κ : Type} [BEq κ] {f : κ} : ∀ {fs : List (κ × D)} {vs : List (κ × V)}, Paired (fun (p : κ × D) (q : κ × V) => p.1 = q.1 ∧ VR G α H p.2 q.2) fs vs → fs.lookup f = none → vs.lookup f = none
  | _, _, .nil, _ => rfl
  | (k, x) :: fs, (k', y) :: vs, .cons r t, h => by
    obtain ⟨e, r⟩ := r
    simp only at e r
    subst e
    rw [List.lookup_cons] at h ⊢
    cases hb : f == k with
    | true => rw [hb] at h; cases h
    | false => rw [hb] at h; exact paired_lookup_none t h
theorem OR.mono {a : Addr} {o : O} (e : Ext α H α' H') (ha : H' a = H a) (h : OR G α H a o) : OR G α' H' a o := by
  cases o with
  | lst xs => obtain ⟨vs, h1, h2⟩ := h; exact ⟨vs, by rw [ha]; exact h1, h2.mono e⟩
  | ins c fs => obtain ⟨dx, vs, h1, h2⟩ := h; exact ⟨dx, vs, by rw [ha]; exact h1, paired_mono e h2⟩
  | dic kvs => obtain ⟨vs, h1, h2⟩ := h; exact ⟨vs, by rw [ha]; exact h1, paired_mono e h2⟩
  | frd kvs => obtain ⟨fo, vs, h1, h2⟩ := h; exact ⟨fo, vs, by rw [ha]; exact h1, paired_mono e h2⟩
def MutO : HO → Bool
  | .lst _ => true | .ins _ _ _ => true | .dK _ => true | _ => false
theorem OR.is {a : Addr} {o : O} (h : OR G α H a o) : ∃ u, H a = some u := by
  cases o with
  | lst xs => obtain ⟨vs, h1, _⟩ := h; exact ⟨_, h1⟩
  | ins c fs => obtain ⟨dx, vs, h1, _⟩ := h; exact ⟨_, h1⟩
  | dic kvs => obtain ⟨vs, h1, _⟩ := h; exact ⟨_, h1⟩
  | frd kvs => obtain ⟨fo, vs, h1, _⟩ := h; exact ⟨_, h1⟩
theorem ScrOk.sql {a : Addr} {ns : List Int} (h : ScrOk K H a ns) : SqL K H a (ns.map V.int) := by
  rcases h with ⟨o, h⟩ | h
  · exact .inl (.inr ⟨o, h⟩)
  · exact .inr h
theorem ScrOk.of {a : Addr} {ns : List Int} (ho : Only H) (h : SqL K H a (ns.map V.int)) : ScrOk K H a ns := by
  rcases h with (h | ⟨o, h⟩) | h
  · rcases ho a with e | ⟨o, xs, e⟩ <;> rw [e] at h <;> cases h
  · exact .inl ⟨o, h⟩
  · exact .inr h
theorem ScrOk.upd {a b : Addr} {u : HO} {ns : List Int} (h : ScrOk K H a ns) (hb : H b = none ∨ ∃ o, H b = some o ∧ MutO o = true) : ScrOk K (upd H b u) a ns := by
  rcases h with ⟨o, h⟩ | h
  · refine .inl ⟨o, ?_⟩
    rw [upd_ne]
    · exact h
    · rintro rfl
      rcases hb with hb | ⟨o, hb, hm⟩
      · rw [hb] at h; cases h
      · rw [hb] at h; cases h; cases hm
  · exact .inr h
theorem tup_keep {b : Addr} {u : HO} (hb : H b = none ∨ ∃ o, H b = some o ∧ MutO o = true) : ∀ c xs, H c = some (.tup xs) → (upd H b u) c = some (.tup xs) := fun c xs h => by
  rw [upd_ne]
  · exact h
  · rintro rfl
    rcases hb with hb | ⟨o, hb, hm⟩
    · rw [hb] at h; cases h
    · rw [hb] at h; cases h; cases hm
theorem frz_keep {b : Addr} {u : HO} (hb : H b = none ∨ ∃ o, H b = some o ∧ MutO o = true) : ∀ c o x, H c = some (.frz o x) → (upd H b u) c = some (.frz o x) := fun c o x h => by
  rw [upd_ne]
  · exact h
  · rintro rfl
    rcases hb with hb | ⟨o, hb, hm⟩
    · rw [hb] at h; cases h
    · rw [hb] at h; cases h; cases hm
theorem RSt.adr (r : RSt K G α S H) {n : Nat} {a : Addr} (h : α[n]? = some a) : ∃ o, S[n]? = some o ∧ OR G α H a o := by
  have hl : n < S.length := by rw [← r.len]; exact (List.getElem?_eq_some_iff.mp h).1
  obtain ⟨a', h1, h2⟩ := r.ob n _ (List.getElem?_eq_getElem hl)
  rw [h] at h1; cases h1
  exact ⟨_, List.getElem?_eq_getElem hl, h2⟩
theorem RSt.ne_none (r : RSt K G α S H) {n : Nat} {a p : Addr} (h : α[n]? = some a) (hp : H p = none) : a ≠ p := by
  obtain ⟨o, _, ho⟩ := r.adr h
  obtain ⟨u, hu⟩ := ho.is
  rintro rfl
  rw [hu] at hp; cases hp
theorem nd_at {l : List Addr} (hN : l.Nodup) {i j : Nat} {x : Addr} (a : l[i]? = some x) (b : l[j]? = some x) : i = j := by
  obtain ⟨h1, e1⟩ := List.getElem?_eq_some_iff.mp a
  obtain ⟨h2, e2⟩ := List.getElem?_eq_some_iff.mp b
  exact (List.getElem_inj hN).mp (e1.trans e2.symm)
theorem Ext.app {p : Addr} {u : HO} (hp : H p = none) : Ext α H (α ++ [p]) (upd H p u) := ⟨⟨[p], rfl⟩, tup_keep (.inl hp), frz_keep (.inl hp)⟩
theorem Ext.new {p : Addr} {u : HO} (hp : H p = none) : Ext α H α (upd H p u) := ⟨⟨[], by simp⟩, tup_keep (.inl hp), frz_keep (.inl hp)⟩
/-- a new tracked thing that no handle names -/
theorem RSt.aside (r : RSt K G α S H) {p : Addr} {u : HO} (hp : H p = none) : RSt K G α S (upd H p u) :=
  ⟨r.len, r.nd, r.scr.upd (.inl hp), fun n o h => by
    obtain ⟨a, h1, h2⟩ := r.ob n o h
    exact ⟨a, h1, h2.mono (Ext.new hp) (upd_ne (r.ne_none h1 hp))⟩⟩
/-- a new object with a handle -/
theorem RSt.app (r : RSt K G α S H) {p : Addr} {u : HO} {o : O} (hp : H p = none) (ho : OR G (α ++ [p]) (upd H p u) p o) : RSt K G (α ++ [p]) (S ++ [o]) (upd H p u) := by
  refine ⟨by simp [r.len], ?_, r.scr.upd (.inl hp), fun n o' h => ?_⟩
  · rw [List.nodup_append]
    refine ⟨r.nd, by simp, fun a ha b hb => ?_⟩
    obtain ⟨n, hn⟩ := List.mem_iff_getElem?.mp ha
    have e : b = p := by simpa using hb
    rw [e]
    exact r.ne_none hn hp
  · by_cases hn : n < S.length
    · rw [List.getElem?_append_left hn] at h
      obtain ⟨a, h1, h2⟩ := r.ob n o' h
      exact ⟨a, (Ext.app (u := u) hp).get h1, h2.mono (Ext.app hp) (upd_ne (r.ne_none h1 hp))⟩
    · rw [List.getElem?_append_right (Nat.le_of_not_lt hn)] at h
      have e : n - S.length = 0 := by
        cases q : n - S.length with
        | zero => rfl
        | succ m => rw [q] at h; simp at h
      rw [e] at h
      simp at h
      subst h
      have en : n = α.length := by rw [r.len]; omega
      exact ⟨p, by rw [en]; simp, ho⟩
theorem RSt.extMut {a : Addr} {u : HO} (hm : ∃ x, H a = some x ∧ MutO x = true) : Ext α H α (upd H a u) := ⟨⟨[], by simp⟩, tup_keep (.inr hm), frz_keep (.inr hm)⟩
/-- an object is changed -/
theorem RSt.set (r : RSt K G α S H) {n : Nat} {a : Addr} {u : HO} {o : O} (ha : α[n]? = some a) (hm : ∃ x, H a = some x ∧ MutO x = true) (ho : OR G α (upd H a u) a o) : RSt K G α (S.set n o) (upd H a u) := by
  obtain ⟨o0, hS, ho0⟩ := r.adr ha
  refine ⟨by simp [r.len], r.nd, r.scr.upd (.inr hm), fun m o' h => ?_⟩
  by_cases e : n = m
  · subst e
    have hl : n < S.length := (List.getElem?_eq_some_iff.mp hS).1
    rw [List.getElem?_set_self hl] at h
    cases h
    exact ⟨a, ha, ho⟩
  · rw [List.getElem?_set_ne e] at h
    obtain ⟨b, h1, h2⟩ := r.ob m o' h
    refine ⟨b, h1, h2.mono (RSt.extMut hm) (upd_ne fun z => ?_)⟩
    subst z
    exact e (nd_at r.nd ha h1)
end
end DebtJ

set_option Elab.async false
set_option linter.all false
set_option maxRecDepth 100000
set_option maxHeartbeats 1000000
namespace DebtJ
open PySem PySem.Spec PyProof.Rows L2

/-! ### ends -/
/-- what must follow a result -/
def PR {β γ : Type} (K : PySem.W.Frag) (G : Pm) (W : WX) (α : List Addr) (H : Hp) (σ : L2.St) (rel : List Addr → Hp → β → γ → Prop) (Q : γ → Hp → Prop) : R β → Prop
  | .ok b S' => ∀ α' H' c, Ext α H α' H' → RSt K G α' S' H' → rel α' H' b c → Q c H'
  | .exc k S' => ∀ α' H', Ext α H α' H' → RSt K G α' S' H' → W (.ref (G.ca k)) none σ H'
  | .no => False
def PSt (K : PySem.W.Frag) (G : Pm) (W : WX) (ξ : Option (Nat × Addr)) (α : List Addr) (H : Hp) (E : Ends) : RS → Prop
  | .nx φ S => ∀ α' H' σ', Ext α H α' H' → RSt K G α' S H' → RF G α' H' ξ σ' φ → E.nx σ' H'
  | .rt d S => ∀ α' H' v, Ext α H α' H' → RSt K G α' S H' → VR G α' H' d v → E.rt v H'
  | .bk φ S => ∀ α' H' σ', Ext α H α' H' → RSt K G α' S H' → RF G α' H' ξ σ' φ → E.bk σ' H'
  | .ct φ S => ∀ α' H' σ', Ext α H α' H' → RSt K G α' S H' → RF G α' H' ξ σ' φ → E.ct σ' H'
  | .exc c φ S => ∀ α' H' σ', Ext α H α' H' → RSt K G α' S H' → RF G α' H' ξ σ' φ → W (.ref (G.ca c)) none σ' H'
  | .no => False
abbrev vrel (G : Pm) : List Addr → Hp → D → V → Prop := fun α H d v => VR G α H d v
abbrev vrels (G : Pm) : List Addr → Hp → List D → List V → Prop := fun α H d v => VRs G α H d v
abbrev brel : List Addr → Hp → Bool → Bool → Prop := fun _ _ a b => a = b

/-! ### canonical readings -/
def cE (K : PySem.W.Frag) (G : Pm) (W : WX) (ξ : Option (Nat × Addr)) (f : SE) : TE := fun σ H Q => ∃ α S φ, RSt K G α S H ∧ RF G α H ξ σ φ ∧ PR K G W α H σ (vrel G) Q (f φ S)
def cA (K : PySem.W.Frag) (G : Pm) (W : WX) (ξ : Option (Nat × Addr)) (f : SA) : TA := fun σ H Q => ∃ α S φ, RSt K G α S H ∧ RF G α H ξ σ φ ∧ PR K G W α H σ (vrels G) Q (f φ S)
def cT (K : PySem.W.Frag) (G : Pm) (W : WX) (ξ : Option (Nat × Addr)) (f : ST) : TT := fun σ H Q => ∃ α S φ, RSt K G α S H ∧ RF G α H ξ σ φ ∧ PR K G W α H σ brel Q (f φ S)
def cS (K : PySem.W.Frag) (G : Pm) (W : WX) (ξ : Option (Nat × Addr)) (f : SS) : TS := fun E σ H => ∃ α S φ, RSt K G α S H ∧ RF G α H ξ σ φ ∧ PSt K G W ξ α H E (f φ S)
abbrev JE (X : Cx) (G : Pm) (W : WX) (ξ : Option (Nat × Addr)) (e : Expr) (f : SE) : Prop := PE X e (cE X.K G W ξ f)
abbrev JA (X : Cx) (G : Pm) (W : WX) (ξ : Option (Nat × Addr)) (es : List Expr) (f : SA) : Prop := PA X es (cA X.K G W ξ f)
abbrev JT (X : Cx) (G : Pm) (W : WX) (ξ : Option (Nat × Addr)) (e : Expr) (f : ST) : Prop := PT X e (cT X.K G W ξ f)
abbrev JW (X : Cx) (G : Pm) (W : WX) (ξ : Option (Nat × Addr)) (e : Expr) (f : ST) : Prop := PW X e (cT X.K G W ξ f)
abbrev JS (X : Cx) (G : Pm) (W : WX) (ξ : Option (Nat × Addr)) (st : Stmt) (f : SS) : Prop := PS X st (cS X.K G W ξ f)
abbrev JSs (X : Cx) (G : Pm) (W : WX) (ξ : Option (Nat × Addr)) (sts : List Stmt) (f : SS) : Prop := PSs X sts (cS X.K G W ξ f)

theorem peI {X : Cx} {e : Expr} {t t' : TE} (h : PE X e t) (i : ∀ σ H Q, t' σ H Q → t σ H Q) : PE X e t' := ⟨fun pins s σ H Q I q => h.run pins s σ H Q I (i σ H Q q)⟩
theorem paI {X : Cx} {e : List Expr} {t t' : TA} (h : PA X e t) (i : ∀ σ H Q, t' σ H Q → t σ H Q) : PA X e t' := ⟨fun pos pins s σ H Q I q => h.run pos pins s σ H Q I (i σ H Q q)⟩
theorem ptI {X : Cx} {e : Expr} {t t' : TT} (h : PT X e t) (i : ∀ σ H Q, t' σ H Q → t σ H Q) : PT X e t' := ⟨fun pins s σ H Q I q => h.run pins s σ H Q I (i σ H Q q)⟩
theorem pwI {X : Cx} {e : Expr} {t t' : TT} (h : PW X e t) (i : ∀ σ H Q, t' σ H Q → t σ H Q) : PW X e t' := ⟨fun wh pins s σ H Q I q => h.run wh pins s σ H Q I (i σ H Q q)⟩
theorem psI {X : Cx} {e : Stmt} {t t' : TS} (h : PS X e t) (i : ∀ E σ H, t' E σ H → t E σ H) : PS X e t' := ⟨fun pins s σ H D I q => h.run pins s σ H D I (i D σ H q)⟩
theorem pssI {X : Cx} {e : List Stmt} {t t' : TS} (h : PSs X e t) (i : ∀ E σ H, t' E σ H → t E σ H) : PSs X e t' := ⟨fun pins s σ H D I q => h.run pins s σ H D I (i D σ H q)⟩

section
variable {K : PySem.W.Frag} {G : Pm} {W : WX} {α α' : List Addr} {H H' : Hp} {σ : L2.St} {β γ β' γ' : Type} {ξ : Option (Nat × Addr)}
/-- from a later place -/
theorem PR.base {rel : List Addr → Hp → β → γ → Prop} {Q : γ → Hp → Prop} (e : Ext α H α' H') : ∀ {r : R β}, PR K G W α H σ rel Q r → PR K G W α' H' σ rel Q r
  | .ok _ _, h => fun α2 H2 c e2 R v => h α2 H2 c (e.trans e2) R v
  | .exc _ _, h => fun α2 H2 e2 R => h α2 H2 (e.trans e2) R
  | .no, h => h
theorem PSt.base {E : Ends} (e : Ext α H α' H') : ∀ {r : RS}, PSt K G W ξ α H E r → PSt K G W ξ α' H' E r
  | .nx _ _, h => fun α2 H2 c e2 R v => h α2 H2 c (e.trans e2) R v
  | .rt _ _, h => fun α2 H2 c e2 R v => h α2 H2 c (e.trans e2) R v
  | .bk _ _, h => fun α2 H2 c e2 R v => h α2 H2 c (e.trans e2) R v
  | .ct _ _, h => fun α2 H2 c e2 R v => h α2 H2 c (e.trans e2) R v
  | .exc _ _ _, h => fun α2 H2 c e2 R v => h α2 H2 c (e.trans e2) R v
  | .no, h => h
theorem PR.bind {rel1 : List Addr → Hp → β → γ → Prop} {rel2 : List Addr → Hp → β' → γ' → Prop} {Q1 : γ → Hp → Prop} {Q : γ' → Hp → Prop} {k : β → Store → R β'} :
    ∀ {r : R β}, PR K G W α H σ rel2 Q (r.bind k) → (∀ b S1 α1 H1 c, Ext α H α1 H1 → RSt K G α1 S1 H1 → rel1 α1 H1 b c → PR K G W α1 H1 σ rel2 Q (k b S1) → Q1 c H1) → PR K G W α H σ rel1 Q1 r
  | .ok b S1, h, hk => fun α1 H1 c e R v => hk b S1 α1 H1 c e R v (PR.base e h)
  | .exc _ _, h, _ => h
  | .no, h, _ => h
/-- a pure end -/
theorem PR.ofO {rel : List Addr → Hp → β → γ → Prop} {Q : γ → Hp → Prop} {o : Option (β × Store)} (h : PR K G W α H σ rel Q (R.of o)) : ∃ b S, o = some (b, S) ∧ ∀ α' H' c, Ext α H α' H' → RSt K G α' S H' → rel α' H' b c → Q c H' := by
  cases o with
  | none => exact h.elim
  | some p => exact ⟨p.1, p.2, rfl, h⟩
end

/-! ### names, constants -/
def eVar (i : Nat) : SE := fun φ S => match φ[i]? with
  | some (some d) => .ok d S
  | _ => .no
def eC (d : D) : SE := fun _ S => .ok d S
section
variable {X : Cx} {G : Pm} {W : WX} {ξ : Option (Nat × Addr)} {e a b : Expr} {pos : Pos} {f g : SE}
theorem je_var (i : Nat) {x : Str} (hN : X.N[i]? = some x := by rfl) (hv : Vis X.env.scope x := by first | exact Or.inl rfl | exact Or.inr (Or.inl rfl) | exact Or.inr (Or.inr rfl)) (hd : (x == ("__debug__" : Str)) = false := by decide)
    (hcd : (x == ("__classdict__" : Str)) = false := by decide) : JE X G W ξ (.Name x pos) (eVar i) :=
  peI (pe_var hN hv hd hcd) fun σ H Q ⟨α, S, φ, R, F, h⟩ => by
    unfold eVar at h
    split at h
    · rename_i d e
      obtain ⟨v, h1, h2⟩ := F.at_ i d e
      exact ⟨v, h1, h α H v (Ext.refl _ _) R h2⟩
    · exact h.elim
theorem je_c {d : D} {v : V} (h : PE X e (tC v)) (r : ∀ α H, VR G α H d v) : JE X G W ξ e (eC d) :=
  peI h fun σ H Q ⟨α, S, φ, R, F, h⟩ => h α H v (Ext.refl _ _) R (r α H)
theorem je_int {i : Int} {j} : JE X G W ξ (.Constant (.int i) j pos) (eC (.int i)) := je_c pe_int fun _ _ => .int i
theorem je_bl {b : Bool} {j} : JE X G W ξ (.Constant (.bool b) j pos) (eC (.bl b)) := je_c pe_bl fun _ _ => .bl b
theorem je_non {j} : JE X G W ξ (.Constant .none j pos) (eC .non) := je_c pe_non fun _ _ => .non
theorem je_str {s : Str} {j} : JE X G W ξ (.Constant (.str s) j pos) (eC (.str s)) := je_c pe_str fun _ _ => .str s
/-- a global whose value is plain -/
theorem je_glob {x : Str} {d : D} {v : V} {u : Value} (hg : Gl X x) (hm : X.mg x = some u) (rv : RelV v u) (r : ∀ α H, VR G α H d v) (hd : (x == ("__debug__" : Str)) = false := by decide) : JE X G W ξ (.Name x pos) (eC d) := je_c (pe_glob hg hm rv hd) r

/-! ### operators -/
abbrev G2 := D → D → Store → Option (D × Store)
/-- what an operation's reading is in terms of data -/
def Op2 (K : PySem.W.Frag) (G : Pm) (r : R2) (g : G2) : Prop := ∀ α S H d1 d2 v1 v2 (Q : VK) b S', RSt K G α S H → VR G α H d1 v1 → VR G α H d2 v2 → g d1 d2 S = some (b, S') →
  (∀ α' H' c, Ext α H α' H' → RSt K G α' S' H' → VR G α' H' b c → Q c H') → r v1 v2 H Q
def eOp (g : G2) (a b : SE) : SE := fun φ S => (a φ S).bind fun x S1 => (b φ S1).bind fun y S2 => R.of (g x y S2)
theorem tOp_of {K : PySem.W.Frag} {r : R2} {gg : G2} (hr : Op2 K G r gg) {σ : L2.St} {H : Hp} {Q : VK} (h : cE K G W ξ (eOp gg f g) σ H Q) : tOp r (cE K G W ξ f) (cE K G W ξ g) σ H Q := by
  obtain ⟨α, S, φ, R, F, h⟩ := h
  refine ⟨α, S, φ, R, F, PR.bind h fun x S1 α1 H1 v1 e1 R1 r1 h1 => ?_⟩
  refine ⟨α1, S1, φ, R1, F.mono e1, PR.bind h1 fun y S2 α2 H2 v2 e2 R2 r2 h2 => ?_⟩
  obtain ⟨b, S', eo, hq⟩ := h2.ofO
  exact hr α2 S2 H2 x y v1 v2 Q b S' R2 (r1.mono e2) r2 eo hq
theorem je_op {op : Operator} {r : R2} {gg : G2} (ho : OpR X (binaryOp op) r) (hr : Op2 X.K G r gg) (ha : JE X G W ξ a f) (hb : JE X G W ξ b g) : JE X G W ξ (.BinOp a op b pos) (eOp gg f g) :=
  peI (pe_op ho ha hb) fun _ _ _ h => tOp_of hr h
theorem je_cmp {op : CmpOp} {r : R2} {gg : G2} (ho : OpR X (compareOp op) r) (hr : Op2 X.K G r gg) (ha : JE X G W ξ a f) (hb : JE X G W ξ b g) (hm : behindInMarks op b = false) : JE X G W ξ (.Compare a [op] [b] pos) (eOp gg f g) :=
  peI (pe_cmpR ho ha hb hm) fun _ _ _ h => tOp_of hr h
/-- a value that is a bool, as a test -/
def tOf (f : SE) : ST := fun φ S => (f φ S).bind fun d S1 => match d with
  | .bl b => .ok b S1
  | _ => .no
theorem tTest_of {K : PySem.W.Frag} {t : TE} (ht : ∀ σ H Q, cE K G W ξ f σ H Q → t σ H Q) {σ : L2.St} {H : Hp} {Q : Bool → Hp → Prop} (h : cT K G W ξ (tOf f) σ H Q) : tTest t σ H Q := by
  obtain ⟨α, S, φ, R, F, h⟩ := h
  refine ht _ _ _ ⟨α, S, φ, R, F, PR.bind h fun x S1 α1 H1 v1 e1 R1 r1 h1 => ?_⟩
  cases x with
  | bl k =>
    cases r1
    exact ⟨k, rfl, h1 α1 H1 k (Ext.refl _ _) R1 rfl⟩
  | _ => exact h1.elim
theorem jt_cmp {op : CmpOp} {r : R2} {gg : G2} (ho : OpR X (compareOp op) r) (hr : Op2 X.K G r gg) (ha : JE X G W ξ a f) (hb : JE X G W ξ b g) (hm : behindInMarks op b = false) : JT X G W ξ (.Compare a [op] [b] pos) (tOf (eOp gg f g)) :=
  ptI (pt_cmpR ho ha hb hm) fun _ _ _ h => tTest_of (fun _ _ _ h => tOp_of hr h) h
theorem jt_val (h : JE X G W ξ e f) (he : ∀ whole, isTrue e X.env whole = (do let v ← whole; standAt e.pos; holding [v] (truthy v)) := by intro _; rfl) : JT X G W ξ e (tOf f) :=
  ptI (pt_val h he) fun σ H Q h => tTest_of (fun _ _ _ h => h) h

/-! ### and, or, not -/
variable {ta tb : ST} {rest : List Expr}
def tAnd' (a b : ST) : ST := fun φ S => (a φ S).bind fun c S1 => if c then b φ S1 else .ok false S1
def tOr' (a b : ST) : ST := fun φ S => (a φ S).bind fun c S1 => if c then .ok true S1 else b φ S1
def tNot' (a : ST) : ST := fun φ S => (a φ S).bind fun c S1 => .ok (!c) S1
theorem jw_and1 (ha : JT X G W ξ a ta) : JW X G W ξ (.BoolOp .And [a] pos) ta := pw_and1 ha
theorem jw_or1 (ha : JT X G W ξ a ta) : JW X G W ξ (.BoolOp .Or [a] pos) ta := pw_or1 ha
theorem jw_and (ha : JT X G W ξ a ta) (hb : JW X G W ξ (.BoolOp .And (b :: rest) pos) tb) : JW X G W ξ (.BoolOp .And (a :: b :: rest) pos) (tAnd' ta tb) :=
  pwI (pw_and ha hb) fun σ H Q ⟨α, S, φ, R, F, h⟩ => ⟨α, S, φ, R, F, PR.bind h fun c S1 α1 H1 v1 e1 R1 r1 h1 => by
    obtain rfl : c = v1 := r1
    cases c with
    | true => exact (show cT X.K G W ξ tb σ H1 Q from ⟨α1, S1, φ, R1, F.mono e1, h1⟩)
    | false => exact (show Q false H1 from h1 α1 H1 false (Ext.refl _ _) R1 rfl)⟩
theorem jw_or (ha : JT X G W ξ a ta) (hb : JW X G W ξ (.BoolOp .Or (b :: rest) pos) tb) : JW X G W ξ (.BoolOp .Or (a :: b :: rest) pos) (tOr' ta tb) :=
  pwI (pw_or ha hb) fun σ H Q ⟨α, S, φ, R, F, h⟩ => ⟨α, S, φ, R, F, PR.bind h fun c S1 α1 H1 v1 e1 R1 r1 h1 => by
    obtain rfl : c = v1 := r1
    cases c with
    | false => exact (show cT X.K G W ξ tb σ H1 Q from ⟨α1, S1, φ, R1, F.mono e1, h1⟩)
    | true => exact (show Q true H1 from h1 α1 H1 true (Ext.refl _ _) R1 rfl)⟩
theorem jt_w (h : JW X G W ξ e ta) : JT X G W ξ e ta := h.pt
theorem jt_not (ha : JT X G W ξ a ta) : JT X G W ξ (.UnaryOp .Not a pos) (tNot' ta) :=
  ptI (pt_not ha) fun σ H Q ⟨α, S, φ, R, F, h⟩ => ⟨α, S, φ, R, F, PR.bind h fun c S1 α1 H1 v1 e1 R1 r1 h1 => by
    obtain rfl : c = v1 := r1
    exact h1 α1 H1 (!c) (Ext.refl _ _) R1 rfl⟩
/-- as values -/
def eAnd (a b : SE) : SE := fun φ S => (a φ S).bind fun d S1 => match d with
  | .bl true => b φ S1
  | .bl false => .ok (.bl false) S1
  | _ => .no
def eOr (a b : SE) : SE := fun φ S => (a φ S).bind fun d S1 => match d with
  | .bl false => b φ S1
  | .bl true => .ok (.bl true) S1
  | _ => .no
def eNot (a : SE) : SE := fun φ S => (a φ S).bind fun d S1 => match d with
  | .bl c => .ok (.bl (!c)) S1
  | _ => .no
theorem je_one {op} (h : JE X G W ξ a f) : JE X G W ξ (.BoolOp op [a] pos) f := pe_one h
theorem je_and (ha : JE X G W ξ a f) (hb : JE X G W ξ (.BoolOp .And (b :: rest) pos) g) : JE X G W ξ (.BoolOp .And (a :: b :: rest) pos) (eAnd f g) :=
  peI (pe_and ha hb) fun σ H Q ⟨α, S, φ, R, F, h⟩ => ⟨α, S, φ, R, F, PR.bind h fun d S1 α1 H1 v1 e1 R1 r1 h1 => by
    cases d with
    | bl c =>
      cases r1
      refine ⟨c, rfl, ?_⟩
      cases c with
      | true => exact (show cE X.K G W ξ g σ H1 Q from ⟨α1, S1, φ, R1, F.mono e1, h1⟩)
      | false => exact (show Q (.bl false) H1 from h1 α1 H1 _ (Ext.refl _ _) R1 (.bl false))
    | _ => exact h1.elim⟩
theorem je_or (ha : JE X G W ξ a f) (hb : JE X G W ξ (.BoolOp .Or (b :: rest) pos) g) : JE X G W ξ (.BoolOp .Or (a :: b :: rest) pos) (eOr f g) :=
  peI (pe_or ha hb) fun σ H Q ⟨α, S, φ, R, F, h⟩ => ⟨α, S, φ, R, F, PR.bind h fun d S1 α1 H1 v1 e1 R1 r1 h1 => by
    cases d with
    | bl c =>
      cases r1
      refine ⟨c, rfl, ?_⟩
      cases c with
      | false => exact (show cE X.K G W ξ g σ H1 Q from ⟨α1, S1, φ, R1, F.mono e1, h1⟩)
      | true => exact (show Q (.bl true) H1 from h1 α1 H1 _ (Ext.refl _ _) R1 (.bl true))
    | _ => exact h1.elim⟩
theorem je_not (ha : JE X G W ξ a f) : JE X G W ξ (.UnaryOp .Not a pos) (eNot f) :=
  peI (pe_not ha) fun σ H Q ⟨α, S, φ, R, F, h⟩ => ⟨α, S, φ, R, F, PR.bind h fun d S1 α1 H1 v1 e1 R1 r1 h1 => by
    cases d with
    | bl c =>
      cases r1
      exact ⟨c, rfl, h1 α1 H1 _ (Ext.refl _ _) R1 (.bl (!c))⟩
    | _ => exact h1.elim⟩
/-- - n -/
def eNeg (a : SE) : SE := fun φ S => (a φ S).bind fun d S1 => match d with
  | .int i => .ok (.int (-i)) S1
  | _ => .no
theorem je_neg (ha : JE X G W ξ a f) : JE X G W ξ (.UnaryOp .USub a pos) (eNeg f) :=
  peI (pe_un un_neg ha) fun σ H Q ⟨α, S, φ, R, F, h⟩ => ⟨α, S, φ, R, F, PR.bind h fun d S1 α1 H1 v1 e1 R1 r1 h1 => by
    cases d with
    | int i =>
      cases r1
      exact ⟨i, rfl, h1 α1 H1 _ (Ext.refl _ _) R1 (.int (-i))⟩
    | _ => exact h1.elim⟩

/-! ### arguments, displays -/
variable {fa : SA} {es : List Expr}
def aNil : SA := fun _ S => .ok [] S
def aCons (f : SE) (r : SA) : SA := fun φ S => (f φ S).bind fun d S1 => (r φ S1).bind fun ds S2 => .ok (d :: ds) S2
theorem ja_nil : JA X G W ξ [] aNil := paI pa_nil fun σ H Q ⟨α, S, φ, R, F, h⟩ => h α H [] (Ext.refl _ _) R .nil
theorem ja_cons (ha : JE X G W ξ e f) (hr : JA X G W ξ es fa) (hs : starEach (e :: es) X.env = (false, eval e X.env) :: starEach es X.env := by rfl) : JA X G W ξ (e :: es) (aCons f fa) :=
  paI (pa_cons ha hr hs) fun σ H Q ⟨α, S, φ, R, F, h⟩ => ⟨α, S, φ, R, F, PR.bind h fun d S1 α1 H1 v1 e1 R1 r1 h1 =>
    ⟨α1, S1, φ, R1, F.mono e1, PR.bind h1 fun ds S2 α2 H2 vs e2 R2 r2 h2 => h2 α2 H2 _ (Ext.refl _ _) R2 (.cons (r1.mono e2) r2)⟩⟩
def small (n : Nat) : Bool := decide (n ≤ 16777216)
theorem small_ok {n : Nat} (h : small n = true) : n ≤ sizeLine := by rw [sizeLine_eq]; exact of_decide_eq_true h
def eTup (r : SA) : SE := fun φ S => (r φ S).bind fun ds S1 => if small ds.length then .ok (.tup ds) S1 else .no
def eLst (r : SA) : SE := fun φ S => (r φ S).bind fun ds S1 => if small ds.length then .ok (.ref S1.length) (S1 ++ [.lst ds]) else .no
theorem je_tup {x1} (h : JA X G W ξ es fa) : JE X G W ξ (.Tuple es x1 pos) (eTup fa) :=
  peI (pe_tup h) fun σ H Q ⟨α, S, φ, R, F, h⟩ => ⟨α, S, φ, R, F, PR.bind h fun ds S1 α1 H1 vs e1 R1 r1 h1 => by
    split at h1
    · rename_i hs
      refine ⟨by rw [← r1.length]; exact small_ok hs, fun p hp => ?_⟩
      exact h1 α1 _ _ (Ext.new hp) (R1.aside hp) (.tup upd_same (r1.mono (Ext.new hp)))
    · exact h1.elim⟩
theorem RSt.newL {K : PySem.W.Frag} {α : List Addr} {S : Store} {H : Hp} {ds : List D} {vs : List V} {p : Addr} (R : RSt K G α S H) (hp : H p = none) (r : VRs G α H ds vs) :
    Ext α H (α ++ [p]) (upd H p (.lst vs)) ∧ RSt K G (α ++ [p]) (S ++ [.lst ds]) (upd H p (.lst vs)) ∧ VR G (α ++ [p]) (upd H p (.lst vs)) (.ref S.length) (.ref p) :=
  ⟨Ext.app hp, R.app hp ⟨vs, upd_same, r.mono (Ext.app hp)⟩, .ref (by rw [← R.len]; simp)⟩
theorem je_lst (h : JA X G W ξ es fa) : JE X G W ξ (.List es pos) (eLst fa) :=
  peI (pe_lst h) fun σ H Q ⟨α, S, φ, R, F, h⟩ => ⟨α, S, φ, R, F, PR.bind h fun ds S1 α1 H1 vs e1 R1 r1 h1 => by
    split at h1
    · rename_i hs
      refine ⟨by rw [← r1.length]; exact small_ok hs, fun p hp => ?_⟩
      obtain ⟨a, b, c⟩ := R1.newL hp r1
      exact h1 _ _ _ a b c
    · exact h1.elim⟩
end
end DebtJ

set_option Elab.async false
set_option linter.all false
set_option maxRecDepth 100000
set_option maxHeartbeats 1000000
namespace DebtJ
open PySem PySem.Spec PyProof.Rows L2

section
variable {K : PySem.W.Frag} {G : Pm} {W W' : WX} {α α' : List Addr} {H H' : Hp} {σ σ' : L2.St} {φ : Fr} {β γ : Type} {ξ : Option (Nat × Addr)}
theorem PR.sw {rel : List Addr → Hp → β → γ → Prop} {Q : γ → Hp → Prop} (h : ∀ c d H, W c d σ H → W' c d σ' H) : ∀ {r : R β}, PR K G W α H σ rel Q r → PR K G W' α H σ' rel Q r
  | .ok _ _, q => q
  | .exc _ _, q => fun α' H' e R => h _ _ _ (q α' H' e R)
  | .no, q => q
end

/-! ### what a def keeps -/
def spF (K : PySem.W.Frag) (G : Pm) (n : Nat) (F : SF) : Sp := fun vs H Q E => vs.length = n ∧ ∃ α S ds, RSt K G α S H ∧ VRs G α H ds vs ∧ PR K G (fun c d _ H' => E c d H') α H [] (vrel G) Q (F ds S)
structure FJ (P : Program) (w : World) (K : PySem.W.Frag) (mg : Str → Option Value) (base : Heap) (G : Pm) (k : Nat) (f : Addr) (fd : FuncData) (ps : List Str) (F : SF) : Prop where
  ok : FnOk P w K mg base (L2.CX P w) k f fd ps (spF K G ps.length F)
  ar : ∀ ds S, ds.length ≠ ps.length → F ds S = .no
  bd : Binds K fd ps []
  kp : PySem.W.keepIn K (.ref f) = true
theorem FJ.mono {P : Program} {w : World} {K : PySem.W.Frag} {mg : Str → Option Value} {base : Heap} {G : Pm} {k j : Nat} {f : Addr} {fd : FuncData} {ps : List Str} {F : SF} (h : FJ P w K mg base G k f fd ps F) (hj : k ≤ j) : FJ P w K mg base G j f fd ps F :=
  ⟨h.ok.mono hj, h.ar, h.bd, h.kp⟩
/-- the promise, from the arguments as they are -/
theorem FJ.use {P : Program} {w : World} {K : PySem.W.Frag} {mg : Str → Option Value} {base : Heap} {G : Pm} {k : Nat} {f : Addr} {fd : FuncData} {ps : List Str} {F : SF} (h : FJ P w K mg base G k f fd ps F) {W : WX} {α : List Addr} {S : Store} {H : Hp} {σ : L2.St} {ds : List D} {vs : List V} {Q : VK}
    (R : RSt K G α S H) (r : VRs G α H ds vs) (q : PR K G W α H σ (vrel G) Q (F ds S)) : spF K G ps.length F vs H Q (WE W σ) := by
  refine ⟨?_, α, S, ds, R, r, PR.sw (fun _ _ _ z => z) q⟩
  by_cases e : ds.length = ps.length
  · rw [← r.length]; exact e
  · rw [h.ar ds S e] at q
    exact q.elim

/-! ### calls whose exceptions are wished for at the slots -/
section
variable {X : Cx} {CX : CXT} {k : Nat} {f C : Addr} {fd : FuncData} {ps : List Str} {sp : Sp} {E : L2.St → XK} {x m : Str} {p pos apos : Pos} {e o : Expr} {es : List Expr} {ta : TE} {t : TA}
theorem pe_callS0 (F : FnOk X.prog X.w X.K X.mg X.base CX k f fd ps sp) (hr : Room k X.A) (hg : Gl X x) (hm : X.mg x = some (.ref f)) (hk : PySem.W.keepIn X.K (.ref f) = true) (hb : Binds X.K fd ps []) (hx : ∀ σ, PassesAt CX X σ (E σ))
    (hdb : (x == ("__debug__" : Str)) = false := by decide) : PE X (.Call (.Name x p) [] [] pos) (tCallS sp E tNil) := by
  refine ⟨fun pins s σ H Q I h => ?_⟩
  refine wpAny_Call_Name_kw (ld_glob I hg hm ?_ hdb)
  exact PySem.W.callWith_K0 I.kIn hk (run_fnS (us := []) F hr hb (hx σ) I .nil h)
def tMethP (C : Addr) (m : Str) (sp : Sp) (E : L2.St → XK) (ta : TE) (t : TA) : TE := fun σ H Q => ta σ H fun x H1 => ∃ a dx fs, x = .ref a ∧ H1 a = some (.ins C dx fs) ∧ fs.lookup m = none ∧ t σ H1 fun vs H2 => sp (x :: vs) H2 Q (E σ)
theorem pe_methP {pl : Sem Bool} (he : PE X o ta) (c : Cls X.K C) (hm : Meth X.K C m f) (F : FnOk X.prog X.w X.K X.mg X.base CX k f fd ps sp) (hr : Room k X.A) (hb : Binds X.K fd ps []) (hx : ∀ σ, PassesAt CX X σ (E σ)) (ha : PA X (e :: es) t)
    (hst : starEach (e :: es) X.env = (false, eval e X.env) :: starEach es X.env := by rfl) (hpl : (backTo pos (starEach es X.env)).any (·.1) = false := by rfl)
    (ht : eval (.Call (.Attribute o m apos) (e :: es) [] pos) X.env = (do
      let ov ← eval o X.env
      standAt apos.atName
      let (f, first) ← holding [ov] (getMethod ov m pl)
      callWith pos f first (backTo pos (starEach (e :: es) X.env)) (backToKw pos (keywordEach [] X.env))) := by rfl) :
    PE X (.Call (.Attribute o m apos) (e :: es) [] pos) (tMethP C m sp E ta t) := by
  refine ⟨fun pins s σ H Q I h => ?_⟩
  refine PySem.W.methodCall_KW (pl := pl) (thn (he.run pins s σ H _ I h) fun u s1 ⟨x, H1, I1, rx, a, dx, fs, ex, ea, l, q⟩ => ?_) ht
  subst ex
  obtain rfl : u = Value.ref a := rx
  refine getmeth_ok I1 ea c hm l ?_
  refine PySem.W.callWith_K (first := [.ref a]) (h₀ := X.base) I.ok.mod.kin hm.kp (thn (ha.run pos pins s1 σ H1 _ I1 q) fun us s2 ⟨vs, H2, I2, r, q2⟩ => ⟨I2.kIn, ?_⟩) hst hpl
  exact run_fnS (us := .ref a :: us) (vs := .ref a :: vs) F hr hb (hx σ) I2 (.cons rfl r) q2
theorem pe_methP0 {pl : Sem Bool} (he : PE X o ta) (c : Cls X.K C) (hm : Meth X.K C m f) (F : FnOk X.prog X.w X.K X.mg X.base CX k f fd ps sp) (hr : Room k X.A) (hb : Binds X.K fd ps []) (hx : ∀ σ, PassesAt CX X σ (E σ))
    (ht : eval (.Call (.Attribute o m apos) [] [] pos) X.env = (do
      let ov ← eval o X.env
      standAt apos.atName
      let (f, first) ← holding [ov] (getMethod ov m pl)
      callWith pos f first (backTo pos (starEach [] X.env)) (backToKw pos (keywordEach [] X.env))) := by rfl) :
    PE X (.Call (.Attribute o m apos) [] [] pos) (tMethP C m sp E ta tNil) := by
  refine ⟨fun pins s σ H Q I h => ?_⟩
  refine PySem.W.methodCall_KW (pl := pl) (thn (he.run pins s σ H _ I h) fun u s1 ⟨x, H1, I1, rx, a, dx, fs, ex, ea, l, q⟩ => ?_) ht
  subst ex
  obtain rfl : u = Value.ref a := rx
  refine getmeth_ok I1 ea c hm l ?_
  exact PySem.W.callWith_K0 (first := [.ref a]) I1.kIn hm.kp (run_fnS (us := [.ref a]) (vs := [.ref a]) F hr hb (hx σ) I1 (.cons rfl .nil) q)
theorem run_makeP {pins : List (Addr × Obj)} {σ : L2.St} {H : Hp} {s : Shared} {Q : VK} {us : List Value} {vs : List V} (M : Mk X.K C f) (F : FnOk X.prog X.w X.K X.mg X.base CX k f fd ps sp) (hr : Room (k + 1) X.A) (hb : Binds X.K fd ps [])
    (hx : PassesAt CX X σ (E σ)) (I : Inv X pins σ H s) (r : Vals vs us)
    (h : ∀ x dx, H x = none → H dx = none → dx ≠ x → sp (.ref x :: vs) (upd (upd H dx (.own x)) x (.ins C dx [])) (fun v H2 => v = .non ∧ Q (.ref x) H2) (E σ)) :
    wpAny (model X.prog X.w) X.A (call (.ref C) us) (EP X pins σ Q) X.xe s := by
  have hq := h (s.heap.objs.size + 1) s.heap.objs.size (I.hok.fresh (Nat.le_succ _)) (I.hok.fresh (Nat.le_refl _)) (Nat.ne_of_lt (Nat.lt_succ_self _))
  have I2 := Inv.made (C := C) I
  have r2 : Vals (V.ref (s.heap.objs.size + 1) :: vs) (Value.ref (s.heap.objs.size + 1) :: us) := .cons rfl r
  have hl : (Value.ref (s.heap.objs.size + 1) :: us ++ []).length = ps.length := by
    rw [List.append_nil, ← r2.length]
    exact F.len _ _ _ _ hq
  have b := hb _ (Value.ref (s.heap.objs.size + 1) :: us) I2.kIn hl
  rw [List.append_nil] at b
  refine wpAny_call (make_map (f := f) I.kIn M.makes M.init (beq_iff_eq.mp M.fn) (codeAny_mono (F.run _ X.stack _ _ ⟨Value.ref (s.heap.objs.size + 1) :: us, []⟩ (Value.ref (s.heap.objs.size + 1) :: us) _ _ (E σ) (hr.make C us [])
    (I2.env0.make C us []) b r2 hq) fun r s' hq' => ?_))
  cases r with
  | error e => exact hx pins _ _ e s' I2 hq'
  | ok fl =>
    cases fl with
    | ret u =>
      obtain ⟨v, H', I3, rv, ev, q3⟩ := I2.after hq'
      subst ev
      exact ⟨rv, ⟨V.ref (s.heap.objs.size + 1), H', I3, rfl, q3⟩⟩
    | next => exact False.elim hq'
    | brk => exact False.elim hq'
    | cont => exact False.elim hq'
def tMakeP (C : Addr) (sp : Sp) (E : L2.St → XK) (t : TA) : TE := fun σ H Q => t σ H fun vs H1 => ∀ x dx, H1 x = none → H1 dx = none → dx ≠ x →
  sp (.ref x :: vs) (upd (upd H1 dx (.own x)) x (.ins C dx [])) (fun v H2 => v = .non ∧ Q (.ref x) H2) (E σ)
theorem pe_makeP (M : Mk X.K C f) (F : FnOk X.prog X.w X.K X.mg X.base CX k f fd ps sp) (hr : Room (k + 1) X.A) (hg : Gl X x) (hm : X.mg x = some (.ref C)) (hb : Binds X.K fd ps []) (hx : ∀ σ, PassesAt CX X σ (E σ))
    (ha : PA X (e :: es) t) (hdb : (x == ("__debug__" : Str)) = false := by decide) (he : starEach (e :: es) X.env = (false, eval e X.env) :: starEach es X.env := by rfl) (hpl : (backTo pos (starEach es X.env)).any (·.1) = false := by rfl) :
    PE X (.Call (.Name x p) (e :: es) [] pos) (tMakeP C sp E t) := by
  refine ⟨fun pins s σ H Q I h => ?_⟩
  refine wpAny_Call_Name_kw (ld_glob I hg hm ?_ hdb)
  refine PySem.W.callWith_K (h₀ := X.base) I.ok.mod.kin M.kp (thn (ha.run pos pins s σ H _ I h) fun us s1 ⟨vs, H1, I1, r, q⟩ => ⟨I1.kIn, ?_⟩) he hpl
  exact run_makeP M F hr hb (hx σ) I1 r q
theorem pe_makeP0 (M : Mk X.K C f) (F : FnOk X.prog X.w X.K X.mg X.base CX k f fd ps sp) (hr : Room (k + 1) X.A) (hg : Gl X x) (hm : X.mg x = some (.ref C)) (hb : Binds X.K fd ps []) (hx : ∀ σ, PassesAt CX X σ (E σ))
    (hdb : (x == ("__debug__" : Str)) = false := by decide) : PE X (.Call (.Name x p) [] [] pos) (tMakeP C sp E tNil) := by
  refine ⟨fun pins s σ H Q I h => ?_⟩
  refine wpAny_Call_Name_kw (ld_glob I hg hm ?_ hdb)
  exact PySem.W.callWith_K0 I.kIn M.kp (run_makeP (us := []) M F hr hb (hx σ) I .nil h)
end
end DebtJ

set_option Elab.async false
set_option linter.all false
set_option maxRecDepth 100000
set_option maxHeartbeats 1000000
namespace DebtJ
open PySem PySem.Spec PyProof.Rows L2

/-! ### calls, methods, instances -/
def eCall (F : SF) (r : SA) : SE := fun φ S => (r φ S).bind fun ds S1 => F ds S1
def isIns (S : Store) (n c : Nat) (m : Str) : Bool := match S[n]? with
  | some (.ins c' fs) => c' == c && (fs.lookup m).isNone
  | _ => false
def eMeth (c : Nat) (m : Str) (F : SF) (o : SE) (r : SA) : SE := fun φ S => (o φ S).bind fun x S1 => match x with
  | .ref n => if isIns S1 n c m then (r φ S1).bind fun ds S2 => F (.ref n :: ds) S2 else .no
  | _ => .no
def eMake (c : Nat) (F : SF) (r : SA) : SE := fun φ S => (r φ S).bind fun ds S1 => (F (.ref S1.length :: ds) (S1 ++ [.ins c []])).bind fun v S2 => match v with
  | .non => .ok (.ref S1.length) S2
  | _ => .no
def fget (S : Store) (n c : Nat) (f : Str) : Option D := match S[n]? with
  | some (.ins c' fs) => if c' == c then fs.lookup f else none
  | _ => none
def eFld (c : Nat) (f : Str) (o : SE) : SE := fun φ S => (o φ S).bind fun x S1 => match x with
  | .ref n => match fget S1 n c f with
    | some d => .ok d S1
    | none => .no
  | _ => .no
section
variable {X : Cx} {G : Pm} {W : WX} {ξ : Option (Nat × Addr)} {k c : Nat} {f C : Addr} {fd : FuncData} {ps : List Str} {F : SF} {x m : Str} {p pos apos : Pos} {e o : Expr} {es : List Expr} {fo fe : SE} {r : SA}
theorem je_call (J : FJ X.prog X.w X.K X.mg X.base G k f fd ps F) (hr : Room k X.A) (hg : Gl X x) (hm : X.mg x = some (.ref f)) (tk : Takes X W) (ha : JA X G W ξ (e :: es) r)
    (hdb : (x == ("__debug__" : Str)) = false := by decide) (he : starEach (e :: es) X.env = (false, eval e X.env) :: starEach es X.env := by rfl) (hpl : (backTo pos (starEach es X.env)).any (·.1) = false := by rfl) :
    JE X G W ξ (.Call (.Name x p) (e :: es) [] pos) (eCall F r) :=
  peI (pe_callS J.ok hr hg hm J.kp J.bd (fun σ => passAt tk σ) ha hdb he hpl) fun σ H Q ⟨α, S, φ, R, Fr, h⟩ => ⟨α, S, φ, R, Fr, PR.bind h fun ds S1 α1 H1 vs e1 R1 r1 h1 => J.use R1 r1 h1⟩
theorem je_call0 (J : FJ X.prog X.w X.K X.mg X.base G k f fd ps F) (hr : Room k X.A) (hg : Gl X x) (hm : X.mg x = some (.ref f)) (tk : Takes X W)
    (hdb : (x == ("__debug__" : Str)) = false := by decide) : JE X G W ξ (.Call (.Name x p) [] [] pos) (eCall F aNil) :=
  peI (pe_callS0 J.ok hr hg hm J.kp J.bd (fun σ => passAt tk σ) hdb) fun σ H Q ⟨α, S, φ, R, Fr, h⟩ => J.use R .nil h
theorem isIns_at {K : PySem.W.Frag} {α : List Addr} {S : Store} {H : Hp} {n : Nat} {a : Addr} (R : RSt K G α S H) (ha : α[n]? = some a) (h : isIns S n c m = true) : ∃ dx fs, H a = some (.ins (G.ca c) dx fs) ∧ fs.lookup m = none := by
  unfold isIns at h
  split at h
  · rename_i c' fs e
    obtain ⟨a', h1, dx, vs, h2, h3⟩ := R.ob n _ e
    rw [ha] at h1; cases h1
    simp only [Bool.and_eq_true, beq_iff_eq] at h
    obtain ⟨rfl, h4⟩ := h
    exact ⟨dx, vs, h2, paired_lookup_none h3 (Option.isNone_iff_eq_none.mp h4)⟩
  · cases h
theorem je_meth {pl : Sem Bool} (he : JE X G W ξ o fo) (cl : Cls X.K (G.ca c)) (hm : Meth X.K (G.ca c) m f) (J : FJ X.prog X.w X.K X.mg X.base G k f fd ps F) (hr : Room k X.A) (tk : Takes X W) (ha : JA X G W ξ (e :: es) r)
    (hst : starEach (e :: es) X.env = (false, eval e X.env) :: starEach es X.env := by rfl) (hpl : (backTo pos (starEach es X.env)).any (·.1) = false := by rfl)
    (ht : eval (.Call (.Attribute o m apos) (e :: es) [] pos) X.env = (do
      let ov ← eval o X.env
      standAt apos.atName
      let (f, first) ← holding [ov] (getMethod ov m pl)
      callWith pos f first (backTo pos (starEach (e :: es) X.env)) (backToKw pos (keywordEach [] X.env))) := by rfl) :
    JE X G W ξ (.Call (.Attribute o m apos) (e :: es) [] pos) (eMeth c m F fo r) :=
  peI (pe_methP (pl := pl) he cl hm J.ok hr J.bd (fun σ => passAt tk σ) ha hst hpl ht) fun σ H Q ⟨α, S, φ, R, Fr, h⟩ => ⟨α, S, φ, R, Fr, PR.bind h fun d S1 α1 H1 v e1 R1 r1 h1 => by
    cases d with
    | ref n =>
      obtain ⟨a, ha⟩ : ∃ a, v = .ref a ∧ α1[n]? = some a := by cases r1 with | ref q => exact ⟨_, rfl, q⟩
      obtain ⟨rfl, ha⟩ := ha
      simp only at h1
      split at h1
      · rename_i hi
        obtain ⟨dx, fs, e2, e3⟩ := isIns_at R1 ha hi
        refine ⟨a, dx, fs, rfl, e2, e3, α1, S1, φ, R1, Fr.mono e1, PR.bind h1 fun ds S2 α2 H2 vs e4 R2 r2 h2 => ?_⟩
        exact J.use R2 (.cons (.ref (e4.get ha)) r2) h2
      · exact h1.elim
    | _ => exact h1.elim⟩
theorem je_meth0 {pl : Sem Bool} (he : JE X G W ξ o fo) (cl : Cls X.K (G.ca c)) (hm : Meth X.K (G.ca c) m f) (J : FJ X.prog X.w X.K X.mg X.base G k f fd ps F) (hr : Room k X.A) (tk : Takes X W)
    (ht : eval (.Call (.Attribute o m apos) [] [] pos) X.env = (do
      let ov ← eval o X.env
      standAt apos.atName
      let (f, first) ← holding [ov] (getMethod ov m pl)
      callWith pos f first (backTo pos (starEach [] X.env)) (backToKw pos (keywordEach [] X.env))) := by rfl) :
    JE X G W ξ (.Call (.Attribute o m apos) [] [] pos) (eMeth c m F fo aNil) :=
  peI (pe_methP0 (pl := pl) he cl hm J.ok hr J.bd (fun σ => passAt tk σ) ht) fun σ H Q ⟨α, S, φ, R, Fr, h⟩ => ⟨α, S, φ, R, Fr, PR.bind h fun d S1 α1 H1 v e1 R1 r1 h1 => by
    cases d with
    | ref n =>
      obtain ⟨a, ha⟩ : ∃ a, v = .ref a ∧ α1[n]? = some a := by cases r1 with | ref q => exact ⟨_, rfl, q⟩
      obtain ⟨rfl, ha⟩ := ha
      simp only at h1
      split at h1
      · rename_i hi
        obtain ⟨dx, fs, e2, e3⟩ := isIns_at R1 ha hi
        exact ⟨a, dx, fs, rfl, e2, e3, J.use R1 (.cons (.ref ha) .nil) h1⟩
      · exact h1.elim
    | _ => exact h1.elim⟩
theorem make_of {K : PySem.W.Frag} {α : List Addr} {S : Store} {H : Hp} {σ : L2.St} {ds : List D} {vs : List V} {Q : VK} {P : Program} {w : World} {mg : Str → Option Value} {base : Heap} (J : FJ P w K mg base G k f fd ps F) (R : RSt K G α S H) (r : VRs G α H ds vs)
    (h : PR K G W α H σ (vrel G) Q ((F (.ref S.length :: ds) (S ++ [.ins c []])).bind fun v S2 => match v with
      | .non => .ok (.ref S.length) S2
      | _ => .no)) (x dx : Addr) (hx : H x = none) (hdx : H dx = none) (hne : dx ≠ x) : spF K G ps.length F (.ref x :: vs) (upd (upd H dx (.own x)) x (.ins (G.ca c) dx [])) (fun v H2 => v = .non ∧ Q (.ref x) H2) (WE W σ) := by
  have hx' : (upd H dx (.own x)) x = none := by rw [upd_ne (Ne.symm hne)]; exact hx
  have R1 : RSt K G α S (upd H dx (.own x)) := R.aside hdx
  have R2 : RSt K G (α ++ [x]) (S ++ [.ins c []]) (upd (upd H dx (.own x)) x (.ins (G.ca c) dx [])) := R1.app hx' ⟨dx, [], upd_same, .nil⟩
  have e2 : Ext α H (α ++ [x]) (upd (upd H dx (.own x)) x (.ins (G.ca c) dx [])) := (Ext.new hdx).trans (Ext.app hx')
  have hα : (α ++ [x])[S.length]? = some x := by rw [← R.len]; simp
  refine J.use R2 (.cons (.ref hα) (r.mono e2)) (PR.bind (PR.base e2 h) fun v S3 α3 H3 c3 e3 R3 r3 h3 => ?_)
  cases v with
  | non =>
    cases r3
    exact ⟨rfl, h3 α3 H3 _ (Ext.refl _ _) R3 (.ref (e3.get hα))⟩
  | _ => exact h3.elim
theorem je_make (M : Mk X.K (G.ca c) f) (J : FJ X.prog X.w X.K X.mg X.base G k f fd ps F) (hr : Room (k + 1) X.A) (hg : Gl X x) (hm : X.mg x = some (.ref (G.ca c))) (tk : Takes X W) (ha : JA X G W ξ (e :: es) r)
    (hdb : (x == ("__debug__" : Str)) = false := by decide) (he : starEach (e :: es) X.env = (false, eval e X.env) :: starEach es X.env := by rfl) (hpl : (backTo pos (starEach es X.env)).any (·.1) = false := by rfl) :
    JE X G W ξ (.Call (.Name x p) (e :: es) [] pos) (eMake c F r) :=
  peI (pe_makeP M J.ok hr hg hm J.bd (fun σ => passAt tk σ) ha hdb he hpl) fun σ H Q ⟨α, S, φ, R, Fr, h⟩ => ⟨α, S, φ, R, Fr, PR.bind h fun ds S1 α1 H1 vs e1 R1 r1 h1 => fun x dx hx hdx hne => make_of J R1 r1 h1 x dx hx hdx hne⟩
theorem je_make0 (M : Mk X.K (G.ca c) f) (J : FJ X.prog X.w X.K X.mg X.base G k f fd ps F) (hr : Room (k + 1) X.A) (hg : Gl X x) (hm : X.mg x = some (.ref (G.ca c))) (tk : Takes X W)
    (hdb : (x == ("__debug__" : Str)) = false := by decide) : JE X G W ξ (.Call (.Name x p) [] [] pos) (eMake c F aNil) :=
  peI (pe_makeP0 M J.ok hr hg hm J.bd (fun σ => passAt tk σ) hdb) fun σ H Q ⟨α, S, φ, R, Fr, h⟩ => fun x dx hx hdx hne => make_of J R .nil h x dx hx hdx hne

/-! ### fields -/
theorem fget_at {K : PySem.W.Frag} {α : List Addr} {S : Store} {H : Hp} {n : Nat} {a : Addr} {d : D} (R : RSt K G α S H) (ha : α[n]? = some a) (h : fget S n c m = some d) : ∃ dx fs v, H a = some (.ins (G.ca c) dx fs) ∧ fs.lookup m = some v ∧ VR G α H d v := by
  unfold fget at h
  split at h
  · rename_i c' fs e
    obtain ⟨a', h1, dx, vs, h2, h3⟩ := R.ob n _ e
    rw [ha] at h1; cases h1
    split at h
    · rename_i hc
      obtain rfl : c' = c := by simpa using hc
      obtain ⟨v, h4, h5⟩ := paired_lookup h3 h
      exact ⟨dx, vs, v, h2, h4, h5⟩
    · cases h
  · cases h
theorem je_fld (he : JE X G W ξ e fe) (cl : Cls X.K (G.ca c)) (na : NoAttr X.K (G.ca c) m) (hb : attributeBase e m X.env (eval e X.env) = eval e X.env := by rfl) : JE X G W ξ (.Attribute e m pos) (eFld c m fe) :=
  peI (pe_fld he hb) fun σ H Q ⟨α, S, φ, R, Fr, h⟩ => ⟨α, S, φ, R, Fr, PR.bind h fun d S1 α1 H1 v e1 R1 r1 h1 => by
    cases d with
    | ref n =>
      obtain ⟨a, ha⟩ : ∃ a, v = .ref a ∧ α1[n]? = some a := by cases r1 with | ref q => exact ⟨_, rfl, q⟩
      obtain ⟨rfl, ha⟩ := ha
      simp only at h1
      split at h1
      · rename_i d e2
        obtain ⟨dx, fs, v, h2, h3, h4⟩ := fget_at R1 ha e2
        exact ⟨a, _, dx, fs, v, rfl, h2, cl, na, h3, h1 α1 H1 v (Ext.refl _ _) R1 h4⟩
      · exact h1.elim
    | _ => exact h1.elim⟩

end
/-! ### ints -/
section
variable {K : PySem.W.Frag} {G : Pm} {X : Cx}
/-- an int operation under a condition that is decided -/
def gI (C : Int → Int → Bool) (g : Int → Int → D) : G2 := fun a b S => match a, b with
  | .int i, .int j => if C i j then some (g i j, S) else none
  | _, _ => none
def gI0 (g : Int → Int → D) : G2 := fun a b S => match a, b with
  | .int i, .int j => some (g i j, S)
  | _, _ => none
theorem op2_I {C : Int → Int → Prop} {Cb : Int → Int → Bool} {g : Int → Int → V} {g' : Int → Int → D} (hC : ∀ i j, Cb i j = true → C i j) (hg : ∀ i j α H, VR G α H (g' i j) (g i j)) : Op2 K G (rI C g) (gI Cb g') := by
  intro α S H d1 d2 v1 v2 Q b S' R r1 r2 h q
  cases d1 <;> cases d2 <;> simp only [gI] at h <;> try (cases h; done)
  cases r1; cases r2
  split at h
  · rename_i hc
    cases h
    exact ⟨_, _, rfl, rfl, hC _ _ hc, q α H _ (Ext.refl _ _) R (hg _ _ _ _)⟩
  · cases h
theorem op2_I0 {g : Int → Int → V} {g' : Int → Int → D} (hg : ∀ i j α H, VR G α H (g' i j) (g i j)) : Op2 K G (rI0 g) (gI0 g') := by
  intro α S H d1 d2 v1 v2 Q b S' R r1 r2 h q
  cases d1 <;> cases d2 <;> simp only [gI0] at h <;> try (cases h; done)
  cases r1; cases r2
  cases h
  exact ⟨_, _, rfl, rfl, q α H _ (Ext.refl _ _) R (hg _ _ _ _)⟩
theorem Op2.or {r r' : R2} {g g' : G2} (h : Op2 K G r g) (h' : Op2 K G r' g') : Op2 K G (fun x y H Q => r x y H Q ∨ r' x y H Q) (fun a b S => (g a b S).or (g' a b S)) := by
  intro α S H d1 d2 v1 v2 Q b S' R r1 r2 e q
  cases e1 : g d1 d2 S with
  | some p =>
    simp only [e1, Option.some_or] at e
    cases e
    exact .inl (h α S H d1 d2 v1 v2 Q _ _ R r1 r2 e1 q)
  | none =>
    simp only [e1, Option.none_or] at e
    exact .inr (h' α S H d1 d2 v1 v2 Q _ _ R r1 r2 e q)
def gSub : G2 := gI0 fun i j => .int (i - j)
def gLt : G2 := gI0 fun i j => .bl (decide (i < j))
def gLe : G2 := gI0 fun i j => .bl (decide (i ≤ j))
def gGt : G2 := gI0 fun i j => .bl (decide (j < i))
def gGe : G2 := gI0 fun i j => .bl (decide (j ≤ i))
def gMod : G2 := gI (fun _ j => decide (0 < j)) fun i j => .int (i % j)
def gFdiv : G2 := gI (fun _ j => decide (0 < j ∧ j < 1073741824)) fun i j => .int (i / j)
def gPow : G2 := gI (fun i j => decide (0 ≤ j ∧ j ≤ 1000000 ∧ i.natAbs < 18446744073709551616)) fun i j => .int (i ^ j.toNat)
def gMulI : G2 := gI (fun i j => decide ((-18446744073709551616 < i ∧ i < 18446744073709551616) ∨ (-18446744073709551616 < j ∧ j < 18446744073709551616))) fun i j => .int (i * j)
theorem o_sub : Op2 K G (rI0 fun i j => .int (i - j)) gSub := op2_I0 fun _ _ _ _ => .int _
theorem o_lt : Op2 K G (rI0 fun i j => .bl (decide (i < j))) gLt := op2_I0 fun _ _ _ _ => .bl _
theorem o_le : Op2 K G (rI0 fun i j => .bl (decide (i ≤ j))) gLe := op2_I0 fun _ _ _ _ => .bl _
theorem o_gt : Op2 K G (rI0 fun i j => .bl (decide (j < i))) gGt := op2_I0 fun _ _ _ _ => .bl _
theorem o_ge : Op2 K G (rI0 fun i j => .bl (decide (j ≤ i))) gGe := op2_I0 fun _ _ _ _ => .bl _
theorem o_mod : Op2 K G (rI (fun _ j => 0 < j) fun i j => .int (i % j)) gMod := op2_I (fun _ _ h => of_decide_eq_true h) fun _ _ _ _ => .int _
theorem o_fdiv : Op2 K G (rI CDiv fun i j => .int (i / j)) gFdiv := op2_I (fun i j h => by
  have h := of_decide_eq_true h
  unfold CDiv
  omega) fun _ _ _ _ => .int _
theorem o_pow : Op2 K G (rI CPow fun i j => .int (i ^ j.toNat)) gPow := op2_I (fun i j h => by
  have h := of_decide_eq_true h
  unfold CPow
  omega) fun _ _ _ _ => .int _
theorem o_mulI : Op2 K G (rI CMul fun i j => .int (i * j)) gMulI := op2_I (fun i j h => by
  have h := of_decide_eq_true h
  unfold CMul
  omega) fun _ _ _ _ => .int _

/-! ### + of ints, texts, lists; * of ints, of a list and an int -/
def lget (S : Store) (n : Nat) : Option (List D) := match S[n]? with
  | some (.lst xs) => some xs
  | _ => none
theorem lget_at {α : List Addr} {S : Store} {H : Hp} {n : Nat} {a : Addr} {xs : List D} (R : RSt K G α S H) (ha : α[n]? = some a) (h : lget S n = some xs) : ∃ vs, H a = some (.lst vs) ∧ VRs G α H xs vs := by
  unfold lget at h
  split at h
  · rename_i ys e
    cases h
    obtain ⟨a', h1, vs, h2, h3⟩ := R.ob n _ e
    rw [ha] at h1; cases h1
    exact ⟨vs, h2, h3⟩
  · cases h
theorem VR.refI {α : List Addr} {H : Hp} {n : Nat} {v : V} (r : VR G α H (.ref n) v) : ∃ a, v = .ref a ∧ α[n]? = some a := by cases r with | ref q => exact ⟨_, rfl, q⟩
theorem VR.tupI {α : List Addr} {H : Hp} {xs : List D} {v : V} (r : VR G α H (.tup xs) v) : ∃ a vs, v = .ref a ∧ H a = some (.tup vs) ∧ VRs G α H xs vs := by cases r with | tup q s => exact ⟨_, _, rfl, q, s⟩
theorem VR.intI {α : List Addr} {H : Hp} {i : Int} {v : V} (r : VR G α H (.int i) v) : v = .int i := by cases r; rfl
theorem VR.strI {α : List Addr} {H : Hp} {i : Str} {v : V} (r : VR G α H (.str i) v) : v = .str i := by cases r; rfl
theorem VR.blI {α : List Addr} {H : Hp} {i : Bool} {v : V} (r : VR G α H (.bl i) v) : v = .bl i := by cases r; rfl
theorem VR.nonI {α : List Addr} {H : Hp} {v : V} (r : VR G α H .non v) : v = .non := by cases r; rfl
def gAddI : G2 := gI0 fun i j => .int (i + j)
def gAddS : G2 := fun a b S => match a, b with
  | .str x, .str y => if small (x.length + y.length) then some (.str (x ++ y), S) else none
  | _, _ => none
def gCat : G2 := fun a b S => match a, b with
  | .ref m, .ref n => match lget S m, lget S n with
    | some xs, some ys => if small (xs.length + ys.length) then some (.ref S.length, S ++ [.lst (xs ++ ys)]) else none
    | _, _ => none
  | _, _ => none
def gAdd : G2 := fun a b S => (gAddI a b S).or ((gAddS a b S).or (gCat a b S))
theorem o_addS : Op2 K G (fun x y H Q => ∃ i j, x = .str i ∧ y = .str j ∧ i.length + j.length ≤ sizeLine ∧ Q (.str (i ++ j)) H) gAddS := by
  intro α S H d1 d2 v1 v2 Q b S' R r1 r2 h q
  cases d1 <;> cases d2 <;> simp only [gAddS] at h <;> try (cases h; done)
  cases r1; cases r2
  split at h
  · rename_i hc
    cases h
    exact ⟨_, _, rfl, rfl, small_ok hc, q α H _ (Ext.refl _ _) R (.str _)⟩
  · cases h
theorem o_cat : Op2 K G rCat gCat := by
  intro α S H d1 d2 v1 v2 Q b S' R r1 r2 h q
  cases d1 <;> cases d2 <;> simp only [gCat] at h <;> try (cases h; done)
  obtain ⟨a1, rfl, h1⟩ := r1.refI
  obtain ⟨a2, rfl, h2⟩ := r2.refI
  split at h
  · rename_i xs ys e1 e2
    split at h
    · rename_i hc
      cases h
      obtain ⟨vs, q1, s1⟩ := lget_at R h1 e1
      obtain ⟨ws, q2, s2⟩ := lget_at R h2 e2
      refine ⟨a1, a2, vs, ws, rfl, rfl, q1, q2, by rw [← s1.length, ← s2.length]; exact small_ok hc, fun p hp => ?_⟩
      obtain ⟨z1, z2, z3⟩ := R.newL hp (s1.append s2)
      exact q _ _ _ z1 z2 z3
    · cases h
  · cases h
theorem op_addA : OpR X (binaryOp .Add) (fun x y H Q => (rI0 fun i j => .int (i + j)) x y H Q ∨ ((fun x y H Q => ∃ i j, x = .str i ∧ y = .str j ∧ i.length + j.length ≤ sizeLine ∧ Q (.str (i ++ j)) H) x y H Q ∨ rCat x y H Q)) := op_add.or (op_add_str.or op_cat)
theorem o_add : Op2 K G (fun x y H Q => (rI0 fun i j => .int (i + j)) x y H Q ∨ ((fun x y H Q => ∃ i j, x = .str i ∧ y = .str j ∧ i.length + j.length ≤ sizeLine ∧ Q (.str (i ++ j)) H) x y H Q ∨ rCat x y H Q)) gAdd :=
  Op2.or (op2_I0 fun _ _ _ _ => .int _) (Op2.or o_addS o_cat)
def gRep : G2 := fun a b S => match a, b with
  | .ref m, .int k => match lget S m with
    | some xs => if decide (-9223372036854775808 ≤ k ∧ k < 9223372036854775808) && small (xs.length * k.toNat) then some (.ref S.length, S ++ [.lst (List.replicate k.toNat xs).flatten]) else none
    | _ => none
  | _, _ => none
theorem o_rep : Op2 K G rRep gRep := by
  intro α S H d1 d2 v1 v2 Q b S' R r1 r2 h q
  cases d1 <;> cases d2 <;> simp only [gRep] at h <;> try (cases h; done)
  obtain ⟨a1, rfl, h1⟩ := r1.refI
  cases r2
  split at h
  · rename_i xs e1
    split at h
    · rename_i hc
      cases h
      obtain ⟨vs, q1, s1⟩ := lget_at R h1 e1
      simp only [Bool.and_eq_true, decide_eq_true_eq] at hc
      refine ⟨a1, _, vs, rfl, rfl, q1, by have := hc.1.1; omega, by have := hc.1.2; omega, by rw [← s1.length]; exact small_ok hc.2, fun p hp => ?_⟩
      obtain ⟨z1, z2, z3⟩ := R.newL hp (s1.rep _)
      exact q _ _ _ z1 z2 z3
    · cases h
  · cases h
def gMul : G2 := fun a b S => (gMulI a b S).or (gRep a b S)
theorem op_mulA : OpR X (binaryOp .Mult) (fun x y H Q => (rI CMul fun i j => .int (i * j)) x y H Q ∨ rRep x y H Q) := op_mul.or op_rep
theorem o_mul : Op2 K G (fun x y H Q => (rI CMul fun i j => .int (i * j)) x y H Q ∨ rRep x y H Q) gMul := Op2.or o_mulI o_rep
end
end DebtJ

set_option Elab.async false
set_option linter.all false
set_option maxRecDepth 100000
set_option maxHeartbeats 1000000
namespace DebtJ
open PySem PySem.Spec PyProof.Rows L2

/-! ### == and != -/
def toPy (S : Store) : Nat → D → Option PyData
  | 0, _ => none
  | k + 1, d => match d with
    | .non => some .none
    | .bl b => some (.bool b)
    | .int i => some (.int i)
    | .str s => some (.str s)
    | .tup xs => (xs.mapM (toPy S k)).map .tuple
    | .ref n => match lget S n with
      | some xs => (xs.mapM (toPy S k)).map .list
      | none => none
    | .scr => none
def scalD : D → D → Bool
  | .non, .non => true | .non, .int _ => true | .int _, .non => true | .non, .bl _ => true | .bl _, .non => true | .non, .str _ => true | .str _, .non => true
  | .int _, .int _ => true | .bl _, .bl _ => true | .str _, .str _ => true
  | .int _, .str _ => true | .str _, .int _ => true | .bl _, .str _ => true | .str _, .bl _ => true
  | _, _ => false
def eqS : D → D → Bool
  | .non, .non => true
  | .int i, .int j => decide (i = j)
  | .bl i, .bl j => decide (i = j)
  | .str i, .str j => decide (i = j)
  | _, _ => false
def eqDD (S : Store) (a b : D) : Option Bool := match toPy S 8 a, toPy S 8 b with
  | some p, some q => if SeqAt.shaped p && SeqAt.shaped q then some (PyData.eqv p q) else none
  | _, _ => none
def gEqS : G2 := fun a b S => if scalD a b then some (.bl (eqS a b), S) else none
def gNeS : G2 := fun a b S => if scalD a b then some (.bl (!eqS a b), S) else none
def gEqD : G2 := fun a b S => (eqDD S a b).map fun c => (.bl c, S)
def gNeD : G2 := fun a b S => (eqDD S a b).map fun c => (.bl (!c), S)
def gEq : G2 := fun a b S => (gEqS a b S).or (gEqD a b S)
def gNe : G2 := fun a b S => (gNeS a b S).or (gNeD a b S)
section
variable {K : PySem.W.Frag} {G : Pm} {X : Cx}
theorem mapM_dp {H : Hp} {f : D → Option PyData} (hf : ∀ d v p, f d = some p → ∀ {α : List Addr}, VR G α H d v → True) : True := trivial
theorem toPy_all {α : List Addr} {H : Hp} {f : D → Option PyData} (hf : ∀ d v p, f d = some p → VR G α H d v → Dp K H v p) : ∀ (xs : List D) (vs : List V) (ps : List PyData), xs.mapM f = some ps → VRs G α H xs vs → DpAll K H vs ps
  | [], _, ps, h, .nil => by
    simp at h
    subst h
    exact .nil
  | x :: xs, _, ps, h, .cons r t => by
    rw [List.mapM_cons] at h
    cases h1 : f x with
    | none => rw [h1] at h; simp at h
    | some p =>
      cases h2 : xs.mapM f with
      | none => rw [h1, h2] at h; simp at h
      | some q =>
        rw [h1, h2] at h
        simp at h
        subst h
        exact .cons (hf x _ p h1 r) (toPy_all hf xs _ q h2 t)
theorem toPy_dp {α : List Addr} {S : Store} {H : Hp} (R : RSt K G α S H) : ∀ (k : Nat) (d : D) (v : V) (p : PyData), toPy S k d = some p → VR G α H d v → Dp K H v p
  | 0, _, _, _, h, _ => by cases h
  | k + 1, d, v, p, h, r => by
    cases d with
    | non => cases r; cases h; exact .non
    | bl b => cases r; cases h; exact .bl b
    | int i => cases r; cases h; exact .int i
    | str s => cases r; cases h; exact .str s
    | scr => cases h
    | tup xs =>
      obtain ⟨a, vs, rfl, h1, h2⟩ := r.tupI
      simp only [toPy] at h
      cases e : xs.mapM (toPy S k) with
      | none => rw [e] at h; cases h
      | some ps =>
        rw [e] at h; cases h
        exact .tup (.inl (.inl h1)) (toPy_all (fun d v p => toPy_dp R k d v p) xs vs ps e h2)
    | ref n =>
      obtain ⟨a, rfl, ha⟩ := r.refI
      simp only [toPy] at h
      split at h
      · rename_i xs e0
        obtain ⟨vs, h1, h2⟩ := lget_at R ha e0
        cases e : xs.mapM (toPy S k) with
        | none => rw [e] at h; cases h
        | some ps =>
          rw [e] at h; cases h
          exact .lst (.inl (.inl h1)) (toPy_all (fun d v p => toPy_dp R k d v p) xs vs ps e h2)
      · cases h
theorem scal_of {α : List Addr} {H : Hp} {d1 d2 : D} {v1 v2 : V} (h : scalD d1 d2 = true) (r1 : VR G α H d1 v1) (r2 : VR G α H d2 v2) : scal v1 v2 = true ∧ decide (v1 = v2) = eqS d1 d2 := by
  cases d1 <;> cases d2 <;> first
    | (exact absurd (show false = true from h) Bool.false_ne_true)
    | (cases r1; cases r2; exact ⟨rfl, by simp [eqS]⟩)
theorem o_eqS : Op2 K G rEq gEqS := by
  intro α S H d1 d2 v1 v2 Q b S' R r1 r2 h q
  unfold gEqS at h
  split at h
  · rename_i hs
    cases h
    obtain ⟨h1, h2⟩ := scal_of hs r1 r2
    exact ⟨h1, q α H _ (Ext.refl _ _) R (by rw [h2]; exact .bl _)⟩
  · cases h
theorem o_neS : Op2 K G rNe gNeS := by
  intro α S H d1 d2 v1 v2 Q b S' R r1 r2 h q
  unfold gNeS at h
  split at h
  · rename_i hs
    cases h
    obtain ⟨h1, h2⟩ := scal_of hs r1 r2
    exact ⟨h1, q α H _ (Ext.refl _ _) R (by rw [h2]; exact .bl _)⟩
  · cases h
theorem eqDD_of {α : List Addr} {S : Store} {H : Hp} {d1 d2 : D} {v1 v2 : V} {c : Bool} (R : RSt K G α S H) (h : eqDD S d1 d2 = some c) (r1 : VR G α H d1 v1) (r2 : VR G α H d2 v2) : ∃ d e, Dp K H v1 d ∧ Dp K H v2 e ∧ SeqAt.shaped d = true ∧ SeqAt.shaped e = true ∧ PyData.eqv d e = c := by
  unfold eqDD at h
  split at h
  · rename_i p q e1 e2
    split at h
    · rename_i hs
      cases h
      simp only [Bool.and_eq_true] at hs
      exact ⟨p, q, toPy_dp R 8 _ _ _ e1 r1, toPy_dp R 8 _ _ _ e2 r2, hs.1, hs.2, rfl⟩
    · cases h
  · cases h
theorem o_eqD : Op2 K G (rEqD K) gEqD := by
  intro α S H d1 d2 v1 v2 Q b S' R r1 r2 h q
  unfold gEqD at h
  cases e : eqDD S d1 d2 with
  | none => rw [e] at h; cases h
  | some c =>
    rw [e] at h; cases h
    obtain ⟨d, e, h1, h2, h3, h4, h5⟩ := eqDD_of R e r1 r2
    exact ⟨d, e, h1, h2, h3, h4, q α H _ (Ext.refl _ _) R (by rw [h5]; exact .bl _)⟩
theorem o_neD : Op2 K G (rNeD K) gNeD := by
  intro α S H d1 d2 v1 v2 Q b S' R r1 r2 h q
  unfold gNeD at h
  cases e : eqDD S d1 d2 with
  | none => rw [e] at h; cases h
  | some c =>
    rw [e] at h; cases h
    obtain ⟨d, e, h1, h2, h3, h4, h5⟩ := eqDD_of R e r1 r2
    exact ⟨d, e, h1, h2, h3, h4, q α H _ (Ext.refl _ _) R (by rw [h5]; exact .bl _)⟩
theorem op_eqA (hu : X.A.units + 64 < cLine) : OpR X (compareOp .Eq) (fun x y H Q => rEq x y H Q ∨ rEqD X.K x y H Q) := op_eq.or (op_eqD hu)
theorem o_eq : Op2 K G (fun x y H Q => rEq x y H Q ∨ rEqD K x y H Q) gEq := Op2.or o_eqS o_eqD
theorem op_neA (hu : X.A.units + 64 < cLine) : OpR X (compareOp .NotEq) (fun x y H Q => rNe x y H Q ∨ rNeD X.K x y H Q) := op_ne.or (op_neD hu)
theorem o_ne : Op2 K G (fun x y H Q => rNe x y H Q ∨ rNeD K x y H Q) gNe := Op2.or o_neS o_neD

/-! ### is, is not; in -/
def isN : D → Bool
  | .non => true
  | _ => false
theorem isN_of {α : List Addr} {H : Hp} {d : D} {v : V} (r : VR G α H d v) : decide (v = .non) = isN d := by
  cases r <;> simp [isN]
def gIs : G2 := fun a b S => match b with
  | .non => some (.bl (isN a), S)
  | .bl c => match a with
    | .bl d => some (.bl (decide (d = c)), S)
    | _ => none
  | _ => none
def gIsNot : G2 := fun a b S => match b with
  | .non => some (.bl (!isN a), S)
  | .bl c => match a with
    | .bl d => some (.bl (!decide (d = c)), S)
    | _ => none
  | _ => none
theorem op_isA : OpR X (compareOp .Is) (fun x y H Q => (fun x y H Q => y = .non ∧ Q (.bl (decide (x = .non))) H) x y H Q ∨ rIsB x y H Q) := op_isN.or op_isBl
theorem op_isNotA : OpR X (compareOp .IsNot) (fun x y H Q => (fun x y H Q => y = .non ∧ Q (.bl (!decide (x = .non))) H) x y H Q ∨ rNotB x y H Q) := op_notN.or op_notBl
theorem o_is : Op2 K G (fun x y H Q => (fun x y H Q => y = .non ∧ Q (.bl (decide (x = .non))) H) x y H Q ∨ rIsB x y H Q) gIs := by
  intro α S H d1 d2 v1 v2 Q b S' R r1 r2 h q
  cases d2 <;> simp only [gIs] at h <;> try (cases h; done)
  · cases h
    cases r2
    exact .inl ⟨rfl, q α H _ (Ext.refl _ _) R (by rw [isN_of r1]; exact .bl _)⟩
  · cases d1 <;> simp only at h <;> try (cases h; done)
    cases h; cases r1; cases r2
    exact .inr ⟨_, _, rfl, rfl, q α H _ (Ext.refl _ _) R (.bl _)⟩
theorem o_isNot : Op2 K G (fun x y H Q => (fun x y H Q => y = .non ∧ Q (.bl (!decide (x = .non))) H) x y H Q ∨ rNotB x y H Q) gIsNot := by
  intro α S H d1 d2 v1 v2 Q b S' R r1 r2 h q
  cases d2 <;> simp only [gIsNot] at h <;> try (cases h; done)
  · cases h
    cases r2
    exact .inl ⟨rfl, q α H _ (Ext.refl _ _) R (by rw [isN_of r1]; exact .bl _)⟩
  · cases d1 <;> simp only at h <;> try (cases h; done)
    cases h; cases r1; cases r2
    exact .inr ⟨_, _, rfl, rfl, q α H _ (Ext.refl _ _) R (.bl _)⟩

/-! ### subscripts -/
def gIxL : G2 := fun a b S => match a, b with
  | .ref m, .int i => match lget S m with
    | some xs => (atI xs i).map fun d => (d, S)
    | none => none
  | _, _ => none
def gIxT : G2 := fun a b S => match a, b with
  | .tup xs, .int i => (atI xs i).map fun d => (d, S)
  | _, _ => none
def gIxS : G2 := fun a b S => match a, b with
  | .str z, .int i => if small z.length then (atI z.cps.toList i).map fun c => (.str ⟨#[c]⟩, S) else none
  | _, _ => none
def gIxC (ns : List Int) : G2 := fun a b S => match a, b with
  | .scr, .int i => (atI ns i).map fun n => (.int n, S)
  | _, _ => none
def gIx (ns : List Int) : G2 := fun a b S => (gIxL a b S).or ((gIxC ns a b S).or ((gIxT a b S).or (gIxS a b S)))
theorem atI_rel {α : List Addr} {H : Hp} {ds : List D} {vs : List V} {i : Int} {d : D} (r : VRs G α H ds vs) (h : atI ds i = some d) : ∃ v, atI vs i = some v ∧ VR G α H d v := by
  unfold atI at h ⊢
  rw [← r.length]
  cases e : ixN ds.length i with
  | none => rw [e] at h; cases h
  | some j =>
    rw [e] at h
    exact r.get h
theorem o_ixL : Op2 K G (rIxL K) gIxL := by
  intro α S H d1 d2 v1 v2 Q b S' R r1 r2 h q
  cases d1 <;> cases d2 <;> simp only [gIxL] at h <;> try (cases h; done)
  obtain ⟨a, rfl, ha⟩ := r1.refI
  cases r2
  split at h
  · rename_i xs e0
    obtain ⟨vs, h1, h2⟩ := lget_at R ha e0
    cases e : atI xs _ with
    | none => rw [e] at h; cases h
    | some d =>
      rw [e] at h; cases h
      obtain ⟨v, h3, h4⟩ := atI_rel h2 e
      exact ⟨a, vs, _, v, rfl, rfl, .inl (.inl h1), h3, q α H v (Ext.refl _ _) R h4⟩
  · cases h
theorem o_ixC : Op2 K G (rIxL K) (gIxC G.ns) := by
  intro α S H d1 d2 v1 v2 Q b S' R r1 r2 h q
  cases d1 <;> cases d2 <;> simp only [gIxC] at h <;> try (cases h; done)
  cases r1; cases r2
  cases e : atI G.ns _ with
  | none => rw [e] at h; cases h
  | some n =>
    rw [e] at h; cases h
    refine ⟨G.a0, _, _, .int n, rfl, rfl, R.scr.sql, ?_, q α H _ (Ext.refl _ _) R (.int _)⟩
    unfold atI at e ⊢
    rw [List.length_map]
    cases e2 : ixN G.ns.length _ with
    | none => rw [e2] at e; cases e
    | some j =>
      rw [e2] at e
      simp only [Option.bind_some] at e ⊢
      rw [List.getElem?_map, e]
      rfl
theorem o_ixT : Op2 K G (rIxT K) gIxT := by
  intro α S H d1 d2 v1 v2 Q b S' R r1 r2 h q
  cases d1 <;> cases d2 <;> simp only [gIxT] at h <;> try (cases h; done)
  obtain ⟨a, vs, rfl, h1, h2⟩ := r1.tupI
  cases r2
  cases e : atI _ _ with
  | none => rw [e] at h; cases h
  | some d =>
    rw [e] at h; cases h
    obtain ⟨v, h3, h4⟩ := atI_rel h2 e
    exact ⟨a, vs, _, v, rfl, rfl, .inl (.inl h1), h3, q α H v (Ext.refl _ _) R h4⟩
theorem o_ixS : Op2 K G rIxS gIxS := by
  intro α S H d1 d2 v1 v2 Q b S' R r1 r2 h q
  cases d1 <;> cases d2 <;> simp only [gIxS] at h <;> try (cases h; done)
  cases r1; cases r2
  split at h
  · rename_i hs
    cases e : atI _ _ with
    | none => rw [e] at h; cases h
    | some d =>
      rw [e] at h; cases h
      exact ⟨_, _, _, rfl, rfl, small_ok hs, e, q α H _ (Ext.refl _ _) R (.str _)⟩
  · cases h
def rIxA (K : PySem.W.Frag) : R2 := fun x y H Q => rIxL K x y H Q ∨ (rIxL K x y H Q ∨ (rIxT K x y H Q ∨ rIxS x y H Q))
theorem ix_A : IxR X (rIxA X.K) := ix_list.or (ix_list.or (ix_tup.or ix_str))
theorem o_ix : Op2 K G (rIxA K) (gIx G.ns) := Op2.or o_ixL (Op2.or o_ixC (Op2.or o_ixT o_ixS))
end
section
variable {X : Cx} {G : Pm} {W : WX} {ξ : Option (Nat × Addr)} {a b e : Expr} {f g : SE} {pos p2 : Pos}
theorem je_ix (ha : JE X G W ξ a f) (hb : JE X G W ξ b g) (hs : PlainIx b := by exact fun _ _ => rfl) : JE X G W ξ (.Subscript a b pos) (eOp (gIx G.ns) f g) :=
  peI (pe_ix ix_A ha hb hs) fun _ _ _ h => tOp_of o_ix h

/-! ### slices -/
abbrev SO := Fr → Store → R (Option Int)
def cO (K : PySem.W.Frag) (G : Pm) (W : WX) (ξ : Option (Nat × Addr)) (f : SO) : TO := fun σ H Q => ∃ α S φ, RSt K G α S H ∧ RF G α H ξ σ φ ∧ PR K G W α H σ (fun _ _ a b => a = b) Q (f φ S)
abbrev JO (X : Cx) (G : Pm) (W : WX) (ξ : Option (Nat × Addr)) (e : Option Expr) (f : SO) : Prop := PO X e (cO X.K G W ξ f)
def oNo : SO := fun _ S => .ok none S
def oSome (f : SE) : SO := fun φ S => (f φ S).bind fun d S1 => match d with
  | .int i => .ok (some i) S1
  | _ => .no
theorem jo_none : JO X G W ξ none oNo := ⟨fun pins s σ H Q I ⟨α, S, φ, R, F, h⟩ => po_none.run pins s σ H Q I (h α H none (Ext.refl _ _) R rfl)⟩
theorem jo_some (h : JE X G W ξ e f) : JO X G W ξ (some e) (oSome f) := ⟨fun pins s σ H Q I ⟨α, S, φ, R, F, hh⟩ => (po_some h).run pins s σ H Q I ⟨α, S, φ, R, F, PR.bind hh fun d S1 α1 H1 v e1 R1 r1 h1 => by
  cases d with
  | int i =>
    cases r1
    exact ⟨i, rfl, h1 α1 H1 _ (Ext.refl _ _) R1 rfl⟩
  | _ => exact h1.elim⟩⟩
abbrev GS := D → Option Int → Option Int → Store → Option (D × Store)
def cutD (xs : List D) (lo hi : Option Int) : List D := (xs.drop (HT.sIx xs.length 0 lo)).take (HT.sIx xs.length xs.length hi - HT.sIx xs.length 0 lo)
theorem cut_rel {α : List Addr} {H : Hp} {ds : List D} {vs : List V} {lo hi : Option Int} (r : VRs G α H ds vs) : VRs G α H (cutD ds lo hi) (cutV vs lo hi) := by
  unfold cutD cutV
  rw [← r.length]
  exact (r.drop _).take _
def gSlL : GS := fun a lo hi S => match a with
  | .ref m => match lget S m with
    | some xs => some (.ref S.length, S ++ [.lst (cutD xs lo hi)])
    | none => none
  | _ => none
def gSlT : GS := fun a lo hi S => match a with
  | .tup xs => if HT.sIx xs.length 0 lo = 0 ∧ HT.sIx xs.length xs.length hi = xs.length then none else some (.tup (cutD xs lo hi), S)
  | _ => none
def gSlS : GS := fun a lo hi S => match a with
  | .str z => if small z.length then some (.str (cutS z lo hi), S) else none
  | _ => none
def gSl : GS := fun a lo hi S => (gSlL a lo hi S).or ((gSlT a lo hi S).or (gSlS a lo hi S))
def SlO (K : PySem.W.Frag) (G : Pm) (r : V → Option Int → Option Int → Hp → VK → Prop) (g : GS) : Prop := ∀ α S H d v lo hi (Q : VK) b S', RSt K G α S H → VR G α H d v → g d lo hi S = some (b, S') →
  (∀ α' H' c, Ext α H α' H' → RSt K G α' S' H' → VR G α' H' b c → Q c H') → r v lo hi H Q
theorem SlO.or {K : PySem.W.Frag} {r r' : V → Option Int → Option Int → Hp → VK → Prop} {g g' : GS} (h : SlO K G r g) (h' : SlO K G r' g') : SlO K G (fun x lo hi H Q => r x lo hi H Q ∨ r' x lo hi H Q) (fun a lo hi S => (g a lo hi S).or (g' a lo hi S)) := by
  intro α S H d v lo hi Q b S' R r1 e q
  cases e1 : g d lo hi S with
  | some p =>
    simp only [e1, Option.some_or] at e
    cases e
    exact .inl (h α S H d v lo hi Q _ _ R r1 e1 q)
  | none =>
    simp only [e1, Option.none_or] at e
    exact .inr (h' α S H d v lo hi Q _ _ R r1 e q)
theorem s_l {K : PySem.W.Frag} : SlO K G (rSlL K) gSlL := by
  intro α S H d v lo hi Q b S' R r1 h q
  cases d <;> simp only [gSlL] at h <;> try (cases h; done)
  obtain ⟨a, rfl, ha⟩ := r1.refI
  split at h
  · rename_i xs e0
    cases h
    obtain ⟨vs, h1, h2⟩ := lget_at R ha e0
    refine ⟨a, vs, rfl, .inl (.inl h1), fun p hp => ?_⟩
    obtain ⟨z1, z2, z3⟩ := R.newL hp (cut_rel (lo := lo) (hi := hi) h2)
    exact q _ _ _ z1 z2 z3
  · cases h
theorem s_t {K : PySem.W.Frag} : SlO K G (rSlT K) gSlT := by
  intro α S H d v lo hi Q b S' R r1 h q
  cases d <;> simp only [gSlT] at h <;> try (cases h; done)
  obtain ⟨a, vs, rfl, h1, h2⟩ := r1.tupI
  split at h
  · cases h
  · rename_i hn
    cases h
    refine ⟨a, vs, rfl, .inl (.inl h1), by rw [← h2.length]; exact hn, fun p hp => ?_⟩
    exact q _ _ _ (Ext.new hp) (R.aside hp) (.tup upd_same ((cut_rel h2).mono (Ext.new hp)))
theorem s_s {K : PySem.W.Frag} : SlO K G rSlS gSlS := by
  intro α S H d v lo hi Q b S' R r1 h q
  cases d <;> simp only [gSlS] at h <;> try (cases h; done)
  cases r1
  split at h
  · rename_i hs
    cases h
    exact ⟨_, rfl, small_ok hs, q α H _ (Ext.refl _ _) R (.str _)⟩
  · cases h
def eSl (f : SE) (l h : SO) : SE := fun φ S => (f φ S).bind fun d S1 => (l φ S1).bind fun lo S2 => (h φ S2).bind fun hi S3 => R.of (gSl d lo hi S3)
variable {lo hi : Option Expr} {fl fh : SO}
theorem je_sl (ha : JE X G W ξ e f) (hl : JO X G W ξ lo fl) (hh : JO X G W ξ hi fh) : JE X G W ξ (.Subscript e (.Slice lo hi none p2) pos) (eSl f fl fh) :=
  peI (pe_slice (SlR.or sl_list (SlR.or sl_tup sl_str)) ha hl hh) fun σ H Q ⟨α, S, φ, R, F, h⟩ => ⟨α, S, φ, R, F, PR.bind h fun d S1 α1 H1 v e1 R1 r1 h1 =>
    ⟨α1, S1, φ, R1, F.mono e1, PR.bind h1 fun l S2 α2 H2 lv e2 R2 r2 h2 => ⟨α2, S2, φ, R2, (F.mono e1).mono e2, PR.bind h2 fun u S3 α3 H3 uv e3 R3 r3 h3 => by
      obtain rfl : l = lv := r2
      obtain rfl : u = uv := r3
      obtain ⟨b, S', eo, hq⟩ := h3.ofO
      exact SlO.or s_l (SlO.or s_t s_s) α3 S3 H3 d v l u Q b S' R3 ((r1.mono e2).mono e3) eo hq⟩⟩⟩
end
end DebtJ

set_option Elab.async false
set_option linter.all false
set_option maxRecDepth 100000
set_option maxHeartbeats 1000000
namespace DebtJ
open PySem PySem.Spec PyProof.Rows L2

/-! ### built-in functions, by values -/
abbrev GC := List D → Store → Option (D × Store)
def COp (K : PySem.W.Frag) (G : Pm) (r : List V → Hp → VK → Prop) (g : GC) : Prop := ∀ α S H ds vs (Q : VK) b S', RSt K G α S H → VRs G α H ds vs → g ds S = some (b, S') →
  (∀ α' H' c, Ext α H α' H' → RSt K G α' S' H' → VR G α' H' b c → Q c H') → r vs H Q
def eCB (g : GC) (r : SA) : SE := fun φ S => (r φ S).bind fun ds S1 => R.of (g ds S1)
section
variable {X : Cx} {G : Pm} {W : WX} {ξ : Option (Nat × Addr)} {K : PySem.W.Frag} {x : Str} {p pos apos : Pos} {e o : Expr} {es : List Expr} {fa : SA} {fo : SE} {bid T : String} {r r' : List V → Hp → VK → Prop} {g g' : GC}
theorem tCB_of (hr : COp K G r g) {σ : L2.St} {H : Hp} {Q : VK} (h : cE K G W ξ (eCB g fa) σ H Q) : tCB r (cA K G W ξ fa) σ H Q := by
  obtain ⟨α, S, φ, R, F, h⟩ := h
  refine ⟨α, S, φ, R, F, PR.bind h fun ds S1 α1 H1 vs e1 R1 r1 h1 => ?_⟩
  obtain ⟨b, S', eo, hq⟩ := h1.ofO
  exact hr α1 S1 H1 ds vs Q b S' R1 r1 eo hq
theorem je_cb (hc : CallR X (.builtin bid) r) (hr : COp X.K G r g) (hm : X.mg x = none) (ha : JA X G W ξ (e :: es) fa) (hg : Gl X x := by rfl) (hv : bootBuiltins x = some (.builtin bid) := by decide +kernel) (hn : x ≠ "__name__" := by decide) (hdb : (x == ("__debug__" : Str)) = false := by decide)
    (he : starEach (e :: es) X.env = (false, eval e X.env) :: starEach es X.env := by rfl) (hpl : (backTo pos (starEach es X.env)).any (·.1) = false := by rfl) : JE X G W ξ (.Call (.Name x p) (e :: es) [] pos) (eCB g fa) :=
  peI (pe_callB hc hg hm hv ha hn hdb he hpl) fun _ _ _ h => tCB_of hr h
theorem je_cty (hc : CallR X (.type T) r) (hr : COp X.K G r g) (hm : X.mg x = none) (ha : JA X G W ξ (e :: es) fa) (hg : Gl X x := by rfl) (hv : bootBuiltins x = some (.type T) := by decide +kernel) (hn : x ≠ "__name__" := by decide) (hdb : (x == ("__debug__" : Str)) = false := by decide)
    (he : starEach (e :: es) X.env = (false, eval e X.env) :: starEach es X.env := by rfl) (hpl : (backTo pos (starEach es X.env)).any (·.1) = false := by rfl) : JE X G W ξ (.Call (.Name x p) (e :: es) [] pos) (eCB g fa) :=
  peI (pe_callTy hc hg hm hv ha hn hdb he hpl) fun _ _ _ h => tCB_of hr h
theorem COp.or (h : COp K G r g) (h' : COp K G r' g') : COp K G (fun xs H Q => r xs H Q ∨ r' xs H Q) (fun ds S => (g ds S).or (g' ds S)) := by
  intro α S H ds vs Q b S' R r1 e q
  cases e1 : g ds S with
  | some p =>
    simp only [e1, Option.some_or] at e
    cases e
    exact .inl (h α S H ds vs Q _ _ R r1 e1 q)
  | none =>
    simp only [e1, Option.none_or] at e
    exact .inr (h' α S H ds vs Q _ _ R r1 e q)
theorem VRs.one {α : List Addr} {H : Hp} {d : D} {vs : List V} (r : VRs G α H [d] vs) : ∃ v, vs = [v] ∧ VR G α H d v := by
  cases r with | cons a b => cases b; exact ⟨_, rfl, a⟩
theorem VRs.two {α : List Addr} {H : Hp} {d d2 : D} {vs : List V} (r : VRs G α H [d, d2] vs) : ∃ v v2, vs = [v, v2] ∧ VR G α H d v ∧ VR G α H d2 v2 := by
  cases r with | cons a b => cases b with | cons c d => cases d; exact ⟨_, _, rfl, a, c⟩
/-- len -/
def gLen (m : Nat) : GC := fun ds S => match ds with
  | [.str s] => if small s.length then some (.int s.length, S) else none
  | [.tup xs] => some (.int xs.length, S)
  | [.ref n] => (lget S n).map fun xs => (.int xs.length, S)
  | [.scr] => some (.int m, S)
  | _ => none
def rLenA (K : PySem.W.Frag) : List V → Hp → VK → Prop := fun xs H Q => ∃ x n, xs = [x] ∧ LenV K x H n ∧ Q (.int n) H
theorem c_len : COp K G (rLenA K) (gLen G.ns.length) := by
  intro α S H ds vs Q b S' R r h q
  unfold gLen at h
  split at h
  · obtain ⟨v, rfl, r1⟩ := r.one
    cases r1
    split at h
    · rename_i hs
      cases h
      exact ⟨_, _, rfl, ⟨small_ok hs, rfl⟩, q α H _ (Ext.refl _ _) R (.int _)⟩
    · cases h
  · obtain ⟨v, rfl, r1⟩ := r.one
    obtain ⟨a, ws, rfl, h1, h2⟩ := r1.tupI
    cases h
    exact ⟨_, _, rfl, .inr ⟨ws, .inl (.inl h1), h2.length⟩, q α H _ (Ext.refl _ _) R (.int _)⟩
  · rename_i n
    obtain ⟨v, rfl, r1⟩ := r.one
    obtain ⟨a, rfl, ha⟩ := r1.refI
    cases e : lget S n with
    | none => rw [e] at h; cases h
    | some xs =>
      rw [e] at h; cases h
      obtain ⟨ws, h1, h2⟩ := lget_at R ha e
      exact ⟨_, _, rfl, .inl ⟨ws, .inl (.inl h1), h2.length⟩, q α H _ (Ext.refl _ _) R (.int _)⟩
  · obtain ⟨v, rfl, r1⟩ := r.one
    cases r1
    cases h
    exact ⟨_, _, rfl, .inl ⟨_, R.scr.sql, by rw [List.length_map]⟩, q α H _ (Ext.refl _ _) R (.int _)⟩
  · cases h
theorem call_lenA : CallR X (.builtin "len") (rLenA X.K) := call_len
/-- int of an int, of a bool -/
def gInt : GC := fun ds S => match ds with
  | [.int i] => some (.int i, S)
  | [.bl k] => some (.int (if k then 1 else 0), S)
  | _ => none
def rInt1 : List V → Hp → VK → Prop := fun xs H Q => (∃ i, xs = [.int i] ∧ Q (.int i) H) ∨ ∃ k, xs = [.bl k] ∧ Q (.int (if k then 1 else 0)) H
theorem call_intA : CallR X (.type "int") rInt1 := call_int1
theorem c_int : COp K G rInt1 gInt := by
  intro α S H ds vs Q b S' R r h q
  unfold gInt at h
  split at h
  · obtain ⟨v, rfl, r1⟩ := r.one
    cases r1; cases h
    exact .inl ⟨_, rfl, q α H _ (Ext.refl _ _) R (.int _)⟩
  · obtain ⟨v, rfl, r1⟩ := r.one
    cases r1; cases h
    exact .inr ⟨_, rfl, q α H _ (Ext.refl _ _) R (.int _)⟩
  · cases h
def gMax2 : GC := fun ds S => match ds with
  | [.int i, .int j] => some (.int (if j > i then j else i), S)
  | _ => none
def gMin2 : GC := fun ds S => match ds with
  | [.int i, .int j] => some (.int (if j < i then j else i), S)
  | _ => none
def rMax2 : List V → Hp → VK → Prop := fun xs H Q => ∃ i j, xs = [.int i, .int j] ∧ Q (.int (if j > i then j else i)) H
def rMin2 : List V → Hp → VK → Prop := fun xs H Q => ∃ i j, xs = [.int i, .int j] ∧ Q (.int (if j < i then j else i)) H
theorem call_max2A (hc : X.calm = true) : CallR X (.builtin "max") rMax2 := call_max2 hc
theorem call_min2A (hc : X.calm = true) : CallR X (.builtin "min") rMin2 := call_min2 hc
theorem c_max2 : COp K G rMax2 gMax2 := by
  intro α S H ds vs Q b S' R r h q
  unfold gMax2 at h
  split at h
  · obtain ⟨v, v2, rfl, r1, r2⟩ := r.two
    cases r1; cases r2; cases h
    exact ⟨_, _, rfl, q α H _ (Ext.refl _ _) R (.int _)⟩
  · cases h
theorem c_min2 : COp K G rMin2 gMin2 := by
  intro α S H ds vs Q b S' R r h q
  unfold gMin2 at h
  split at h
  · obtain ⟨v, v2, rfl, r1, r2⟩ := r.two
    cases r1; cases r2; cases h
    exact ⟨_, _, rfl, q α H _ (Ext.refl _ _) R (.int _)⟩
  · cases h
/-- list of a list, of a tuple -/
def gList : GC := fun ds S => match ds with
  | [.ref n] => (lget S n).map fun xs => (.ref S.length, S ++ [.lst xs])
  | [.tup xs] => some (.ref S.length, S ++ [.lst xs])
  | _ => none
def rListA (K : PySem.W.Frag) : List V → Hp → VK → Prop := fun xs H Q => ∃ p ys, xs = [.ref p] ∧ (SqL K H p ys ∨ SqT K H p ys) ∧ ∀ l, H l = none → Q (.ref l) (upd H l (.lst ys))
theorem call_listA : CallR X (.type "list") (rListA X.K) := call_list_of
theorem c_list : COp K G (rListA K) gList := by
  intro α S H ds vs Q b S' R r h q
  unfold gList at h
  split at h
  · rename_i n
    obtain ⟨v, rfl, r1⟩ := r.one
    obtain ⟨a, rfl, ha⟩ := r1.refI
    cases e : lget S n with
    | none => rw [e] at h; cases h
    | some xs =>
      rw [e] at h; cases h
      obtain ⟨ws, h1, h2⟩ := lget_at R ha e
      refine ⟨a, ws, rfl, .inl (.inl (.inl h1)), fun p hp => ?_⟩
      obtain ⟨z1, z2, z3⟩ := R.newL hp h2
      exact q _ _ _ z1 z2 z3
  · obtain ⟨v, rfl, r1⟩ := r.one
    obtain ⟨a, ws, rfl, h1, h2⟩ := r1.tupI
    cases h
    refine ⟨a, ws, rfl, .inr (.inl (.inl h1)), fun p hp => ?_⟩
    obtain ⟨z1, z2, z3⟩ := R.newL hp h2
    exact q _ _ _ z1 z2 z3
  · cases h
/-- tuple of a list -/
def gTuple : GC := fun ds S => match ds with
  | [.ref n] => (lget S n).map fun xs => (.tup xs, S)
  | _ => none
def rTupleA (K : PySem.W.Frag) : List V → Hp → VK → Prop := fun xs H Q => ∃ p ys, xs = [.ref p] ∧ ((SqL K H p ys ∧ ∀ l, H l = none → Q (.ref l) (upd H l (.tup ys))) ∨ (SqT K H p ys ∧ Q (.ref p) H))
theorem call_tupleA : CallR X (.type "tuple") (rTupleA X.K) := call_tuple_of
theorem c_tuple : COp K G (rTupleA K) gTuple := by
  intro α S H ds vs Q b S' R r h q
  unfold gTuple at h
  split at h
  · rename_i n
    obtain ⟨v, rfl, r1⟩ := r.one
    obtain ⟨a, rfl, ha⟩ := r1.refI
    cases e : lget S n with
    | none => rw [e] at h; cases h
    | some xs =>
      rw [e] at h; cases h
      obtain ⟨ws, h1, h2⟩ := lget_at R ha e
      refine ⟨a, ws, rfl, .inl ⟨.inl (.inl h1), fun p hp => ?_⟩⟩
      exact q α _ _ (Ext.new hp) (R.aside hp) (.tup upd_same (h2.mono (Ext.new hp)))
  · cases h
/-- all of a list of bools, sum of a list of ints -/
def blsOf : List D → Option (List Bool)
  | [] => some []
  | .bl b :: r => (blsOf r).map (b :: ·)
  | _ :: _ => none
def intsOf : List D → Option (List Int)
  | [] => some []
  | .int b :: r => (intsOf r).map (b :: ·)
  | _ :: _ => none
theorem blsOf_rel {α : List Addr} {H : Hp} : ∀ {ds : List D} {vs : List V} {bs : List Bool}, VRs G α H ds vs → blsOf ds = some bs → vs = bs.map V.bl
  | [], _, _, .nil, h => by cases h; rfl
  | d :: r, _, bs, .cons r1 t, h => by
    cases d <;> simp only [blsOf] at h <;> try (cases h; done)
    cases r1
    cases e : blsOf r with
    | none => rw [e] at h; cases h
    | some q => rw [e] at h; cases h; rw [List.map_cons, blsOf_rel t e]
theorem intsOf_rel {α : List Addr} {H : Hp} : ∀ {ds : List D} {vs : List V} {bs : List Int}, VRs G α H ds vs → intsOf ds = some bs → vs = bs.map V.int
  | [], _, _, .nil, h => by cases h; rfl
  | d :: r, _, bs, .cons r1 t, h => by
    cases d <;> simp only [intsOf] at h <;> try (cases h; done)
    cases r1
    cases e : intsOf r with
    | none => rw [e] at h; cases h
    | some q => rw [e] at h; cases h; rw [List.map_cons, intsOf_rel t e]
def gAll : GC := fun ds S => match ds with
  | [.ref n] => ((lget S n).bind blsOf).map fun bs => (.bl (bs.all fun b => b), S)
  | _ => none
def gSum : GC := fun ds S => match ds with
  | [.ref n] => ((lget S n).bind intsOf).map fun bs => (.int bs.sum, S)
  | _ => none
theorem c_all : COp K G (rAll K) gAll := by
  intro α S H ds vs Q b S' R r h q
  unfold gAll at h
  split at h
  · rename_i n
    obtain ⟨v, rfl, r1⟩ := r.one
    obtain ⟨a, rfl, ha⟩ := r1.refI
    cases e : lget S n with
    | none => rw [e] at h; cases h
    | some xs =>
      cases e2 : blsOf xs with
      | none => rw [e, Option.bind_some, e2] at h; cases h
      | some bs =>
        rw [e, Option.bind_some, e2] at h; cases h
        obtain ⟨ws, h1, h2⟩ := lget_at R ha e
        exact ⟨a, bs, rfl, .inl (.inl (by rw [← blsOf_rel h2 e2]; exact h1)), q α H _ (Ext.refl _ _) R (.bl _)⟩
  · cases h
theorem c_sum : COp K G (rSum K) gSum := by
  intro α S H ds vs Q b S' R r h q
  unfold gSum at h
  split at h
  · rename_i n
    obtain ⟨v, rfl, r1⟩ := r.one
    obtain ⟨a, rfl, ha⟩ := r1.refI
    cases e : lget S n with
    | none => rw [e] at h; cases h
    | some xs =>
      cases e2 : intsOf xs with
      | none => rw [e, Option.bind_some, e2] at h; cases h
      | some bs =>
        rw [e, Option.bind_some, e2] at h; cases h
        obtain ⟨ws, h1, h2⟩ := lget_at R ha e
        exact ⟨a, bs, rfl, .inl (.inl (by rw [← intsOf_rel h2 e2]; exact h1)), q α H _ (Ext.refl _ _) R (.int _)⟩
  · cases h
/-- str of an int -/
def gStrI : GC := fun ds S => match ds with
  | [.int i] => if i.natAbs.log2 < 1920 then some (.str (toString i), S) else none
  | _ => none
def rStrI : List V → Hp → VK → Prop := fun xs H Q => ∃ i : Int, xs = [.int i] ∧ i.natAbs.log2 < 1920 ∧ Q (.str (toString i)) H
theorem call_strA : CallR X (.type "str") rStrI := call_str_int
theorem c_strI : COp K G rStrI gStrI := by
  intro α S H ds vs Q b S' R r h q
  unfold gStrI at h
  split at h
  · obtain ⟨v, rfl, r1⟩ := r.one
    cases r1
    split at h
    · rename_i hs
      cases h
      exact ⟨_, rfl, hs, q α H _ (Ext.refl _ _) R (.str _)⟩
    · cases h
  · cases h

/-! ### isinstance of data, of a built-in class -/
def tyN (S : Store) : D → Option String
  | .non => some "NoneType" | .bl _ => some "bool" | .int _ => some "int" | .str _ => some "str" | .tup _ => some "tuple"
  | .ref n => match S[n]? with
    | some (.lst _) => some "list"
    | some (.dic _) => some "dict"
    | _ => none
  | .scr => none
theorem tyN_of {α : List Addr} {S : Store} {H : Hp} {d : D} {v : V} {t : String} (R : RSt K G α S H) (r : VR G α H d v) (h : tyN S d = some t) : TyX K H v (.type t) := by
  cases d with
  | non => cases r; cases h; exact .base .non
  | bl b => cases r; cases h; exact .base (.bl b)
  | int b => cases r; cases h; exact .base (.int b)
  | str b => cases r; cases h; exact .base (.str b)
  | tup b => obtain ⟨a, vs, rfl, h1, h2⟩ := r.tupI; cases h; exact .base (.tup h1)
  | scr => cases h
  | ref n =>
    obtain ⟨a, rfl, ha⟩ := r.refI
    simp only [tyN] at h
    split at h
    · rename_i xs e
      cases h
      obtain ⟨a', h1, vs, h2, h3⟩ := R.ob n _ e
      rw [ha] at h1; cases h1
      exact .base (.lst h2)
    · rename_i xs e
      cases h
      obtain ⟨a', h1, vs, h2, h3⟩ := R.ob n _ e
      rw [ha] at h1; cases h1
      exact .base (.dK h2)
    · cases h
/-- isinstance(x, T) -/
def eIsi (T : String) (f : SE) : SE := fun φ S => (f φ S).bind fun d S1 => match (tyN S1 d).bind fun t => kitB t T with
  | some b => .ok (.bl b) S1
  | none => .no
theorem je_isi {y : Str} {T : String} {p2 : Pos} (he : JE X G W ξ e fo) (hm : X.mg "isinstance" = none) (hmT : X.mg y = none) (hg : Gl X "isinstance" := by rfl) (hgT : Gl X y := by rfl) (hvT : bootBuiltins y = some (.type T) := by decide +kernel)
    (hn : y ≠ "__name__" := by decide) (hdb : (y == ("__debug__" : Str)) = false := by decide)
    (h1 : starEach [e, .Name y p2] X.env = (false, eval e X.env) :: starEach [.Name y p2] X.env := by rfl) (h2 : starEach [.Name y p2] X.env = (false, eval (.Name y p2) X.env) :: starEach [] X.env := by rfl)
    (hpl : (backTo pos (starEach [.Name y p2] X.env)).any (·.1) = false := by rfl) : JE X G W ξ (.Call (.Name "isinstance" p) [e, .Name y p2] [] pos) (eIsi T fo) :=
  peI (pe_callB call_isi hg hm (by decide +kernel) (pa_cons he (pa_cons (pe_bltn (v := .ty T) hgT hmT hvT rfl hn hdb) pa_nil h2) h1) (by decide) (by decide) h1 hpl) fun σ H Q ⟨α, S, φ, R, F, h⟩ =>
    ⟨α, S, φ, R, F, PR.bind h fun d S1 α1 H1 v e1 R1 r1 h1 => by
      split at h1
      · rename_i b eb
        obtain ⟨t, e2, e3⟩ := Option.bind_eq_some_iff.mp eb
        exact ⟨v, .ty T, .type t, .type T, b, rfl, .ty T, tyN_of R1 r1 e2, kit_ty e3, h1 α1 H1 _ (Ext.refl _ _) R1 (.bl b)⟩
      · exact h1.elim⟩

/-! ### list methods -/
abbrev GM := D → List D → Store → Option (D × Store)
def MOp (K : PySem.W.Frag) (G : Pm) (r : V → List V → Hp → VK → Prop) (g : GM) : Prop := ∀ α S H d ds v vs (Q : VK) b S', RSt K G α S H → VR G α H d v → VRs G α H ds vs → g d ds S = some (b, S') →
  (∀ α' H' c, Ext α H α' H' → RSt K G α' S' H' → VR G α' H' b c → Q c H') → r v vs H Q
/-- the receiver is a list (a text) ahead of the arguments -/
def recv (S : Store) (T : String) : D → Bool
  | .ref n => T == "list" && (lget S n).isSome
  | .str _ => T == "str"
  | _ => false
theorem recv_of {α : List Addr} {S : Store} {H : Hp} {d : D} {v : V} (R : RSt K G α S H) (r : VR G α H d v) (h : recv S T d = true) : tyV K T v H := by
  cases d with
  | ref n =>
    obtain ⟨a, rfl, ha⟩ := r.refI
    simp only [recv, Bool.and_eq_true, beq_iff_eq] at h
    obtain ⟨rfl, h⟩ := h
    obtain ⟨xs, e⟩ := Option.isSome_iff_exists.mp h
    obtain ⟨vs, h1, _⟩ := lget_at R ha e
    exact .inl ⟨rfl, vs, .inl (.inl h1)⟩
  | str s =>
    cases r
    exact beq_iff_eq.mp h
  | _ => exact absurd (show false = true from h) Bool.false_ne_true
def eBM (T : String) (g : GM) (o : SE) (r : SA) : SE := fun φ S => (o φ S).bind fun x S1 => if recv S1 T x then (r φ S1).bind fun ds S2 => R.of (g x ds S2) else .no
variable {m : Str} {rm : V → List V → Hp → VK → Prop} {gm : GM}
theorem je_bm0 (pa : PlainAttrs T) (slot : Slot T m bid) (hty : typeOf (.builtin bid) = pure (.type "method_descriptor")) (hm : MtR X bid rm) (hr : MOp X.K G rm gm) (ho : JE X G W ξ o fo)
    (hb : attributeBase o m X.env (eval o X.env) = eval o X.env := by rfl) (hl : (apos.endLine == pos.line) = true := by rfl) :
    JE X G W ξ (.Call (.Attribute o m apos) [] [] pos) (eBM T gm fo aNil) :=
  peI (pe_bm0 pa slot hty hm ho hb hl) fun σ H Q ⟨α, S, φ, R, F, h⟩ => ⟨α, S, φ, R, F, PR.bind h fun d S1 α1 H1 v e1 R1 r1 h1 => by
    split at h1
    · rename_i hv
      obtain ⟨b, S', eo, hq⟩ := PR.ofO (show PR X.K G W α1 H1 σ (vrel G) Q (DebtJ.R.of (gm d [] S1)) from h1)
      exact ⟨recv_of R1 r1 hv, hr α1 S1 H1 d [] v [] Q b S' R1 r1 .nil eo hq⟩
    · exact h1.elim⟩
theorem je_bm (pa : PlainAttrs T) (slot : Slot T m bid) (hty : typeOf (.builtin bid) = pure (.type "method_descriptor")) (hm : MtR X bid rm) (hr : MOp X.K G rm gm) (ho : JE X G W ξ o fo) (ha : JA X G W ξ (e :: es) fa)
    (hb : attributeBase o m X.env (eval o X.env) = eval o X.env := by rfl)
    (hfew : ((backTo pos (starEach (e :: es) X.env)).all (fun x => !x.1) && (backToKw pos (keywordEach [] X.env)).all (fun x => x.1.isSome)
      && decide ((e :: es).length + ([] : List Keyword).length + (if ([] : List Keyword).isEmpty then 0 else 1) < 30)) = true := by rfl)
    (hl : (apos.endLine == pos.line) = true := by rfl) (he : starEach (e :: es) X.env = (false, eval e X.env) :: starEach es X.env := by rfl) (hpl : (backTo pos (starEach es X.env)).any (·.1) = false := by rfl) :
    JE X G W ξ (.Call (.Attribute o m apos) (e :: es) [] pos) (eBM T gm fo fa) :=
  peI (pe_bm pa slot hty hm ho ha hb hfew hl he hpl) fun σ H Q ⟨α, S, φ, R, F, h⟩ => ⟨α, S, φ, R, F, PR.bind h fun d S1 α1 H1 v e1 R1 r1 h1 => by
    split at h1
    · rename_i hv
      exact ⟨recv_of R1 r1 hv, α1, S1, φ, R1, F.mono e1, PR.bind h1 fun ds S2 α2 H2 vs e2 R2 r2 h2 => by
        obtain ⟨b, S', eo, hq⟩ := h2.ofO
        exact hr α2 S2 H2 d ds v vs Q b S' R2 (r1.mono e2) r2 eo hq⟩
    · exact h1.elim⟩
end
end DebtJ

set_option Elab.async false
set_option linter.all false
set_option maxRecDepth 100000
set_option maxHeartbeats 1000000
namespace DebtJ
open PySem PySem.Spec PyProof.Rows L2

section
variable {X : Cx} {G : Pm} {W : WX} {ξ : Option (Nat × Addr)} {K : PySem.W.Frag}
/-! ### list methods -/
theorem RSt.setL {α : List Addr} {S : Store} {H : Hp} {n : Nat} {a : Addr} {ds : List D} {vs : List V} (R : RSt K G α S H) (ha : α[n]? = some a) {ws : List V} (hw : H a = some (.lst ws)) (r : VRs G α H ds vs) :
    Ext α H α (upd H a (.lst vs)) ∧ RSt K G α (S.set n (.lst ds)) (upd H a (.lst vs)) := ⟨RSt.extMut ⟨_, hw, rfl⟩, R.set ha ⟨_, hw, rfl⟩ ⟨vs, upd_same, r.mono (RSt.extMut ⟨_, hw, rfl⟩)⟩⟩
def gAppend : GM := fun d ds S => match d, ds with
  | .ref n, [y] => match lget S n with
    | some xs => if small (xs.length + 1) then some (.non, S.set n (.lst (xs ++ [y]))) else none
    | none => none
  | _, _ => none
theorem m_append : MOp K G rAppend gAppend := by
  intro α S H d ds v vs Q b S' R r rs h q
  unfold gAppend at h
  split at h
  · rename_i n y
    obtain ⟨a, rfl, ha⟩ := r.refI
    obtain ⟨w, rfl, rw'⟩ := rs.one
    split at h
    · rename_i xs e
      split at h
      · rename_i hs
        cases h
        obtain ⟨us, h1, h2⟩ := lget_at R ha e
        obtain ⟨z1, z2⟩ := R.setL ha h1 (h2.append (.cons rw' .nil))
        exact ⟨a, us, w, rfl, rfl, h1, by have := small_ok hs; rw [← h2.length]; omega, q _ _ _ z1 z2 .non⟩
      · cases h
    · cases h
  · cases h
def gExtend : GM := fun d ds S => match d, ds with
  | .ref n, [.ref m] => match lget S n, lget S m with
    | some xs, some ys => if small (xs.length + ys.length) then some (.non, S.set n (.lst (xs ++ ys))) else none
    | _, _ => none
  | _, _ => none
theorem m_extend : MOp K G rExtend gExtend := by
  intro α S H d ds v vs Q b S' R r rs h q
  unfold gExtend at h
  split at h
  · rename_i n m
    obtain ⟨a, rfl, ha⟩ := r.refI
    obtain ⟨w, rfl, rw'⟩ := rs.one
    obtain ⟨a2, rfl, ha2⟩ := rw'.refI
    split at h
    · rename_i xs ys e e2
      split at h
      · rename_i hs
        cases h
        obtain ⟨us, h1, h2⟩ := lget_at R ha e
        obtain ⟨ws, h3, h4⟩ := lget_at R ha2 e2
        obtain ⟨z1, z2⟩ := R.setL ha h1 (h2.append h4)
        exact ⟨a, a2, us, ws, rfl, rfl, h1, h3, by have := small_ok hs; rw [← h2.length, ← h4.length]; omega, q _ _ _ z1 z2 .non⟩
      · cases h
    · cases h
  · cases h
def gPopAt : GM := fun d ds S => match d, ds with
  | .ref n, [.int i] => match lget S n with
    | some xs => if decide (-9223372036854775808 ≤ i ∧ i < 9223372036854775808) then match seqIndex? i xs.length with
      | some k => (xs[k]?).map fun y => (y, S.set n (.lst (xs.eraseIdx k)))
      | none => none
      else none
    | none => none
  | _, _ => none
theorem m_popAt : MOp K G rPopAt gPopAt := by
  intro α S H d ds v vs Q b S' R r rs h q
  unfold gPopAt at h
  split at h
  · rename_i n i
    obtain ⟨a, rfl, ha⟩ := r.refI
    obtain ⟨w, rfl, rw'⟩ := rs.one
    cases rw'
    split at h
    · rename_i xs e
      split at h
      · rename_i hs
        have hs := of_decide_eq_true hs
        split at h
        · rename_i k ek
          obtain ⟨us, h1, h2⟩ := lget_at R ha e
          cases ey : xs[k]? with
          | none => rw [ey] at h; cases h
          | some y =>
            rw [ey] at h; cases h
            obtain ⟨u, h3, h4⟩ := h2.get ey
            obtain ⟨z1, z2⟩ := R.setL ha h1 (h2.eraseIdx k)
            exact ⟨a, us, i, k, u, rfl, rfl, h1, by omega, by omega, by rw [← h2.length]; exact ek, h3, q _ _ _ z1 z2 (h4.mono z1)⟩
        · cases h
      · cases h
    · cases h
  · cases h
def gReverse : GM := fun d ds S => match d, ds with
  | .ref n, [] => (lget S n).map fun xs => (.non, S.set n (.lst xs.reverse))
  | _, _ => none
theorem m_reverse : MOp K G rReverse gReverse := by
  intro α S H d ds v vs Q b S' R r rs h q
  unfold gReverse at h
  split at h
  · rename_i n
    obtain ⟨a, rfl, ha⟩ := r.refI
    cases rs
    cases e : lget S n with
    | none => rw [e] at h; cases h
    | some xs =>
      rw [e] at h; cases h
      obtain ⟨us, h1, h2⟩ := lget_at R ha e
      obtain ⟨z1, z2⟩ := R.setL ha h1 h2.reverse
      exact ⟨a, us, rfl, rfl, h1, q _ _ _ z1 z2 .non⟩
  · cases h
def gClear : GM := fun d ds S => match d, ds with
  | .ref n, [] => (lget S n).map fun xs => (.non, S.set n (.lst []))
  | _, _ => none
theorem m_clear : MOp K G rClear gClear := by
  intro α S H d ds v vs Q b S' R r rs h q
  unfold gClear at h
  split at h
  · rename_i n
    obtain ⟨a, rfl, ha⟩ := r.refI
    cases rs
    cases e : lget S n with
    | none => rw [e] at h; cases h
    | some xs =>
      rw [e] at h; cases h
      obtain ⟨us, h1, h2⟩ := lget_at R ha e
      obtain ⟨z1, z2⟩ := R.setL ha h1 (VRs.nil (G := G))
      exact ⟨a, us, rfl, rfl, h1, q _ _ _ z1 z2 .non⟩
  · cases h
end

/-! ### statements -/
def R.toS {β : Type} (r : R β) (φ : Fr) (k : β → Store → RS) : RS := match r with
  | .ok b S => k b S
  | .exc c S => .exc c φ S
  | .no => .no
section
variable {K : PySem.W.Frag} {G : Pm} {W : WX} {α α' : List Addr} {H H' : Hp} {σ : L2.St} {φ : Fr} {β γ : Type} {ξ : Option (Nat × Addr)}
theorem PSt.bind {rel1 : List Addr → Hp → β → γ → Prop} {Q1 : γ → Hp → Prop} {E : Ends} {k : β → Store → RS} (F : RF G α H ξ σ φ) :
    ∀ {r : R β}, PSt K G W ξ α H E (r.toS φ k) → (∀ b S1 α1 H1 c, Ext α H α1 H1 → RSt K G α1 S1 H1 → rel1 α1 H1 b c → PSt K G W ξ α1 H1 E (k b S1) → Q1 c H1) → PR K G W α H σ rel1 Q1 r
  | .ok b S1, h, hk => fun α1 H1 c e R v => hk b S1 α1 H1 c e R v (PSt.base e h)
  | .exc _ _, h, _ => fun α1 H1 e R => h α1 H1 σ e R (F.mono e)
  | .no, h, _ => h
/-- other ends -/
theorem PSt.ends {E E' : Ends} (h1 : ∀ σ H, E.nx σ H → E'.nx σ H) (h2 : ∀ v H, E.rt v H → E'.rt v H) (h3 : ∀ σ H, E.bk σ H → E'.bk σ H) (h4 : ∀ σ H, E.ct σ H → E'.ct σ H) : ∀ {r : RS}, PSt K G W ξ α H E r → PSt K G W ξ α H E' r
  | .nx _ _, h => fun a b c d e f => h1 _ _ (h a b c d e f)
  | .rt _ _, h => fun a b c d e f => h2 _ _ (h a b c d e f)
  | .bk _ _, h => fun a b c d e f => h3 _ _ (h a b c d e f)
  | .ct _ _, h => fun a b c d e f => h4 _ _ (h a b c d e f)
  | .exc _ _ _, h => h
  | .no, h => h
end
def sNext : SS := fun φ S => .nx φ S
def sSeq (a b : SS) : SS := fun φ S => match a φ S with
  | .nx φ' S' => b φ' S'
  | r => r
def sExpr (e : SE) : SS := fun φ S => (e φ S).toS φ fun _ S1 => .nx φ S1
def sRet (e : SE) : SS := fun φ S => (e φ S).toS φ fun d S1 => .rt d S1
def sRetN : SS := fun _ S => .rt .non S
def sIf (c : ST) (a b : SS) : SS := fun φ S => (c φ S).toS φ fun t S1 => if t then a φ S1 else b φ S1
def sAsg (i : Nat) (e : SE) : SS := fun φ S => (e φ S).toS φ fun d S1 => .nx (φ.set i (some d)) S1
def sAsg2 (i j : Nat) (e : SE) : SS := fun φ S => (e φ S).toS φ fun d S1 => match d with
  | .tup [x, y] => .nx ((φ.set i (some x)).set j (some y)) S1
  | _ => .no
def sRaise (c : Nat) : SS := fun φ S => .exc c φ S
section
variable {X : Cx} {G : Pm} {W : WX} {ξ : Option (Nat × Addr)} {st : Stmt} {rest : List Stmt} {f g : SS} {e c o i' : Expr} {fe fo fi : SE} {fc : ST} {pos : Pos}
theorem js_nil : JSs X G W ξ [] sNext := pssI pss_nil fun E σ H ⟨α, S, φ, R, F, h⟩ => h α H σ (Ext.refl _ _) R F
theorem seq_of {K : PySem.W.Frag} {E : Ends} {σ : L2.St} {H : Hp} (h : cS K G W ξ (sSeq f g) E σ H) : tSeq (cS K G W ξ f) (cS K G W ξ g) E σ H := by
  obtain ⟨α, S, φ, R, F, h⟩ := h
  refine ⟨α, S, φ, R, F, ?_⟩
  unfold sSeq at h
  cases e : f φ S with
  | nx φ' S' =>
    rw [e] at h
    exact fun α1 H1 σ1 e1 R1 F1 => ⟨α1, S', φ', R1, F1, PSt.base e1 h⟩
  | rt d S' => rw [e] at h; exact h
  | bk φ' S' => rw [e] at h; exact h
  | ct φ' S' => rw [e] at h; exact h
  | exc c φ' S' => rw [e] at h; exact h
  | no => rw [e] at h; exact h
theorem js_cons (h1 : JS X G W ξ st f) (h2 : JSs X G W ξ rest g) : JSs X G W ξ (st :: rest) (sSeq f g) := pssI (pss_cons h1 h2) fun _ _ _ h => seq_of h
theorem js_one (h1 : JS X G W ξ st f) : JSs X G W ξ [st] f := pss_one h1
theorem js_pass : JS X G W ξ (.Pass pos) sNext := psI ps_pass fun E σ H ⟨α, S, φ, R, F, h⟩ => h α H σ (Ext.refl _ _) R F
theorem js_expr (he : JE X G W ξ e fe) (hs : swapsWith e none pos.line X.env = pure false := by rfl) : JS X G W ξ (.Expr e pos) (sExpr fe) :=
  psI (ps_expr he hs) fun E σ H ⟨α, S, φ, R, F, h⟩ => ⟨α, S, φ, R, F, PSt.bind F h fun d S1 α1 H1 v e1 R1 r1 h1 => h1 α1 H1 σ (Ext.refl _ _) R1 (F.mono e1)⟩
theorem js_ret (he : JE X G W ξ e fe) : JS X G W ξ (.Return (some e) pos) (sRet fe) :=
  psI (ps_ret he) fun E σ H ⟨α, S, φ, R, F, h⟩ => ⟨α, S, φ, R, F, PSt.bind F h fun d S1 α1 H1 v e1 R1 r1 h1 => h1 α1 H1 v (Ext.refl _ _) R1 r1⟩
theorem js_retN : JS X G W ξ (.Return none pos) sRetN := psI ps_retN fun E σ H ⟨α, S, φ, R, F, h⟩ => h α H .non (Ext.refl _ _) R .non
theorem js_if {a b : List Stmt} (hc : JT X G W ξ c fc) (ha : JSs X G W ξ a f) (hb : JSs X G W ξ b g) : JS X G W ξ (.If c a b pos) (sIf fc f g) :=
  psI (ps_if hc ha hb) fun E σ H ⟨α, S, φ, R, F, h⟩ => ⟨α, S, φ, R, F, PSt.bind F h fun t S1 α1 H1 v e1 R1 r1 h1 => by
    obtain rfl : t = v := r1
    cases t with
    | true => exact (show cS X.K G W ξ f E σ H1 from ⟨α1, S1, φ, R1, F.mono e1, h1⟩)
    | false => exact (show cS X.K G W ξ g E σ H1 from ⟨α1, S1, φ, R1, F.mono e1, h1⟩)⟩
theorem RF.set {α : List Addr} {H : Hp} {σ : L2.St} {φ : Fr} {i : Nat} {d : D} {v : V} (F : RF G α H ξ σ φ) (r : VR G α H d v) (hx : ∀ p, ξ = some p → p.1 ≠ i) : RF G α H ξ (σ.set i (some v)) (φ.set i (some d)) := by
  refine ⟨by simp [F.len], fun j d' h => ?_, fun p hp => ?_⟩
  · by_cases e : i = j
    · subst e
      have hl : i < φ.length := by
        have := (List.getElem?_eq_some_iff.mp h).1
        simpa using this
      rw [List.getElem?_set_self hl] at h
      cases h
      exact ⟨v, by rw [List.getElem?_set_self (by rw [F.len]; exact hl)], r⟩
    · rw [List.getElem?_set_ne e] at h ⊢
      exact F.at_ j d' h
  · have ne := hx p hp
    rw [List.getElem?_set_ne (Ne.symm ne), List.getElem?_set_ne (Ne.symm ne)]
    exact F.xi p hp
theorem js_asg {i : Nat} {x : Str} {pos' : Pos} (he : JE X G W ξ e fe) (hN : X.N.Nodup) (hi : X.N[i]? = some x := by rfl) (hx : Loc X.env.scope x := by first | exact Or.inl rfl | exact Or.inr rfl) (hξ : ∀ p, ξ = some p → p.1 ≠ i := by first | exact (fun _ z => nomatch z) | (intro p hp; cases hp; decide))
    (hs : swapsWith e (some (.Name x pos')) pos.line X.env = pure false := by rfl) (hf : X.fn x = true ∨ X.env.scope.names.lookup x = some .local := by first | exact .inl rfl | exact .inr rfl | assumption) :
    JS X G W ξ (.Assign [.Name x pos'] e pos) (sAsg i fe) :=
  psI (ps_set hN hi hx he hs hf) fun E σ H ⟨α, S, φ, R, F, h⟩ => ⟨α, S, φ, R, F, PSt.bind F h fun d S1 α1 H1 v e1 R1 r1 h1 => h1 α1 H1 _ (Ext.refl _ _) R1 ((F.mono e1).set r1 hξ)⟩
theorem js_asg2 {i j : Nat} {x y : Str} {k : Nat} {px py pt : Pos} (he : JE X G W ξ e fe) (hN : X.N.Nodup) (hc : X.calm = true := by rfl) (hi : X.N[i]? = some x := by rfl) (hj : X.N[j]? = some y := by rfl) (hx : Loc X.env.scope x := by first | exact Or.inl rfl | exact Or.inr rfl) (hy : Loc X.env.scope y := by first | exact Or.inl rfl | exact Or.inr rfl)
    (hfx : X.fn x = true ∨ X.env.scope.names.lookup x = some .local := by first | exact .inl rfl | exact .inr rfl | assumption) (hfy : X.fn y = true ∨ X.env.scope.names.lookup y = some .local := by first | exact .inl rfl | exact .inr rfl | assumption)
    (hs : swapsWithSole [.Tuple [.Name x px, .Name y py] k pt] e pos.line X.env = pure false := by rfl) (hw : swappedStores [.Tuple [.Name x px, .Name y py] k pt] e X.env = pure none := by rfl)
    (h1 : (assignEach [.Tuple [.Name x px, .Name y py] k pt] X.env).map (·.2) = [assign (.Tuple [.Name x px, .Name y py] k pt) X.env] := by rfl)
    (h2 : (assignEach [.Name x px, .Name y py] X.env).map (·.2) = assign (.Name x px) X.env :: (assignEach [.Name y py] X.env).map (·.2) := by rfl) (h3 : (assignEach [.Name y py] X.env).map (·.2) = assign (.Name y py) X.env :: (assignEach [] X.env).map (·.2) := by rfl)
    (h4 : (assignEach [.Name x px, .Name y py] X.env).length = 2 := by rfl) (h5 : (assignEach [.Name x px, .Name y py] X.env).findIdx? (·.1) = none := by rfl)
    (hξi : ∀ p, ξ = some p → p.1 ≠ i := by first | exact (fun _ z => nomatch z) | (intro p hp; cases hp; decide)) (hξj : ∀ p, ξ = some p → p.1 ≠ j := by first | exact (fun _ z => nomatch z) | (intro p hp; cases hp; decide)) :
    JS X G W ξ (.Assign [.Tuple [.Name x px, .Name y py] k pt] e pos) (sAsg2 i j fe) :=
  psI (ps_asg he (pg_tup hc (pgs_cons (pg_name hN hi hx hfx) (pgs_cons (pg_name hN hj hy hfy) pgs_nil h3) h2) h4 h5) hs hw h1) fun E σ H ⟨α, S, φ, R, F, h⟩ => ⟨α, S, φ, R, F, PSt.bind F h fun d S1 α1 H1 v e1 R1 r1 h1 => by
    split at h1
    · rename_i x y
      obtain ⟨a, vs, rfl, q1, q2⟩ := r1.tupI
      obtain ⟨v1, v2, rfl, r1, r2⟩ := q2.two
      refine ⟨a, _, rfl, .inl (.inl q1), rfl, _, _, rfl, _, _, rfl, rfl, ?_⟩
      exact h1 α1 H1 _ (Ext.refl _ _) R1 (((F.mono e1).set r1 hξi).set r2 hξj)
    · exact h1.elim⟩
end
end DebtJ

set_option Elab.async false
set_option linter.all false
set_option maxRecDepth 100000
set_option maxHeartbeats 1000000
namespace DebtJ
open PySem PySem.Spec PyProof.Rows L2

/-! ### stores to fields and places -/
def putD (f : Str) (v : D) : List (Str × D) → List (Str × D)
  | [] => [(f, v)]
  | (g, x) :: r => if g = f then (g, v) :: r else (g, x) :: putD f v r
theorem putD_rel {G : Pm} {α : List Addr} {H : Hp} {f : Str} {d : D} {v : V} (r : VR G α H d v) : ∀ {fs : List (Str × D)} {vs : List (Str × V)}, FRl G α H fs vs → FRl G α H (putD f d fs) (putF f v vs)
  | _, _, .nil => .cons ⟨rfl, r⟩ .nil
  | (k, x) :: fs, (k', y) :: vs, .cons q t => by
    obtain ⟨e, q⟩ := q
    simp only at e q
    subst e
    unfold putD putF
    by_cases h : k = f
    · rw [if_pos h, if_pos h]
      exact .cons ⟨rfl, r⟩ t
    · rw [if_neg h, if_neg h]
      exact .cons ⟨rfl, q⟩ (putD_rel r t)
def fset (S : Store) (n c : Nat) (f : Str) (d : D) : Option Store := match S[n]? with
  | some (.ins c' fs) => if c' == c && decide (fs.length < 1000) then some (S.set n (.ins c (putD f d fs))) else none
  | _ => none
def sFld (c : Nat) (m : Str) (o v : SE) : SS := fun φ S => (v φ S).toS φ fun d S1 => (o φ S1).toS φ fun x S2 => match x with
  | .ref n => match fset S2 n c m d with
    | some S3 => .nx φ S3
    | none => .no
  | _ => .no
def lset (S : Store) (n : Nat) (i : Int) (d : D) : Option Store := match lget S n with
  | some xs => (ixN xs.length i).map fun j => S.set n (.lst (xs.set j d))
  | none => none
def sSub (o i v : SE) : SS := fun φ S => (v φ S).toS φ fun d S1 => (o φ S1).toS φ fun x S2 => (i φ S2).toS φ fun y S3 => match x, y with
  | .ref n, .int k => match lset S3 n k d with
    | some S4 => .nx φ S4
    | none => .no
  | _, _ => .no
theorem PSt.here {K : PySem.W.Frag} {G : Pm} {W : WX} {ξ : Option (Nat × Addr)} {α : List Addr} {H : Hp} {σ : L2.St} {φ : Fr} {S : Store} {E : Ends} (h : PSt K G W ξ α H E (.nx φ S)) (R : RSt K G α S H) (F : RF G α H ξ σ φ) : E.nx σ H := h α H σ (Ext.refl _ _) R F
section
variable {X : Cx} {G : Pm} {W : WX} {ξ : Option (Nat × Addr)} {st : Stmt} {rest : List Stmt} {f g : SS} {e o i : Expr} {fe fo fi : SE} {fc : ST} {pos pos' : Pos} {c : Nat} {m : Str}
theorem js_fld (ho : JE X G W ξ o fo) (hv : JE X G W ξ e fe) (cl : Cls X.K (G.ca c)) (na : NoAttr X.K (G.ca c) m) (hs : swapsWith e (some (.Attribute o m pos')) pos.line X.env = pure false := by rfl) : JS X G W ξ (.Assign [.Attribute o m pos'] e pos) (sFld c m fo fe) :=
  psI (ps_fld ho hv hs) fun E σ H ⟨α, S, φ, R, F, h⟩ => ⟨α, S, φ, R, F, PSt.bind F h fun d S1 α1 H1 v e1 R1 r1 h1 =>
    ⟨α1, S1, φ, R1, F.mono e1, PSt.bind (F.mono e1) h1 fun x S2 α2 H2 w e2 R2 r2 h2 => by
      split at h2
      · rename_i n
        obtain ⟨a, rfl, ha⟩ := r2.refI
        split at h2
        · rename_i S3 e3
          unfold fset at e3
          split at e3
          · rename_i c' fs e4
            split at e3
            · rename_i hc
              cases e3
              simp only [Bool.and_eq_true, beq_iff_eq, decide_eq_true_eq] at hc
              obtain ⟨rfl, hl⟩ := hc
              obtain ⟨a', q1, dx, vs, q2, q3⟩ := R2.ob n _ e4
              rw [ha] at q1; cases q1
              have er : Ext α2 H2 α2 (upd H2 a (.ins (G.ca c') dx (putF m v vs))) := RSt.extMut ⟨_, q2, rfl⟩
              refine ⟨a, _, dx, vs, rfl, q2, cl, na, by rw [← Paired.length q3]; exact hl, ?_⟩
              exact h2 α2 _ σ er (R2.set ha ⟨_, q2, rfl⟩ ⟨dx, _, upd_same, putD_rel ((r1.mono e2).mono er) (paired_mono er q3)⟩) (((F.mono e1).mono e2).mono er)
            · cases e3
          · cases e3
        · exact h2.elim
      · exact h2.elim⟩⟩
theorem js_sub (ho : JE X G W ξ o fo) (hi : JE X G W ξ i fi) (hv : JE X G W ξ e fe)
    (ha : ∀ v, assign (.Subscript o i pos') X.env v = (do
      let ov ← holding [v] (eval o X.env)
      let iv ← holding [v, ov] (eval i X.env)
      standAt pos'
      holding [v, ov, iv] (setItem ov iv v)
      release [v, ov, iv] []) := by intro _; rfl)
    (hs : swapsWithSole [.Subscript o i pos'] e pos.line X.env = pure false := by rfl) (hw : swappedStores [.Subscript o i pos'] e X.env = pure none := by rfl)
    (h1 : (assignEach [.Subscript o i pos'] X.env).map (·.2) = [assign (.Subscript o i pos') X.env] := by rfl) : JS X G W ξ (.Assign [.Subscript o i pos'] e pos) (sSub fo fi fe) :=
  psI (ps_asg hv (pg_sub ho hi set_list ha) hs hw h1) fun E σ H ⟨α, S, φ, R, F, h⟩ => ⟨α, S, φ, R, F, PSt.bind F h fun d S1 α1 H1 v e1 R1 r1 h1 =>
    ⟨α1, S1, φ, R1, F.mono e1, PSt.bind (F.mono e1) h1 fun x S2 α2 H2 w e2 R2 r2 h2 =>
    ⟨α2, S2, φ, R2, (F.mono e1).mono e2, PSt.bind ((F.mono e1).mono e2) h2 fun y S3 α3 H3 u e3 R3 r3 h3 => by
      split at h3
      · rename_i n k
        obtain ⟨a, rfl, ha⟩ := (r2.mono e3).refI
        cases r3
        split at h3
        · rename_i S4 e4
          unfold lset at e4
          split at e4
          · rename_i xs e5
            obtain ⟨us, q1, q2⟩ := lget_at R3 ha e5
            cases ej : ixN xs.length k with
            | none => rw [ej] at e4; cases e4
            | some j =>
              rw [ej] at e4; cases e4
              obtain ⟨z1, z2⟩ := R3.setL ha q1 (q2.set ((r1.mono e2).mono e3) j)
              exact ⟨a, us, k, j, rfl, rfl, q1, by rw [← q2.length]; exact ej, h3 α3 _ σ z1 z2 ((((F.mono e1).mono e2).mono e3).mono z1)⟩
          · cases e4
        · exact h3.elim
      · exact h3.elim⟩⟩⟩

/-! ### raise -/
/-- what an own exception class without own __init__ has -/
structure XC (K : PySem.W.Frag) (mg : Str → Option Value) (C : Addr) (x : Str) : Prop where
  q : PySem.W.excIn K C [.type "ValueError", .type "Exception", .type "BaseException", .type "object"] "ValueError.__new__" = true
  g : mg x = some (.ref C)
  k : PySem.W.keepIn K (.ref C) = true
  b : PySem.W.subIn K (.ref C) (.type "BaseException") = some true
  t : PySem.W.typeIn K (.ref C) = some (.type "type")
theorem js_raise {x s : Str} {j : Nat} {p p2 p3 : Pos} (T : XC X.K X.mg (G.ca c) x) (tk : Takes X W) (hc : X.calm = true := by rfl) (hg : Gl X x := by rfl) (hdb : (x == ("__debug__" : Str)) = false := by decide)
    (he : starEach [.Constant (.str s) j p2] X.env = (false, eval (.Constant (.str s) j p2) X.env) :: starEach [] X.env := by rfl) (hpl : (backTo p3 (starEach [] X.env)).any (·.1) = false := by rfl) :
    JS X G W ξ (.Raise (some (.Call (.Name x p) [.Constant (.str s) j p2] [] p3)) none pos) (sRaise c) :=
  psI (ps_raise hc tk (pmk_own PySem.F.excBase_ValueError T.q T.g T.k (raises_own T.b T.t) hg hdb)) fun E σ H ⟨α, S, φ, R, F, h⟩ => h α H σ (Ext.refl _ _) R F
end

/-! ### what a for walks -/
structure ItS where
  n : Nat
  get : Nat → Store → Option D
  fin : Store → Bool
abbrev SI := Fr → Store → R ItS
/-- the kit's iterator says what ItS says, from here on -/
def ItR (K : PySem.W.Frag) (G : Pm) (α : List Addr) (H : Hp) (J : It) (t : ItS) : Prop := ∀ α' S' H' i, Ext α H α' H' → RSt K G α' S' H' →
  (∀ d, i < t.n → t.get i S' = some d → J.go i H' ∧ ∀ x H2, J.yld i H' x H2 → H2 = H' ∧ VR G α' H' d x) ∧ (i = t.n → t.fin S' = true → J.stop i H')
def cI (K : PySem.W.Frag) (G : Pm) (W : WX) (ξ : Option (Nat × Addr)) (f : SI) : TI := fun σ H Rr => ∃ α S φ, RSt K G α S H ∧ RF G α H ξ σ φ ∧ PR K G W α H σ (fun α' H' t J => ItR K G α' H' J t) Rr (f φ S)
abbrev JI (X : Cx) (G : Pm) (W : WX) (ξ : Option (Nat × Addr)) (tg e : Expr) (f : SI) : Prop := PI X tg e (cI X.K G W ξ f)
def rgI (lo : Int) (n : Nat) : ItS := ⟨n, fun i _ => some (.int (lo + i)), fun _ => true⟩
def rgC (lo c : Int) (n : Nat) : ItS := ⟨n, fun i _ => some (.int (lo + i * c)), fun _ => true⟩
def hdI (m n : Nat) : ItS := ⟨n, fun i S => match lget S m with
  | some xs => xs[i]?
  | none => none, fun S => match lget S m with
  | some xs => decide (xs.length ≤ n)
  | none => false⟩
def tpI (xs : List D) : ItS := ⟨xs.length, fun i _ => xs[i]?, fun _ => true⟩
section
variable {X : Cx} {G : Pm} {W : WX} {ξ : Option (Nat × Addr)} {tg e a b : Expr} {es : List Expr} {fa : SA} {fe : SE} {p pos : Pos}
theorem piI {X : Cx} {tg e : Expr} {t t' : TI} (h : PI X tg e t) (i : ∀ σ H Q, t' σ H Q → t σ H Q) : PI X tg e t' := ⟨fun pins s σ H Q I q => h.run pins s σ H Q I (i σ H Q q)⟩
def smallI (i : Int) : Bool := decide (-4611686018427387904 ≤ i ∧ i < 4611686018427387904)
def iRg1 (r : SA) : SI := fun φ S => (r φ S).bind fun ds S1 => match ds with
  | [.int j] => if smallI j then .ok (rgI 0 j.toNat) S1 else .no
  | _ => .no
def iRg2 (r : SA) : SI := fun φ S => (r φ S).bind fun ds S1 => match ds with
  | [.int i, .int j] => if smallI i && smallI j then .ok (rgI i (j - i).toNat) S1 else .no
  | _ => .no
/-- range(i, j, -1) -/
def iRgD (r : SA) : SI := fun φ S => (r φ S).bind fun ds S1 => match ds with
  | [.int i, .int j, .int (-1)] => if smallI i && smallI j then .ok (rgC i (-1) (i - j).toNat) S1 else .no
  | _ => .no
theorem rg_itr {K : PySem.W.Frag} {α : List Addr} {H : Hp} (lo : Int) (n : Nat) : ItR K G α H (Itr lo n) (rgI lo n) := fun α' S' H' i e R =>
  ⟨fun d hi hd => ⟨hi, fun x H2 y => by
    obtain ⟨y1, y2⟩ := y
    subst y2
    have hd : some (D.int (lo + i)) = some d := hd
    cases hd
    exact ⟨y1, .int _⟩⟩, fun hi _ => Nat.le_of_eq hi.symm⟩
theorem ji_rg1 (hm : X.mg "range" = none) (ha : JA X G W ξ [a] fa) (hg : Gl X "range" := by rfl) (hs : starEach [a] X.env = [(false, eval a X.env)] := by rfl) : JI X G W ξ tg (.Call (.Name "range" p) [a] [] pos) (iRg1 fa) :=
  piI (pi_range1 hg hm ha hs) fun σ H Q ⟨α, S, φ, R, F, h⟩ => ⟨α, S, φ, R, F, PR.bind h fun ds S1 α1 H1 vs e1 R1 r1 h1 => by
    split at h1
    · obtain ⟨v, rfl, r2⟩ := r1.one
      cases r2
      split at h1
      · rename_i hs
        have hs := of_decide_eq_true hs
        exact ⟨_, rfl, by omega, by omega, h1 α1 H1 _ (Ext.refl _ _) R1 (rg_itr _ _)⟩
      · exact h1.elim
    · exact h1.elim⟩
theorem ji_rg2 (hm : X.mg "range" = none) (ha : JA X G W ξ [a, b] fa) (hg : Gl X "range" := by rfl) (hs : starEach [a, b] X.env = [(false, eval a X.env), (false, eval b X.env)] := by rfl) (hs2 : starEach [b] X.env = [(false, eval b X.env)] := by rfl) :
    JI X G W ξ tg (.Call (.Name "range" p) [a, b] [] pos) (iRg2 fa) :=
  piI (pi_range2 hg hm ha hs hs2) fun σ H Q ⟨α, S, φ, R, F, h⟩ => ⟨α, S, φ, R, F, PR.bind h fun ds S1 α1 H1 vs e1 R1 r1 h1 => by
    split at h1
    · obtain ⟨v, v2, rfl, r2, r3⟩ := r1.two
      cases r2; cases r3
      split at h1
      · rename_i hs
        simp only [smallI, Bool.and_eq_true, decide_eq_true_eq] at hs
        exact ⟨_, _, rfl, ⟨by omega, by omega, by omega, by omega⟩, h1 α1 H1 _ (Ext.refl _ _) R1 (rg_itr _ _)⟩
      · exact h1.elim
    · exact h1.elim⟩
/-- a list with a handle -/
def iLst (f : SE) : SI := fun φ S => (f φ S).bind fun d S1 => match d with
  | .ref m => match lget S1 m with
    | some xs => .ok (hdI m xs.length) S1
    | none => .no
  | _ => .no
theorem ji_lst (he : JE X G W ξ e fe) : JI X G W ξ tg e (iLst fe) :=
  piI (pi_list he) fun σ H Q ⟨α, S, φ, R, F, h⟩ => ⟨α, S, φ, R, F, PR.bind h fun d S1 α1 H1 v e1 R1 r1 h1 => by
    split at h1
    · rename_i m
      obtain ⟨a, rfl, ha⟩ := r1.refI
      split at h1
      · rename_i xs e2
        obtain ⟨vs, q1, q2⟩ := lget_at R1 ha e2
        refine ⟨a, rfl, ⟨vs, .inl (.inl q1)⟩, h1 α1 H1 _ (Ext.refl _ _) R1 fun α' S' H' i e R' => ?_⟩
        have ha' := e.get ha
        refine ⟨fun d hi hd => ?_, fun hi hf => ?_⟩
        · simp only [hdI] at hd
          split at hd
          · rename_i ys e3
            obtain ⟨ws, q3, q4⟩ := lget_at R' ha' e3
            obtain ⟨w, q5, q6⟩ := q4.get hd
            refine ⟨⟨ws, w, .inl (.inl q3), q5⟩, fun x H2 y => ?_⟩
            obtain ⟨y1, y2⟩ := y
            have z := y2 ws (.inl (.inl q3))
            rw [q5] at z
            cases z
            exact ⟨y1, q6⟩
          · cases hd
        · simp only [hdI] at hf hi
          split at hf
          · rename_i ys e3
            obtain ⟨ws, q3, q4⟩ := lget_at R' ha' e3
            exact ⟨ws, .inl (.inl q3), by rw [← q4.length, hi]; exact of_decide_eq_true hf⟩
          · cases hf
      · exact h1.elim
    · exact h1.elim⟩
/-- a tuple -/
def iTp (f : SE) : SI := fun φ S => (f φ S).bind fun d S1 => match d with
  | .tup xs => .ok (tpI xs) S1
  | _ => .no
theorem ji_tup (he : JE X G W ξ e fe) : JI X G W ξ tg e (iTp fe) :=
  piI (pi_tup he) fun σ H Q ⟨α, S, φ, R, F, h⟩ => ⟨α, S, φ, R, F, PR.bind h fun d S1 α1 H1 v e1 R1 r1 h1 => by
    split at h1
    · rename_i xs
      obtain ⟨a, vs, rfl, q1, q2⟩ := r1.tupI
      refine ⟨a, rfl, ⟨vs, .inl (.inl q1)⟩, h1 α1 H1 _ (Ext.refl _ _) R1 fun α' S' H' i e R' => ?_⟩
      have q1' := e.tup _ _ q1
      refine ⟨fun d hi hd => ?_, fun hi hf => ?_⟩
      · obtain ⟨w, q5, q6⟩ := q2.get (show xs[i]? = some d from hd)
        refine ⟨⟨vs, w, .inl (.inl q1'), q5⟩, fun x H2 y => ?_⟩
        obtain ⟨y1, y2⟩ := y
        have z := y2 vs (.inl (.inl q1'))
        rw [q5] at z
        cases z
        exact ⟨y1, q6.mono e⟩
      · exact ⟨vs, .inl (.inl q1'), by rw [← q2.length]; exact Nat.le_of_eq hi.symm⟩
    · exact h1.elim⟩
end
end DebtJ

set_option Elab.async false
set_option linter.all false
set_option maxRecDepth 100000
set_option maxHeartbeats 1000000
namespace DebtJ
open PySem PySem.Spec PyProof.Rows L2

/-! ### for -/
/-- m turns are left, from turn i on -/
def forS (j : Nat) (t : ItS) (body : SS) : Nat → Nat → Fr → Store → RS
  | 0, _, φ, S => if t.fin S then .nx φ S else .no
  | m + 1, i, φ, S => match t.get i S with
    | some d => match body (φ.set j (some d)) S with
      | .nx φ' S' => forS j t body m (i + 1) φ' S'
      | .ct φ' S' => forS j t body m (i + 1) φ' S'
      | .bk φ' S' => .nx φ' S'
      | r => r
    | none => .no
def sFor (j : Nat) (it : SI) (body : SS) : SS := fun φ S => (it φ S).toS φ fun t S1 => forS j t body t.n 0 φ S1
/-! ### while -/
def whS (c : ST) (body : SS) : Nat → Fr → Store → RS
  | 0, _, _ => .no
  | m + 1, φ, S => (c φ S).toS φ fun b S1 => if b then (match body φ S1 with
    | .nx φ' S' => whS c body m φ' S'
    | .ct φ' S' => whS c body m φ' S'
    | .bk φ' S' => .nx φ' S'
    | r => r) else .nx φ S1
/-! ### try -/
def isX (c : Nat) : Bool := decide (10 ≤ c ∧ c ≤ 16)
def subX (c h : Nat) : Bool := c == h || h == 10
/-- nothing is raised out of an except suite -/
def noX : RS → RS
  | .exc _ _ _ => .no
  | r => r
def tryH : List (Nat × (Nat → SS)) → Nat → Fr → Store → RS
  | [], c, φ, S => .exc c φ S
  | (h, su) :: r, c, φ, S => if subX c h then noX (su c φ S) else tryH r c φ S
def sTry (body : SS) (hs : List (Nat × (Nat → SS))) : SS := fun φ S => match body φ S with
  | .exc c φ' S' => if isX c then tryH hs c φ' S' else .no
  | r => r
section
variable {X : Cx} {G : Pm} {W : WX} {ξ : Option (Nat × Addr)} {tg e iter c : Expr} {body : List Stmt} {fb : SS} {fi : SI} {fc : ST} {pos : Pos}
theorem for_of {K : PySem.W.Frag} {E : Ends} {j : Nat} {σ : L2.St} {H : Hp} (hξ : ∀ p, ξ = some p → p.1 ≠ j) (h : cS K G W ξ (sFor j fi fb) E σ H) : tFor (cI K G W ξ fi) (gName j) (cS K G W ξ fb) E σ H := by
  obtain ⟨α, S, φ, R, F, h⟩ := h
  refine ⟨α, S, φ, R, F, PSt.bind F h fun t S1 α1 H1 J e1 R1 r1 h1 => ?_⟩
  refine ⟨fun i m σ H => ∃ α S φ, Ext α1 H1 α H ∧ RSt K G α S H ∧ RF G α H ξ σ φ ∧ i + m = t.n ∧ PSt K G W ξ α H E (forS j t fb m i φ S), ⟨t.n, α1, S1, φ, Ext.refl _ _, R1, F.mono e1, Nat.zero_add _, h1⟩, ?_⟩
  rintro i m σ2 H2 ⟨α2, S2, φ2, e2, R2, F2, hm, h2⟩
  obtain ⟨p1, p2⟩ := r1 α2 S2 H2 i e2 R2
  cases m with
  | zero =>
    simp only [forS] at h2
    split at h2
    · rename_i hf
      exact .inl ⟨p2 hm hf, h2 α2 H2 σ2 (Ext.refl _ _) R2 F2⟩
    · exact h2.elim
  | succ m =>
    simp only [forS] at h2
    split at h2
    · rename_i d hd
      obtain ⟨g1, g2⟩ := p1 d (by omega) hd
      refine .inr ⟨g1, fun σ' H' => ∃ m', m' < m + 1 ∧ ∃ α S φ, Ext α1 H1 α H' ∧ RSt K G α S H' ∧ RF G α H' ξ σ' φ ∧ (i + 1) + m' = t.n ∧ PSt K G W ξ α H' E (forS j t fb m' (i + 1) φ S), fun σ' H' n => n, fun x H3 y => ?_⟩
      obtain ⟨rfl, rx⟩ := g2 x H3 y
      show cS K G W ξ fb _ _ _
      refine ⟨α2, S2, φ2.set j (some d), R2, F2.set rx hξ, ?_⟩
      cases eb : fb (φ2.set j (some d)) S2 with
      | nx φ' S' =>
        rw [eb] at h2
        exact fun α3 H3 σ3 e3 R3 F3 => ⟨m, Nat.lt_succ_self _, α3, S', φ', e2.trans e3, R3, F3, by omega, PSt.base e3 h2⟩
      | ct φ' S' =>
        rw [eb] at h2
        exact fun α3 H3 σ3 e3 R3 F3 => ⟨m, Nat.lt_succ_self _, α3, S', φ', e2.trans e3, R3, F3, by omega, PSt.base e3 h2⟩
      | bk φ' S' => rw [eb] at h2; exact h2
      | rt d S' => rw [eb] at h2; exact h2
      | exc c φ' S' => rw [eb] at h2; exact h2
      | no => rw [eb] at h2; exact h2
    · exact h2.elim
theorem js_for {j : Nat} {x : Str} {px : Pos} (hp : PassesOwn (model X.prog X.w) X.A X.env X.xe) (hN : X.N.Nodup) (hi : JI X G W ξ (.Name x px) iter fi) (hb : JSs X G W ξ body fb) (hc : X.calm = true := by rfl) (hj : X.N[j]? = some x := by rfl) (hx : Loc X.env.scope x := by first | exact Or.inl rfl | exact Or.inr rfl)
    (hξ : ∀ p, ξ = some p → p.1 ≠ j := by first | exact (fun _ z => nomatch z) | (intro p hp; cases hp; decide)) (hf : X.fn x = true ∨ X.env.scope.names.lookup x = some .local := by first | exact .inl rfl | exact .inr rfl | assumption)
    (hs : ∀ x, foldedSetIterable iter X.env x = pure x := by intro _; rfl) : JS X G W ξ (.For (.Name x px) iter body [] pos) (sFor j fi fb) :=
  psI (ps_for hp hc hi (pg_name hN hj hx hf) hb hs) fun E σ H h => for_of hξ h
theorem js_while (n : Nat) (hp : PassesOwn (model X.prog X.w) X.A X.env X.xe) (hc : JT X G W ξ c fc) (hb : JSs X G W ξ body fb) : JS X G W ξ (.While c body [] pos) (whS fc fb n) :=
  psI (ps_while hp hc hb) fun E σ H ⟨α, S, φ, R, F, h⟩ => by
    refine ⟨fun m σ H => ∃ α S φ, RSt X.K G α S H ∧ RF G α H ξ σ φ ∧ PSt X.K G W ξ α H E (whS fc fb m φ S), ⟨n, α, S, φ, R, F, h⟩, ?_⟩
    rintro m σ2 H2 ⟨α2, S2, φ2, R2, F2, h2⟩
    cases m with
    | zero => exact h2.elim
    | succ m =>
      simp only [whS] at h2
      refine ⟨α2, S2, φ2, R2, F2, PSt.bind F2 h2 fun b S3 α3 H3 v e3 R3 r3 h3 => ?_⟩
      obtain rfl : b = v := r3
      cases b with
      | false => exact (show E.nx σ2 H3 from (show PSt X.K G W ξ α3 H3 E (.nx φ2 S3) from h3).here R3 (F2.mono e3))
      | true =>
        rw [if_pos rfl] at h3 ⊢
        refine ⟨fun σ' H' => ∃ m', m' < m + 1 ∧ ∃ α S φ, RSt X.K G α S H' ∧ RF G α H' ξ σ' φ ∧ PSt X.K G W ξ α H' E (whS fc fb m' φ S), fun σ' H' n => n, ?_⟩
        refine ⟨α3, S3, φ2, R3, F2.mono e3, ?_⟩
        cases eb : fb φ2 S3 with
        | nx φ' S' =>
          rw [eb] at h3
          exact fun α4 H4 σ4 e4 R4 F4 => ⟨m, Nat.lt_succ_self _, α4, S', φ', R4, F4, PSt.base e4 h3⟩
        | ct φ' S' =>
          rw [eb] at h3
          exact fun α4 H4 σ4 e4 R4 F4 => ⟨m, Nat.lt_succ_self _, α4, S', φ', R4, F4, PSt.base e4 h3⟩
        | bk φ' S' => rw [eb] at h3; exact h3
        | rt d S' => rw [eb] at h3; exact h3
        | exc c φ' S' => rw [eb] at h3; exact h3
        | no => rw [eb] at h3; exact h3

/-! ### try -/
/-- no exception is wished for -/
abbrev W0 : WX := fun _ _ _ _ => False
def suR (K : PySem.W.Frag) (G : Pm) (ξ : Option (Nat × Addr)) (su : Nat → SS) (cls : Value) (d : Option Addr) : TS := fun E σ H => ∃ c, cls = .ref (G.ca c) ∧ d = none ∧ isX c = true ∧ cS K G W0 ξ (su c) E σ H
/-- the facts of a clause -/
def ExmF (K : PySem.W.Frag) (G : Pm) (h : Nat) : Prop := ∀ c, isX c = true → PySem.W.exmOne K (.ref (G.ca c)) (.ref (G.ca h)) = some (subX c h)
/-- the clauses without a name -/
inductive JH (X : Cx) (G : Pm) (ξ : Option (Nat × Addr)) : List ExceptHandler → List (Nat × (Nat → SS)) → Prop
  | nil : JH X G ξ [] []
  | cons {x : Str} {h : Nat} {su : Nat → SS} {b₀ : Stmt} {suite : List Stmt} {np pos' : Pos} {hds : List ExceptHandler} {l : List (Nat × (Nat → SS))} (hc : Names X x (.ref (G.ca h))) (ef : ExmF X.K G h)
      (hsu : ∀ (a : Addr) (oe : Obj) (pn : List (Addr × Obj)) (c : Nat), isX c = true → Zc (.ref (G.ca c)) none oe → (∃ vs, oe.data = .fields vs) → JSs (X.suite a ((a, oe) :: pn)) G W0 ξ (b₀ :: suite) (su c)) (r : JH X G ξ hds l) :
      JH X G ξ (.ExceptHandler (some (.Name x np)) none (b₀ :: suite) pos' :: hds) ((h, su) :: l)
def suL (K : PySem.W.Frag) (G : Pm) (ξ : Option (Nat × Addr)) (l : List (Nat × (Nat → SS))) : List (Value × (Addr → Value → Option Addr → TS)) := l.map fun p => (.ref (G.ca p.1), fun _ cls d => suR K G ξ p.2 cls d)
theorem suR_run {a : Addr} {oe : Obj} {pn : List (Addr × Obj)} {cls : Value} {d : Option Addr} {sts : List Stmt} {su : Nat → SS} (hz : Zc cls d oe) (hf : ∃ vs, oe.data = .fields vs)
    (hsu : ∀ (a : Addr) (oe : Obj) (pn : List (Addr × Obj)) (c : Nat), isX c = true → Zc (.ref (G.ca c)) none oe → (∃ vs, oe.data = .fields vs) → JSs (X.suite a ((a, oe) :: pn)) G W0 ξ sts (su c)) : PSs (X.suite a ((a, oe) :: pn)) sts (suR X.K G ξ su cls d) :=
  ⟨fun pins s σ H D I ⟨c, e1, e2, hx, h⟩ => by
    subst e1 e2
    exact (hsu a oe pn c hx hz hf).run pins s σ H D I h⟩
theorem JH.hds : ∀ {hs : List ExceptHandler} {l : List (Nat × (Nat → SS))}, JH X G ξ hs l → HdsOk X hs (suL X.K G ξ l)
  | _, _, .nil => .nil
  | _, _, .cons hc ef hsu r => .cons hc (fun a oe cls d pn hz hf => suR_run hz hf hsu) (JH.hds r)
theorem JH.exm : ∀ {hs : List ExceptHandler} {l : List (Nat × (Nat → SS))}, JH X G ξ hs l → ∀ p ∈ l, ExmF X.K G p.1
  | _, _, .nil, _, h => by cases h
  | _, _, .cons hc ef hsu r, p, h => by
    rcases List.mem_cons.mp h with rfl | h
    · exact ef
    · exact JH.exm r p h
theorem noX_of {K : PySem.W.Frag} {E : Ends} {α : List Addr} {H : Hp} : ∀ {r : RS}, PSt K G W ξ α H E (noX r) → PSt K G W0 ξ α H E r
  | .nx _ _, h => h
  | .rt _ _, h => h
  | .bk _ _, h => h
  | .ct _ _, h => h
  | .exc _ _ _, h => h.elim
  | .no, h => h
theorem wMany_of {K : PySem.W.Frag} {E : Ends} {c : Nat} (hx : isX c = true) {α : List Addr} {H : Hp} {σ : L2.St} {φ : Fr} {S : Store} (R : RSt K G α S H) (F : RF G α H ξ σ φ) : ∀ {l : List (Nat × (Nat → SS))}, (∀ p ∈ l, ExmF K G p.1) →
    PSt K G W ξ α H E (tryH l c φ S) → wMany K W E (suL K G ξ l) (.ref (G.ca c)) none σ H
  | [], _, h => h α H σ (Ext.refl _ _) R F
  | (h0, su) :: r, hp, h => by
    unfold tryH at h
    refine ⟨subX c h0, hp (h0, su) List.mem_cons_self c hx, fun e a _ => ⟨c, rfl, rfl, hx, α, S, φ, R, F, ?_⟩, fun e => ?_⟩
    · rw [e, if_pos rfl] at h
      exact noX_of h
    · rw [e, if_neg Bool.false_ne_true] at h
      exact wMany_of hx R F (fun p hm => hp p (List.mem_cons_of_mem _ hm)) h
/-- try with clauses without a name -/
theorem js_try {h₀ : ExceptHandler} {hds : List ExceptHandler} {l : List (Nat × (Nat → SS))} (tk : Takes X W)
    (hb : ∀ (W' : WX) (pn : List (Addr × Obj)) (xe : Value → Shared → Prop), Takes (X.tr pn xe) W' → PassesOwn (model X.prog X.w) X.A X.env xe → JSs (X.tr pn xe) G W' ξ body fb) (hh : JH X G ξ (h₀ :: hds) l)
    (hs : X.stack = X.env :: X.outer := by rfl) (hf : X.env.frame = some X.env.locals := by rfl) : JS X G W ξ (.Try body (h₀ :: hds) [] [] pos) (sTry fb l) :=
  psI (ps_try_many (tb := fun W' => cS X.K G W' ξ fb) hs hf tk hb hh.hds) fun E σ H ⟨α, S, φ, R, F, h⟩ => by
    refine ⟨α, S, φ, R, F, ?_⟩
    unfold sTry at h
    cases eb : fb φ S with
    | exc c φ' S' =>
      rw [eb] at h
      simp only at h
      split at h
      · rename_i hx
        exact fun α1 H1 σ1 e1 R1 F1 => wMany_of hx R1 F1 hh.exm (PSt.base e1 h)
      · exact h.elim
    | nx φ' S' => rw [eb] at h; exact h
    | rt φ' S' => rw [eb] at h; exact h
    | bk φ' S' => rw [eb] at h; exact h
    | ct φ' S' => rw [eb] at h; exact h
    | no => rw [eb] at h; exact h
/-- try: .. except X as n: suite. While the suite runs slot i holds the exception -/
def sTryAs (i : Nat) (body : SS) (h : Nat) (su : Nat → SS) : SS := fun φ S => match body φ S with
  | .exc c φ' S' => if isX c && decide (i < φ'.length) then (if subX c h then (match su c (φ'.set i none) S' with
    | .exc _ _ _ => .no
    | .nx φ2 S2 => .nx (φ2.set i none) S2
    | .bk φ2 S2 => .bk (φ2.set i none) S2
    | .ct φ2 S2 => .ct (φ2.set i none) S2
    | r => r) else .exc c φ' S') else .no
  | r => r
def suRx (K : PySem.W.Frag) (G : Pm) (i : Nat) (su : Nat → SS) (a : Addr) (cls : Value) (d : Option Addr) : TS := fun E σ H => ∃ c, cls = .ref (G.ca c) ∧ d = none ∧ isX c = true ∧ cS K G W0 (some (i, a)) (su c) E σ H
theorem RF.unset {α : List Addr} {H : Hp} {σ : L2.St} {φ : Fr} {i : Nat} {ξ' : Option (Nat × Addr)} (F : RF G α H ξ' σ φ) : RF G α H none (σ.set i none) (φ.set i none) := by
  refine ⟨by simp [F.len], fun j d' h => ?_, fun p hp => nomatch hp⟩
  by_cases e : i = j
  · subst e
    by_cases hl : i < φ.length
    · rw [List.getElem?_set_self hl] at h
      cases h
    · rw [List.getElem?_eq_none (by simpa using hl)] at h
      cases h
  · rw [List.getElem?_set_ne e] at h ⊢
    exact F.at_ j d' h
theorem RF.setX {α : List Addr} {H : Hp} {σ : L2.St} {φ : Fr} {i : Nat} {a : Addr} (F : RF G α H none σ φ) (hi : i < φ.length) : RF G α H (some (i, a)) (σ.set i (some (.ref a))) (φ.set i none) := by
  refine ⟨by simp [F.len], fun j d' h => ?_, fun p hp => ?_⟩
  · by_cases e : i = j
    · subst e
      rw [List.getElem?_set_self hi] at h
      cases h
    · rw [List.getElem?_set_ne e] at h ⊢
      exact F.at_ j d' h
  · cases hp
    exact ⟨by rw [List.getElem?_set_self (by rw [F.len]; exact hi)], by rw [List.getElem?_set_self hi]⟩
theorem js_try_as {x n : Str} {i h : Nat} {su : Nat → SS} {b₀ : Stmt} {suite : List Stmt} {np pos' : Pos} (tk : Takes X W) (hN : X.N.Nodup) (hc : Names X x (.ref (G.ca h))) (ef : ExmF X.K G h)
    (hb : ∀ (W' : WX) (pn : List (Addr × Obj)) (xe : Value → Shared → Prop), Takes (X.tr pn xe) W' → PassesOwn (model X.prog X.w) X.A X.env xe → JSs (X.tr pn xe) G W' none body fb)
    (hsu : ∀ (a : Addr) (oe : Obj) (pn : List (Addr × Obj)) (c : Nat), isX c = true → Zc (.ref (G.ca c)) none oe → (∃ vs, oe.data = .fields vs) → JSs (X.suite a ((a, oe) :: pn)) G W0 (some (i, a)) (b₀ :: suite) (su c))
    (hi : X.N[i]? = some n := by rfl) (hln : X.env.kindOf n = some .local := by rfl)
    (hs : X.stack = X.env :: X.outer := by rfl) (hf : X.env.frame = some X.env.locals := by rfl) : JS X G W none (.Try body [.ExceptHandler (some (.Name x np)) (some n) (b₀ :: suite) pos'] [] [] pos) (sTryAs i fb h su) :=
  psI (ps_try_as (tb := fun W' => cS X.K G W' none fb) (ts := fun a cls d => suRx X.K G i su a cls d) hs hf hN hi hln hc tk hb (fun a oe cls d pn hz hf => ⟨fun pins s σ H D I ⟨c, e1, e2, hx, h⟩ => by
    subst e1 e2
    exact (hsu a oe pn c hx hz hf).run pins s σ H D I h⟩)) fun E σ H ⟨α, S, φ, R, F, hw⟩ => by
    refine ⟨α, S, φ, R, F, ?_⟩
    unfold sTryAs at hw
    cases eb : fb φ S with
    | exc c φ' S' =>
      rw [eb] at hw
      simp only at hw
      split at hw
      · rename_i hx
        simp only [Bool.and_eq_true, decide_eq_true_eq] at hx
        obtain ⟨hx, hlen⟩ := hx
        refine fun α1 H1 σ1 e1 R1 F1 => ⟨subX c h, ef c hx, fun es a na => ⟨c, rfl, rfl, hx, α1, S', φ'.set i none, R1, F1.setX hlen, ?_⟩, fun es => ?_⟩
        · rw [es, if_pos rfl] at hw
          cases e2 : su c (φ'.set i none) S' with
          | nx φ2 S2 => rw [e2] at hw; exact fun α2 H2 σ2 e3 R2 F2 => PSt.base e1 hw α2 H2 _ e3 R2 F2.unset
          | bk φ2 S2 => rw [e2] at hw; exact fun α2 H2 σ2 e3 R2 F2 => PSt.base e1 hw α2 H2 _ e3 R2 F2.unset
          | ct φ2 S2 => rw [e2] at hw; exact fun α2 H2 σ2 e3 R2 F2 => PSt.base e1 hw α2 H2 _ e3 R2 F2.unset
          | rt d S2 => rw [e2] at hw; exact PSt.base e1 hw
          | exc c2 φ2 S2 => rw [e2] at hw; exact hw.elim
          | no => rw [e2] at hw; exact hw.elim
        · rw [es, if_neg Bool.false_ne_true] at hw
          exact PSt.base e1 hw α1 H1 σ1 (Ext.refl _ _) R1 F1
      · exact hw.elim
    | nx φ' S' => rw [eb] at hw; exact hw
    | rt φ' S' => rw [eb] at hw; exact hw
    | bk φ' S' => rw [eb] at hw; exact hw
    | ct φ' S' => rw [eb] at hw; exact hw
    | no => rw [eb] at hw; exact hw
end
end DebtJ

set_option Elab.async false
set_option linter.all false
set_option maxRecDepth 100000
set_option maxHeartbeats 1000000
namespace DebtJ
open PySem PySem.Spec PyProof.Rows L2

/-! ### list comprehensions -/
def lcS (j n : Nat) (t : ItS) (tst : ST) (elt : SE) : Nat → Nat → Fr → Store → Option Store
  | 0, _, _, S => if t.fin S then some S else none
  | m + 1, i, φ, S => match t.get i S with
    | some d => match tst (φ.set j (some d)) S with
      | .ok true S1 => match elt (φ.set j (some d)) S1 with
        | .ok y S2 => match lget S2 n with
          | some acc => if small (acc.length + 1) then lcS j n t tst elt m (i + 1) φ (S2.set n (.lst (acc ++ [y]))) else none
          | none => none
        | _ => none
      | .ok false S1 => lcS j n t tst elt m (i + 1) φ S1
      | _ => none
    | none => none
def tYes' : ST := fun _ S => .ok true S
def eLc (j : Nat) (it : SI) (tst : ST) (elt : SE) : SE := fun φ S => (it φ S).bind fun t S1 => match lcS j S1.length t tst elt t.n 0 (φ.set j none) (S1 ++ [.lst []]) with
  | some S2 => .ok (.ref S1.length) S2
  | none => .no
abbrev JTs (X : Cx) (G : Pm) (W : WX) (ξ : Option (Nat × Addr)) (es : List Expr) (f : ST) : Prop := PTs X es (cT X.K G W ξ f)
section
variable {X : Cx} {G : Pm} {W : WX} {fi : SI} {tst : ST} {fe : SE} {K : PySem.W.Frag}
theorem jts_nil {ξ : Option (Nat × Addr)} : JTs X G W ξ [] tYes' := ⟨fun pins s σ H Q I ⟨α, S, φ, R, F, h⟩ => pts_nil.run pins s σ H Q I (h α H true (Ext.refl _ _) R rfl)⟩
theorem jts_one {ξ : Option (Nat × Addr)} {c : Expr} (h : JT X G W ξ c tst) : JTs X G W ξ [c] tst := pts_one h
theorem RF.wipe {α : List Addr} {H : Hp} {σ : L2.St} {φ : Fr} {j : Nat} (F : RF G α H none σ φ) : RF G α H none (L2.wipe σ [j]) (φ.set j none) := F.unset
theorem lc_of {j : Nat} {σ : L2.St} {H : Hp} {Q : VK} (h : cE K G W none (eLc j fi tst fe) σ H Q) : tLc (cI K G W none fi) (gName j) (cT K G W0 none tst) (cE K G W0 none fe) [j] σ H Q := by
  obtain ⟨α, S, φ, R, F, h⟩ := h
  refine ⟨α, S, φ, R, F, PR.bind h fun t S1 α1 H1 J e1 R1 r1 h1 => fun Da hD => ?_⟩
  have R2 : RSt K G (α1 ++ [Da]) (S1 ++ [.lst []]) (upd H1 Da (.lst [])) := R1.app hD ⟨[], upd_same, .nil⟩
  have e2 : Ext α1 H1 (α1 ++ [Da]) (upd H1 Da (.lst [])) := Ext.app hD
  have hα : (α1 ++ [Da])[S1.length]? = some Da := by rw [← R1.len]; simp
  -- Q from the end
  cases el : lcS j S1.length t tst fe t.n 0 (φ.set j none) (S1 ++ [.lst []]) with
  | none => rw [el] at h1; exact h1.elim
  | some Sf =>
    rw [el] at h1
    have hq : ∀ α' H' c, Ext α1 H1 α' H' → RSt K G α' Sf H' → VR G α' H' (.ref S1.length) c → Q c H' := h1
    refine ⟨fun i m H => ∃ α S, Ext (α1 ++ [Da]) (upd H1 Da (.lst [])) α H ∧ RSt K G α S H ∧ i + m = t.n ∧ lcS j S1.length t tst fe m i (φ.set j none) S = some Sf, ⟨t.n, _, _, Ext.refl _ _, R2, Nat.zero_add _, el⟩, ?_⟩
    rintro i m H3 ⟨α3, S3, e3, R3, hm, h3⟩
    have F3 : RF G α3 H3 none (L2.wipe σ [j]) (φ.set j none) := (((F.mono e1).mono e2).mono e3).wipe
    obtain ⟨p1, p2⟩ := r1 α3 S3 H3 i (e2.trans e3) R3
    cases m with
    | zero =>
      simp only [lcS] at h3
      split at h3
      · rename_i hf
        cases h3
        exact .inl ⟨p2 hm hf, hq _ _ _ (e2.trans e3) R3 (.ref (e3.get hα))⟩
      · cases h3
    | succ m =>
      simp only [lcS] at h3
      split at h3
      · rename_i d hd
        obtain ⟨g1, g2⟩ := p1 d (by omega) hd
        refine .inr ⟨g1, fun H' => ∃ m', m' < m + 1 ∧ ∃ α S, Ext (α1 ++ [Da]) (upd H1 Da (.lst [])) α H' ∧ RSt K G α S H' ∧ (i + 1) + m' = t.n ∧ lcS j S1.length t tst fe m' (i + 1) (φ.set j none) S = some Sf, fun H' n => n, fun x H4 y => ?_⟩
        obtain ⟨rfl, rx⟩ := g2 x H4 y
        have F4 : RF G α3 H4 none ((L2.wipe σ [j]).set j (some x)) ((φ.set j none).set j (some d)) := F3.set rx (fun _ z => nomatch z)
        refine ⟨by show ((σ.set j none).set j (some x)).set j none = σ.set j none; rw [List.set_set, List.set_set], ?_⟩
        refine ⟨α3, S3, _, R3, F4, ?_⟩
        cases et : tst ((φ.set j none).set j (some d)) S3 with
        | exc c S4 => rw [et] at h3; cases h3
        | no => rw [et] at h3; cases h3
        | ok b S4 =>
          rw [et] at h3
          intro α4 H5 b' e4 R4 hb
          obtain rfl : b = b' := hb
          cases b with
          | false => exact ⟨m, Nat.lt_succ_self _, α4, S4, e3.trans e4, R4, by omega, h3⟩
          | true =>
            rw [if_pos rfl]
            refine ⟨α4, S4, _, R4, F4.mono e4, ?_⟩
            simp only at h3
            cases ee : fe ((φ.set j none).set j (some d)) S4 with
            | exc c S5 => rw [ee] at h3; cases h3
            | no => rw [ee] at h3; cases h3
            | ok yv S5 =>
              rw [ee] at h3
              intro α5 H6 y5 e5 R5 r5
              simp only at h3
              split at h3
              · rename_i acc ea
                split at h3
                · rename_i hs
                  have hα5 := ((e3.trans e4).trans e5).get hα
                  obtain ⟨vs, q1, q2⟩ := lget_at R5 hα5 ea
                  obtain ⟨z1, z2⟩ := R5.setL hα5 q1 (q2.append (.cons r5 .nil))
                  exact ⟨vs, q1, by have := small_ok hs; rw [← q2.length]; omega, m, Nat.lt_succ_self _, α5, _, ((e3.trans e4).trans e5).trans z1, z2, by omega, h3⟩
                · cases h3
              · cases h3
      · cases h3
variable {elt iter : Expr} {ifs : List Expr} {scope : Scope} {pos px spos py : Pos} {j : Nat} {x : Str}
theorem je_lc (hN : X.N.Nodup) (hi : JI X G W none (.Name x px) iter fi) (ok : BlkOk X.N X.env.scope scope [(x, j)])
    (hg : ∀ (s : Shared) (H : Hp) (C : Addr) (cl : List (Str × Addr)) (fp : List Addr), PG (X.blk s H scope (compEnvC scope cl C X.env) fp) (.Name x px) (gName j))
    (ht : ∀ (s : Shared) (H : Hp) (C : Addr) (cl : List (Str × Addr)) (fp : List Addr), JTs (X.blk s H scope (compEnvC scope cl C X.env) fp) G W0 none ifs tst)
    (he : ∀ (s : Shared) (H : Hp) (C : Addr) (cl : List (Str × Addr)) (fp : List Addr), JE (X.blk s H scope (compEnvC scope cl C X.env) fp) G W0 none elt fe)
    (hc : X.calm = true := by rfl) (hs : ∀ x, foldedSetIterable iter X.env x = pure x := by intro _; rfl) : JE X G W none (.ListComp elt [⟨.Name x px, iter, ifs, 0⟩] scope pos) (eLc j fi tst fe) :=
  peI (pe_lc (own := [(x, j)]) hc hN hi ok hg ht he hs) fun _ _ _ h => lc_of h
theorem js_setLc {i : Nat} {y : Str} (hN : X.N.Nodup) (hi : JI X G W none (.Name x px) iter fi) (ok : BlkOk X.N X.env.scope scope [(x, j)])
    (hg : ∀ (s : Shared) (H : Hp) (C : Addr) (cl : List (Str × Addr)) (fp : List Addr), PG (X.blk s H scope (compEnvC scope cl C X.env) fp) (.Name x px) (gName j))
    (ht : ∀ (s : Shared) (H : Hp) (C : Addr) (cl : List (Str × Addr)) (fp : List Addr), JTs (X.blk s H scope (compEnvC scope cl C X.env) fp) G W0 none ifs tst)
    (he : ∀ (s : Shared) (H : Hp) (C : Addr) (cl : List (Str × Addr)) (fp : List Addr), JE (X.blk s H scope (compEnvC scope cl C X.env) fp) G W0 none elt fe)
    (hsw : swapsWith (.ListComp elt [⟨.Name x px, iter, ifs, 0⟩] scope pos) (some (.Name y py)) spos.line X.env = pure true)
    (hc : X.calm = true := by rfl) (hy : X.N[i]? = some y := by rfl) (hyl : X.env.scope.names.lookup y = some .local := by rfl) (hs : ∀ x, foldedSetIterable iter X.env x = pure x := by intro _; rfl) :
    JS X G W none (.Assign [.Name y py] (.ListComp elt [⟨.Name x px, iter, ifs, 0⟩] scope pos) spos) (sAsg i (eLc j fi tst fe)) :=
  psI (ps_setLc (own := [(x, j)]) hc hN hy hyl hsw hi ok hg ht he hs) fun E σ H ⟨α, S, φ, R, F, h⟩ => by
    show tLc _ _ _ _ _ σ H (fun x H1 => gName i x σ H1 E.nx)
    exact lc_of ⟨α, S, φ, R, F, PSt.bind F h fun d S1 α1 H1 v e1 R1 r1 h1 => h1 α1 H1 _ (Ext.refl _ _) R1 ((F.mono e1).set r1 fun _ z => nomatch z)⟩
end

/-! ### a def by its body -/
def finS : RS → R D
  | .nx _ S => .ok .non S
  | .rt d S => .ok d S
  | .exc c _ S => .exc c S
  | _ => .no
def mkF (n m : Nat) (fb : SS) : SF := fun ds S => if ds.length = n then finS (fb (ds.map some ++ List.replicate (m - n) none) S) else .no
section
variable {P : Program} {w : World} {K : PySem.W.Frag} {mg : Str → Option Value} {base : Heap} {G : Pm}
theorem RF.start {α : List Addr} {H : Hp} {ds : List D} {vs : List V} {N : List Str} (r : VRs G α H ds vs) (n : Nat) (hn : vs.length = n) : RF G α H none (L2.start N vs) (ds.map some ++ List.replicate (N.length - n) none) := by
  refine ⟨by unfold L2.start; simp [r.length, hn], fun i d h => ?_, fun p hp => nomatch hp⟩
  by_cases hi : i < ds.length
  · rw [List.getElem?_append_left (by simpa using hi), List.getElem?_map] at h
    cases e : ds[i]? with
    | none => rw [e] at h; cases h
    | some d' =>
      rw [e] at h
      cases h
      obtain ⟨v, h1, h2⟩ := r.get e
      refine ⟨v, ?_, h2⟩
      unfold L2.start
      rw [List.getElem?_append_left (by simpa [← r.length] using hi), List.getElem?_map, h1]
      rfl
  · rw [List.getElem?_append_right (by simpa using hi)] at h
    rw [List.getElem?_replicate] at h
    split at h <;> cases h
theorem fin_of {α : List Addr} {H : Hp} {Q : VK} {E : XK} : ∀ {r : RS}, PR K G (fun c d _ H' => E c d H') α H [] (vrel G) Q (finS r) → PSt K G (fun c d _ H' => E c d H') none α H { nx := fun _ H' => Q .non H', rt := Q } r
  | .nx _ _, h => fun α' H' _ e R _ => h α' H' _ e R .non
  | .rt _ _, h => h
  | .exc _ _ _, h => fun α' H' _ e R _ => h α' H' e R
  | .bk _ _, h => h.elim
  | .ct _ _, h => h.elim
  | .no, h => h.elim
theorem fj_of {x qual : Str} {st : Stmt} {f : Addr} {fd : FuncData} {N ps : List Str} {k : Nat} {fb : SS} (F : Fun K x qual st f fd) (Sc : FnScope N ps (defScope st))
    (hb : ∀ (kV doc pm : Value) (an : Option Addr) (cdv ct : Value) (us : List Value), us.length = ps.length → bindArgs (PySem.W.fnOf x qual (defArgs st) (defBody st) (defScope st) .none kV doc pm an cdv ct) ⟨us, []⟩ = pure (ps.zip us))
    (body : ∀ (cdv : Value) (A : Around) (outer : List Env) (s : Shared) (H : Hp) (E : XK), Room k (A.deeper (envOfC qual (defScope st) s.heap.objs.size f cdv)) →
      JSs (cxOf (L2.CX P w) P w K mg base N qual (defScope st) f cdv A outer s H E) G (fun c d _ H' => E c d H') none (defBody st) fb) : FJ P w K mg base G (k + 1) f fd ps (mkF ps.length N.length fb) := by
  refine ⟨F.okX Sc (fun vs H Q E h => h.1) (fun cdv A outer s H vs Q E hr h => ⟨_, body cdv A outer s H E hr, ?_⟩), fun ds S e => if_neg e, F.binds hb, F.kp⟩
  obtain ⟨hl, α, S, ds, R, r, q⟩ := h
  refine ⟨α, S, _, R, RF.start r ps.length hl, fin_of ?_⟩
  unfold mkF at q
  rw [if_pos (by rw [r.length]; exact hl)] at q
  exact q
end
end DebtJ

set_option Elab.async false
set_option linter.all false
set_option maxRecDepth 100000
set_option maxHeartbeats 1000000
namespace DebtJ
open PySem PySem.Spec PyProof.Rows L2

/-! ### isinstance of the exception that is handled -/
/-- isinstance(e, (A, B, ..)) -/
def rIsET (K : PySem.W.Frag) (Dc a : Addr) : List V → Hp → VK → Prop := fun xs H Q => ∃ (tp : Addr) (cs : List V) (us : List Value) (b : Bool), xs = [.ref a, .ref tp] ∧ H tp = some (.tup cs) ∧ Paired ClsV cs us ∧ PySem.W.kitAny K (.ref Dc) us = some b ∧ Q (.bl b) H
theorem call_isET {X : Cx} {a Dc : Addr} {oe : Obj} {pn : List (Addr × Obj)} (C : ExcC X.K Dc) (hz : Zc (.ref Dc) none oe) (hf : ∃ vs, oe.data = .fields vs) : CallR (X.suite a ((a, oe) :: pn)) (.builtin "isinstance") (rIsET X.K Dc a) := by
  intro pins s σ H xs us Q I r h
  obtain ⟨tp, cs, ws, b, rfl, hT, k, e, q⟩ := h
  obtain ⟨u1, u2, rfl, r1, r2⟩ := vals2 r
  cases (show u2 = Value.ref tp from r2)
  cases (show u1 = Value.ref a from r1)
  obtain ⟨hget, _⟩ := I.pin (a, oe) (List.mem_append.mpr (.inl List.mem_cons_self))
  obtain ⟨vs, hv⟩ := hf
  have J : PySem.W.InstAt s.heap a oe Dc none := by
    obtain ⟨oc, od, oda, osl⟩ := oe
    obtain ⟨h1, h2⟩ := hz
    dsimp only at h1 h2 hv
    subst h1 h2 hv
    exact ⟨hget, rfl, rfl, trivial⟩
  obtain ⟨_, its, rv, o, h1, h2, n, h3⟩ := (show ObjOk X.prog X.w H s.heap tp (.tup cs) from I.hok tp _ hT)
  have e3 := ClsV.all k rv
  subst e3
  obtain ⟨oc, od, dt, sl⟩ := o
  simp only at h2 h3
  subst h2 h3
  exact PySem.W.kia_tup (PySem.W.handS_kitx_exc C.hg C.hk C.hs C.hd C.ha C.hn C.ht C.hm) I.kIn J h1 e (fun z => nomatch z) fun tk => ⟨.bl b, H, I.kept (t' := tk) fun _ _ z => z, rfl, q⟩
/-- the answers of isinstance for own exception classes -/
def KitF (K : PySem.W.Frag) (G : Pm) (h : Nat) : Prop := ∀ c, isX c = true → PySem.W.kitOne K (.ref (G.ca c)) (.ref (G.ca h)) = some (subX c h)
def KitB (K : PySem.W.Frag) (G : Pm) (T : String) : Prop := ∀ c, isX c = true → PySem.W.kitOne K (.ref (G.ca c)) (.type T) = some true
section
variable {X : Cx} {G : Pm} {W : WX} {i c h : Nat} {a : Addr} {oe : Obj} {pn : List (Addr × Obj)} {n y : Str} {p p1 p2 p3 pos : Pos}
theorem je_isx (hx : isX c = true) (C : ExcC X.K (G.ca c)) (hz : Zc (.ref (G.ca c)) none oe) (hf : ∃ vs, oe.data = .fields vs) (kf : KitF X.K G h) (hmT : X.mg y = some (.ref (G.ca h))) (hm : X.mg "isinstance" = none)
    (hN : X.N[i]? = some n := by rfl) (hv : Vis X.env.scope n := by first | exact Or.inl rfl | exact Or.inr (Or.inl rfl) | exact Or.inr (Or.inr rfl)) (hd : (n == ("__debug__" : Str)) = false := by decide) (hcd : (n == ("__classdict__" : Str)) = false := by decide)
    (hg : Gl X "isinstance" := by rfl) (hgT : Gl X y := by rfl) (hdb : (y == ("__debug__" : Str)) = false := by decide)
    (h1 : starEach [.Name n p1, .Name y p2] X.env = (false, eval (.Name n p1) X.env) :: starEach [.Name y p2] X.env := by rfl) (h2 : starEach [.Name y p2] X.env = (false, eval (.Name y p2) X.env) :: starEach [] X.env := by rfl)
    (hpl : (backTo pos (starEach [.Name y p2] X.env)).any (·.1) = false := by rfl) : JE (X.suite a ((a, oe) :: pn)) G W (some (i, a)) (.Call (.Name "isinstance" p) [.Name n p1, .Name y p2] [] pos) (eC (.bl (subX c h))) :=
  peI (pe_callB (X := X.suite a ((a, oe) :: pn)) (call_isE C hz hf) hg hm (by decide +kernel) (pa_cons (pe_var (i := i) hN hv hd hcd) (pa_cons (pe_glob (v := .ref (G.ca h)) hgT hmT rfl hdb) pa_nil h2) h1) (by decide) (by decide) h1 hpl) fun σ H Q ⟨α, S, φ, R, F, q⟩ =>
    ⟨.ref a, (F.xi _ rfl).1, .ref (G.ca h), .ref (G.ca h), subX c h, rfl, fun u z => z, kf c hx, q α H _ (Ext.refl _ _) R (.bl _)⟩
theorem je_isxB {T : String} (hx : isX c = true) (C : ExcC X.K (G.ca c)) (hz : Zc (.ref (G.ca c)) none oe) (hf : ∃ vs, oe.data = .fields vs) (kf : KitB X.K G T) (hmT : X.mg y = none) (hm : X.mg "isinstance" = none)
    (hN : X.N[i]? = some n := by rfl) (hv : Vis X.env.scope n := by first | exact Or.inl rfl | exact Or.inr (Or.inl rfl) | exact Or.inr (Or.inr rfl)) (hd : (n == ("__debug__" : Str)) = false := by decide) (hcd : (n == ("__classdict__" : Str)) = false := by decide)
    (hg : Gl X "isinstance" := by rfl) (hgT : Gl X y := by rfl) (hvT : bootBuiltins y = some (.type T) := by decide +kernel) (hn : y ≠ "__name__" := by decide) (hdb : (y == ("__debug__" : Str)) = false := by decide)
    (h1 : starEach [.Name n p1, .Name y p2] X.env = (false, eval (.Name n p1) X.env) :: starEach [.Name y p2] X.env := by rfl) (h2 : starEach [.Name y p2] X.env = (false, eval (.Name y p2) X.env) :: starEach [] X.env := by rfl)
    (hpl : (backTo pos (starEach [.Name y p2] X.env)).any (·.1) = false := by rfl) : JE (X.suite a ((a, oe) :: pn)) G W (some (i, a)) (.Call (.Name "isinstance" p) [.Name n p1, .Name y p2] [] pos) (eC (.bl true)) :=
  peI (pe_callB (X := X.suite a ((a, oe) :: pn)) (call_isE C hz hf) hg hm (by decide +kernel) (pa_cons (pe_var (i := i) hN hv hd hcd) (pa_cons (pe_bltn (v := .ty T) hgT hmT hvT rfl hn hdb) pa_nil h2) h1) (by decide) (by decide) h1 hpl) fun σ H Q ⟨α, S, φ, R, F, q⟩ =>
    ⟨.ref a, (F.xi _ rfl).1, .ty T, .type T, true, rfl, fun u z => z, kf c hx, q α H _ (Ext.refl _ _) R (.bl _)⟩
/-- the classes of a written tuple -/
inductive TCl (X : Cx) (G : Pm) : List Expr → List Nat → Prop
  | nil : TCl X G [] []
  | cons {y : Str} {p2 : Pos} {h : Nat} {es : List Expr} {hs : List Nat} (hg : Gl X y) (hm : X.mg y = some (.ref (G.ca h))) (kf : KitF X.K G h) (hdb : (y == ("__debug__" : Str)) = false) (h2 : starEach (.Name y p2 :: es) X.env = (false, eval (.Name y p2) X.env) :: starEach es X.env) (r : TCl X G es hs) : TCl X G (.Name y p2 :: es) (h :: hs)
def tRefs : List Addr → TA
  | [] => tNil
  | a :: r => tCons (tC (.ref a)) (tRefs r)
theorem tRefs_run : ∀ {l : List Addr} {σ : L2.St} {H : Hp} {Q : List V → Hp → Prop}, Q (l.map V.ref) H → tRefs l σ H Q
  | [], _, _, _, h => h
  | a :: r, _, _, Q, h => tRefs_run (Q := fun xs H => Q (.ref a :: xs) H) h
theorem TCl.pa : ∀ {es : List Expr} {hs : List Nat}, TCl X G es hs → PA (X.suite a ((a, oe) :: pn)) es (tRefs (hs.map G.ca))
  | _, _, .nil => pa_nil
  | _, _, .cons hg hm kf hdb h2 r => pa_cons (pe_glob (X := X.suite a ((a, oe) :: pn)) (v := .ref _) hg hm rfl hdb) (TCl.pa r) h2
theorem TCl.any (hx : isX c = true) : ∀ {es : List Expr} {hs : List Nat}, TCl X G es hs → PySem.W.kitAny X.K (.ref (G.ca c)) (hs.map fun h => .ref (G.ca h)) = some (hs.any fun h => subX c h)
  | _, _, .nil => rfl
  | _, _, .cons (hs := hs) (h := h) hg hm kf hdb h2 r => by
    rw [List.map_cons]
    refine kitAny_cons (kf c hx) (fun e => ?_) fun e => ?_
    · rw [TCl.any hx r, List.any_cons, e, Bool.false_or]
    · rw [List.any_cons, e, Bool.true_or]
theorem clsv_refs : ∀ l : List Addr, Paired ClsV (l.map V.ref) (l.map Value.ref)
  | [] => .nil
  | a :: r => .cons (.own a) (clsv_refs r)
theorem je_isxT {es : List Expr} {hs : List Nat} {x1 : Nat} (T : TCl X G es hs) (hx : isX c = true) (C : ExcC X.K (G.ca c)) (hz : Zc (.ref (G.ca c)) none oe) (hf : ∃ vs, oe.data = .fields vs) (hm : X.mg "isinstance" = none) (hl : small hs.length = true)
    (hN : X.N[i]? = some n := by rfl) (hv : Vis X.env.scope n := by first | exact Or.inl rfl | exact Or.inr (Or.inl rfl) | exact Or.inr (Or.inr rfl)) (hd : (n == ("__debug__" : Str)) = false := by decide) (hcd : (n == ("__classdict__" : Str)) = false := by decide)
    (hg : Gl X "isinstance" := by rfl)
    (h1 : starEach [.Name n p1, .Tuple es x1 p2] X.env = (false, eval (.Name n p1) X.env) :: starEach [.Tuple es x1 p2] X.env := by rfl) (h2 : starEach [.Tuple es x1 p2] X.env = (false, eval (.Tuple es x1 p2) X.env) :: starEach [] X.env := by rfl)
    (hpl : (backTo pos (starEach [.Tuple es x1 p2] X.env)).any (·.1) = false := by rfl) : JE (X.suite a ((a, oe) :: pn)) G W (some (i, a)) (.Call (.Name "isinstance" p) [.Name n p1, .Tuple es x1 p2] [] pos) (eC (.bl (hs.any fun h => subX c h))) :=
  peI (pe_callB (X := X.suite a ((a, oe) :: pn)) (call_isET C hz hf) hg hm (by decide +kernel) (pa_cons (pe_var (i := i) hN hv hd hcd) (pa_cons (pe_tup T.pa) pa_nil h2) h1) (by decide) (by decide) h1 hpl) fun σ H Q ⟨α, S, φ, R, F, q⟩ => by
    refine ⟨.ref a, (F.xi _ rfl).1, tRefs_run ⟨by rw [List.length_map, List.length_map]; exact small_ok hl, fun p hp => ?_⟩⟩
    refine ⟨p, _, _, _, rfl, upd_same, clsv_refs _, ?_, q α _ _ (Ext.new hp) (R.aside hp) (.bl _)⟩
    rw [List.map_map]
    exact T.any hx
end

/-! ### the end -/
def spLaw (K : PySem.W.Frag) : Sp := fun vs H Q _ => ∃ (a : Addr) (ns : List Int), vs = [.ref a] ∧ ns.length ≤ 63 ∧ Only H ∧ SqL K H a (ns.map V.int) ∧ ∀ H', Q (.bl true) H'
theorem law_ok {P : Program} {w : World} {K : PySem.W.Frag} {mg : Str → Option Value} {base : Heap} {ca : Nat → Addr} {k : Nat} {f : Addr} {fd : FuncData} {x : Str} {F : List Int → SF} (J : ∀ (a : Addr) (ns : List Int), FJ P w K mg base ⟨ca, a, ns⟩ k f fd [x] (F ns))
    (math : ∀ ns : List Int, ns.length ≤ 63 → ∃ S, F ns [.scr] [] = .ok (.bl true) S) : FnOk P w K mg base (L2.CX P w) k f fd [x] (spLaw K) := by
  refine ⟨fun vs H Q E ⟨a, ns, e, _⟩ => by rw [e]; rfl, fun A outer s H args us vs Q E hr e0 hb r hsp => ?_⟩
  obtain ⟨a, ns, rfl, hl, ho, hs, hQ⟩ := hsp
  refine (J a ns).ok.run A outer s H args us _ Q E hr e0 hb r ⟨rfl, [], [], [.scr], ⟨rfl, List.nodup_nil, ScrOk.of ho hs, fun n o h => by simp at h⟩, .cons .scr .nil, ?_⟩
  obtain ⟨S, e⟩ := math ns hl
  rw [e]
  intro α' H' c e1 R1 r1
  cases r1
  exact hQ H'
theorem cx_no {P : Program} {w : World} {H : Hp} {s s' : Shared} {e : Value} (h : L2.CX P w [] H s (fun _ _ _ => False) e s') : False := by
  obtain ⟨_, _, _, _, _, _, _, _, _, _, _, _, z⟩ := h
  exact z
theorem walkJ {l : PySem.W.OpenLaw} {k : Nat} {q : Program} {loose : List Str} {XP : (Str → Option Value) → Heap → Prop} {YP : World → Heap → Prop} {d : DefRec} {K : Params → PySem.W.Frag} {x : Str} (hn : l.most = some 63) (hdf : d.params.defaults = []) (hr : Room k callerA)
    (hY : ∀ (w : World) (h : Heap), YP w h → (K w.params).In h)
    (F : ∀ (w : World) (mg : Str → Option Value) (fa : Addr) (h : Heap), (K w.params).In h → h.Ns mainGlobals mg → mg d.name = some (.ref fa) →
      ∃ fd : FuncData, (∀ (s : Shared) (u : Value), BindsTo s fd ⟨[u], []⟩ [(x, u)]) ∧ ∀ base : Heap, (K w.params).In base → base.Ns mainGlobals mg → FnOk l.prog w (K w.params) mg base (L2.CX l.prog w) k fa fd [x] (spLaw (K w.params))) :
    PySem.W.WalkO q loose XP YP l.row.toRowW d [] (fun f vs => PySem.call f vs) :=
  L2.walk_of (n := 63) (k := k) (x := x) (CX := fun w => L2.CX l.prog w) (sp := fun w => spLaw (K w.params)) hn (by decide) hdf hr hY F (fun _ _ a ns hl ho hS => ⟨a, ns, rfl, hl, ho, hS, fun _ => rfl⟩) fun _ _ _ _ _ z => cx_no z
end DebtJ

set_option Elab.async false
set_option linter.all false
set_option maxRecDepth 100000
set_option maxHeartbeats 1000000
namespace DebtJ
open PySem PySem.Spec PyProof.Rows L2

section
variable {X : Cx} {G : Pm} {W : WX} {ξ : Option (Nat × Addr)} {x : Str} {pos p : Pos} {K : PySem.W.Frag}
theorem je_gint {i : Int} (hm : ∃ t, X.mg x = some (.int i t)) (hg : Gl X x := by rfl) (hd : (x == ("__debug__" : Str)) = false := by decide) : JE X G W ξ (.Name x pos) (eC (.int i)) := by
  obtain ⟨t, hm⟩ := hm
  exact je_glob hg hm (v := .int i) ⟨_, rfl⟩ (fun _ _ => .int i) hd
theorem je_gstr {i : Str} (hm : ∃ t, X.mg x = some (.str i t)) (hg : Gl X x := by rfl) (hd : (x == ("__debug__" : Str)) = false := by decide) : JE X G W ξ (.Name x pos) (eC (.str i)) := by
  obtain ⟨t, hm⟩ := hm
  exact je_glob hg hm (v := .str i) ⟨_, rfl⟩ (fun _ _ => .str i) hd

/-! ### list(range(..)) -/
def rgD (a b : Int) : List D := (List.range (b - a).toNat).map fun i => .int (a + (i : Nat))
theorem rgD_rel {α : List Addr} {H : Hp} (a b : Int) : VRs G α H (rgD a b) (rgV a b) := by
  unfold rgD rgV
  induction List.range (b - a).toNat with
  | nil => exact .nil
  | cons i l ih => rw [List.map_cons, List.map_cons]; exact .cons (.int _) ih
def rgok (a b : Int) : Bool := smallI a && smallI b && decide ((b - a).toNat ≤ 16777216)
theorem rgok_ok {a b : Int} (h : rgok a b = true) : RgOk a b := by
  simp only [rgok, smallI, Bool.and_eq_true, decide_eq_true_eq] at h
  exact ⟨by omega, by omega, by omega, by omega, by omega⟩
def eLstRg1 (f : SE) : SE := fun φ S => (f φ S).bind fun d S1 => match d with
  | .int j => if rgok 0 j then .ok (.ref S1.length) (S1 ++ [.lst (rgD 0 j)]) else .no
  | _ => .no
def eLstRg2 (f g : SE) : SE := fun φ S => (f φ S).bind fun d S1 => (g φ S1).bind fun d2 S2 => match d, d2 with
  | .int i, .int j => if rgok i j then .ok (.ref S2.length) (S2 ++ [.lst (rgD i j)]) else .no
  | _, _ => .no
variable {a b : Expr} {f g : SE} {p2 pos2 : Pos}
theorem je_lstRg1 (hm : X.mg "list" = none) (hmr : X.mg "range" = none) (ha : JE X G W ξ a f) (hc : X.calm = true := by rfl) (hg : Gl X "list" := by rfl) (hgr : Gl X "range" := by rfl)
    (na : starEach [a] X.env = (false, eval a X.env) :: starEach [] X.env := by rfl) (nb : starEach [.Call (.Name "range" p2) [a] [] pos2] X.env = (false, eval (.Call (.Name "range" p2) [a] [] pos2) X.env) :: starEach [] X.env := by rfl) :
    JE X G W ξ (.Call (.Name "list" p) [.Call (.Name "range" p2) [a] [] pos2] [] pos) (eLstRg1 f) :=
  peI (pe_listRg hc hg hm (prg_1 hgr hmr ha na) nb) fun σ H Q ⟨α, S, φ, R, F, h⟩ => ⟨α, S, φ, R, F, PR.bind h fun d S1 α1 H1 v e1 R1 r1 h1 => by
    split at h1
    · cases r1
      split at h1
      · rename_i hs
        refine ⟨_, rfl, rgok_ok hs, fun q hq => ?_⟩
        obtain ⟨z1, z2, z3⟩ := R1.newL hq (rgD_rel _ _)
        exact h1 _ _ _ z1 z2 z3
      · exact h1.elim
    · exact h1.elim⟩
theorem je_lstRg2 (hm : X.mg "list" = none) (hmr : X.mg "range" = none) (ha : JE X G W ξ a f) (hb : JE X G W ξ b g) (hc : X.calm = true := by rfl) (hg : Gl X "list" := by rfl) (hgr : Gl X "range" := by rfl)
    (na : starEach [a, b] X.env = (false, eval a X.env) :: starEach [b] X.env := by rfl) (na2 : starEach [b] X.env = (false, eval b X.env) :: starEach [] X.env := by rfl) (nb : starEach [.Call (.Name "range" p2) [a, b] [] pos2] X.env = (false, eval (.Call (.Name "range" p2) [a, b] [] pos2) X.env) :: starEach [] X.env := by rfl)
    (hp : (backTo pos2 (starEach [b] X.env)).any (·.1) = false := by rfl) :
    JE X G W ξ (.Call (.Name "list" p) [.Call (.Name "range" p2) [a, b] [] pos2] [] pos) (eLstRg2 f g) :=
  peI (pe_listRg hc hg hm (prg_2 hgr hmr ha hb na na2 hp) nb) fun σ H Q ⟨α, S, φ, R, F, h⟩ => ⟨α, S, φ, R, F, PR.bind h fun d S1 α1 H1 v e1 R1 r1 h1 =>
    ⟨α1, S1, φ, R1, F.mono e1, PR.bind h1 fun d2 S2 α2 H2 v2 e2 R2 r2 h2 => by
      split at h2
      · cases r1; cases r2
        split at h2
        · rename_i hs
          refine ⟨_, _, rfl, rfl, rgok_ok hs, fun q hq => ?_⟩
          obtain ⟨z1, z2, z3⟩ := R2.newL hq (rgD_rel _ _)
          exact h2 _ _ _ z1 z2 z3
        · exact h2.elim
      · exact h2.elim⟩⟩
/-! ### range(i, j, -1) -/
theorem ji_rgD {c : Expr} {tg : Expr} {fa : SA} (hm : X.mg "range" = none) (ha : JA X G W ξ [a, b, c] fa) (hg : Gl X "range" := by rfl) (hs : starEach [a, b, c] X.env = (false, eval a X.env) :: starEach [b, c] X.env := by rfl) (hpl : (backTo pos (starEach [b, c] X.env)).any (·.1) = false := by rfl) :
    JI X G W ξ tg (.Call (.Name "range" p) [a, b, c] [] pos) (iRgD fa) :=
  piI (pi_range3 hg hm ha hs hpl) fun σ H Q ⟨α, S, φ, R, F, h⟩ => ⟨α, S, φ, R, F, PR.bind h fun ds S1 α1 H1 vs e1 R1 r1 h1 => by
    split at h1
    · rename_i i j
      obtain ⟨rfl⟩ : vs = [.int i, .int j, .int (-1)] := by
        cases r1 with | cons a b => cases b with | cons c d => cases d with | cons e f => cases f; cases a; cases c; cases e; rfl
      split at h1
      · rename_i hs
        simp only [smallI, Bool.and_eq_true, decide_eq_true_eq] at hs
        refine ⟨i, j, -1, (i - j).toNat, rfl, RgC.neg (by omega) (by omega) (by omega) (by omega), h1 α1 H1 _ (Ext.refl _ _) R1 fun α' S' H' m e R' => ⟨fun d hi hd => ⟨hi, fun x H2 y => ?_⟩, fun hi _ => Nat.le_of_eq hi.symm⟩⟩
        obtain ⟨y1, y2⟩ := y
        subst y2
        have hd : some (D.int (i + (m : Int) * (-1))) = some d := hd
        cases hd
        exact ⟨y1, .int _⟩
      · exact h1.elim
    · exact h1.elim⟩
/-! ### in a list of flat things -/
def flatD : D → Bool
  | .non => true | .bl _ => true | .int _ => true | .str _ => true | _ => false
def eqF : D → D → Bool
  | .non, .non => true
  | .bl a, .bl b => a == b
  | .bl a, .int b => (if a then 1 else 0) == b
  | .int a, .bl b => a == (if b then 1 else 0)
  | .int a, .int b => a == b
  | .str a, .str b => a == b
  | _, _ => false
def inD (x : D) (xs : List D) : Bool := xs.any fun y => eqF y x
def gInL : G2 := fun a b S => match b with
  | .ref n => match lget S n with
    | some xs => if flatD a && xs.all flatD then some (.bl (inD a xs), S) else none
    | none => none
  | _ => none
theorem flat_rel {α : List Addr} {H : Hp} {d : D} {v : V} (r : VR G α H d v) (h : flatD d = true) : flatV v = true := by
  cases r <;> first | rfl | (cases h)
theorem flats_rel {α : List Addr} {H : Hp} : ∀ {ds : List D} {vs : List V}, VRs G α H ds vs → ds.all flatD = true → vs.all flatV = true
  | _, _, .nil, _ => rfl
  | _, _, .cons r t, h => by
    simp only [List.all_cons, Bool.and_eq_true] at h ⊢
    exact ⟨flat_rel r h.1, flats_rel t h.2⟩
theorem eqF_rel {α : List Addr} {H : Hp} {d e : D} {v u : V} (r : VR G α H d v) (q : VR G α H e u) (h : flatD d = true) (h2 : flatD e = true) : eqV v u = eqF d e := by
  cases r <;> first | (cases h; done) | (cases q <;> first | (cases h2; done) | rfl)
theorem inD_rel {α : List Addr} {H : Hp} {e : D} {u : V} (q : VR G α H e u) (h2 : flatD e = true) : ∀ {ds : List D} {vs : List V}, VRs G α H ds vs → ds.all flatD = true → inV u vs = inD e ds
  | _, _, .nil, _ => rfl
  | _, _, .cons r t, h => by
    simp only [List.all_cons, Bool.and_eq_true] at h
    have ih := inD_rel q h2 t h.2
    unfold inV inD at ih ⊢
    rw [List.any_cons, List.any_cons, ih, eqF_rel r q h.1 h2]
theorem o_inL : Op2 K G (rIn K false) gInL := by
  intro α S H d1 d2 v1 v2 Q b S' R r1 r2 h q
  cases d2 <;> simp only [gInL] at h <;> try (cases h; done)
  obtain ⟨a, rfl, ha⟩ := r2.refI
  split at h
  · rename_i xs e0
    obtain ⟨vs, h1, h2⟩ := lget_at R ha e0
    split at h
    · rename_i hf
      simp only [Bool.and_eq_true] at hf
      cases h
      refine ⟨a, vs, rfl, .inl (.inl (.inl h1)), flat_rel r1 hf.1, flats_rel h2 hf.2, ?_⟩
      rw [if_neg Bool.false_ne_true, inD_rel r1 hf.1 h2 hf.2]
      exact q α H _ (Ext.refl _ _) R (.bl _)
    · cases h
  · cases h
end

/-! ### the end's short words -/
section
variable {P : Program} {w : World} {K : PySem.W.Frag} {mg : Str → Option Value} {base : Heap} {G : Pm}
theorem fj_no {x qual : Str} {st : Stmt} {f : Addr} {fd : FuncData} {ps : List Str} {k : Nat} (F : Fun K x qual st f fd)
    (hb : ∀ (kV doc pm : Value) (an : Option Addr) (cdv ct : Value) (us : List Value), us.length = ps.length → bindArgs (PySem.W.fnOf x qual (defArgs st) (defBody st) (defScope st) .none kV doc pm an cdv ct) ⟨us, []⟩ = pure (ps.zip us)) :
    FJ P w K mg base G k f fd ps (fun _ _ => .no) :=
  ⟨⟨fun vs H Q E h => h.1, fun A outer s H args us vs Q E hr e0 hb r h => by obtain ⟨_, _, _, _, _, _, q⟩ := h; exact q.elim⟩, fun _ _ _ => rfl, F.binds hb, F.kp⟩
theorem isx_all {Pr : Nat → Prop} (h0 : Pr 10) (h1 : Pr 11) (h2 : Pr 12) (h3 : Pr 13) (h4 : Pr 14) (h5 : Pr 15) (h6 : Pr 16) : ∀ c, isX c = true → Pr c := fun c h => by
  have h := of_decide_eq_true h
  obtain rfl | rfl | rfl | rfl | rfl | rfl | rfl : c = 10 ∨ c = 11 ∨ c = 12 ∨ c = 13 ∨ c = 14 ∨ c = 15 ∨ c = 16 := by omega
  all_goals assumption
theorem exm_f {C S : Addr} {b : Bool} (h1 : PySem.W.subIn K (.ref S) (.type "BaseException") = some true) (h2 : PySem.W.isClsIn K S = true) (h3 : PySem.W.typeIn K (.ref S) = some (.type "type")) (h4 : PySem.W.subIn K (.ref C) (.ref S) = some b) :
    PySem.W.exmOne K (.ref C) (.ref S) = some b := by
  have e1 : (PySem.W.subIn K (.ref S) (.type "BaseException") == some true) = true := by rw [h1] <;> rfl
  have e2 : ((PySem.W.clsIn K S).isSome && PySem.W.typeIn K (.ref S) == some (.type "type")) = true := by
    have h2' : (PySem.W.clsIn K S).isSome = true := h2
    rw [h2', h3] <;> rfl
  show (if (PySem.W.subIn K (.ref S) (.type "BaseException") == some true) = true then (if ((PySem.W.clsIn K S).isSome && PySem.W.typeIn K (.ref S) == some (.type "type")) = true then PySem.W.subIn K (.ref C) (.ref S) else none) else none) = some b
  rw [if_pos e1, if_pos e2]
  exact h4
theorem kit_self {S : Addr} : PySem.W.kitOne K (.ref S) (.ref S) = some true := by
  unfold PySem.W.kitOne
  rw [if_pos (by simp)]
theorem kit_f {C S : Addr} {b : Bool} (hne : (C == S) = false) (h2 : PySem.W.isClsIn K S = true) (h3 : PySem.W.typeIn K (.ref S) = some (.type "type")) (h4 : PySem.W.subIn K (.ref C) (.ref S) = some b) : PySem.W.kitOne K (.ref C) (.ref S) = some b := by
  unfold PySem.W.kitOne
  have e : ¬ C = S := by simpa using hne
  rw [if_neg (by simp [e])]
  have e2 : ((PySem.W.clsIn K S).isSome && PySem.W.typeIn K (.ref S) == some (.type "type")) = true := by
    have h2' : (PySem.W.clsIn K S).isSome = true := h2
    rw [h2', h3] <;> rfl
  show (if ((PySem.W.clsIn K S).isSome && PySem.W.typeIn K (.ref S) == some (.type "type")) = true then PySem.W.subIn K (.ref C) (.ref S) else none) = some b
  rw [if_pos e2]
  exact h4
end
end DebtJ

set_option Elab.async false
set_option linter.all false
set_option maxRecDepth 100000
set_option maxHeartbeats 1000000
/-! More walk rules: list.count of data. -/
namespace DebtJ
open PySem PySem.Spec PyProof.Rows L2

section
variable {X : Cx} {G : Pm} {W : WX} {ξ : Option (Nat × Addr)} {K : PySem.W.Frag}
theorem u65 {k : Nat} {A : Around} (r : Room k A) : A.units + 65 < cLine := by have := r.un; omega
/-! ### l.count(x) -/
/-- how many items equal the data d -/
def rCntD (K : PySem.W.Frag) : V → List V → Hp → VK → Prop := fun x xs H Q => ∃ (a : Addr) (y : V) (d : PyData) (ds : List PyData), x = V.ref a ∧ xs = [y] ∧ Dp K H (V.ref a) (.list ds) ∧ Dp K H y d ∧ SeqAt.shaped (.list ds) = true ∧ SeqAt.shaped d = true ∧ Q (.int ((ds.countP fun z => PyData.eqv z d : Nat) : Int)) H
theorem mt_countD (hu : X.A.units + 65 < cLine) : MtR X "list.count" (rCntD X.K) := by
  intro pins s σ H x xs v us Q I rx rxs hyp
  obtain ⟨a, y, d, ds, rfl, rfl, dl, dy, sl, sd, q⟩ := hyp
  cases rx
  cases rxs with
  | cons ry rt =>
    rename_i uy ut
    cases rt
    obtain ⟨bs, rdy⟩ := Dp.reads I d y uy dy ry
    have lay := (SeqAt.canLay_of_shaped sl : PyData.canLayAll0 ds = true)
    have rm : X.A.units + 1 + min (PyData.depthAll ds) d.depth < cLine := room_in_shaped sd hu
    cases dl with
    | lst hs ha =>
      obtain ⟨its, rv, ⟨⟨cls, dd, data, sls⟩, n, ho, hc, hdn, hdt⟩, hlen⟩ := I.list hs
      simp only at hc hdt
      subst hc hdt
      obtain ⟨as, rda⟩ := Dp.readsAll I ds _ its ha rv
      have mp := SeqAt.readsAll_map ds its as lay rda
      refine call_meets PySem.F.slot_list_count ⟨_, ho, rfl⟩ PySem.F.entry_list_count (PySem.F.args_list_count_2 _ _) (SeqAt.list_countAt a its.toArray n dd sls uy fun u => PyData.eqv (SeqAt.readOf s.heap u) d) ⟨ho, ?_, ?_⟩
      · exact SeqAt.items_eqAt (vs := its.toArray) rda rdy lay (SeqAt.canLay_of_shaped sd) rm
      · refine ⟨.int ((ds.countP fun z => PyData.eqv z d : Nat) : Int), H, I.tok _, ⟨s.toks, ?_⟩, q⟩
        have e : its.toArray.toList.countP (fun u => PyData.eqv (SeqAt.readOf s.heap u) d) = ds.countP fun z => PyData.eqv z d := by
          show its.countP _ = _
          rw [← mp, List.countP_map]
          rfl
        rw [e]
def gCount : GM := fun d ds S => match d, ds with
  | .ref n, [y] => match toPy S 8 (.ref n), toPy S 8 y with
    | some (.list ps), some p => if SeqAt.shaped (.list ps) && SeqAt.shaped p then some (.int ((ps.countP fun z => PyData.eqv z p : Nat) : Int), S) else none
    | _, _ => none
  | _, _ => none
theorem m_count : MOp K G (rCntD K) gCount := by
  intro α S H d ds v vs Q b S' R r rs h q
  unfold gCount at h
  split at h
  · rename_i n y
    obtain ⟨a, rfl, ha⟩ := r.refI
    obtain ⟨w, rfl, rw'⟩ := rs.one
    split at h
    · rename_i ps p e1 e2
      split at h
      · rename_i hs
        cases h
        simp only [Bool.and_eq_true] at hs
        exact ⟨a, w, p, ps, rfl, rfl, toPy_dp R 8 _ _ _ e1 (.ref ha), toPy_dp R 8 _ _ _ e2 rw', hs.1, hs.2, q α H _ (Ext.refl _ _) R (.int _)⟩
      · cases h
    · cases h
  · cases h
end
end DebtJ

set_option Elab.async false
set_option linter.all false
set_option maxRecDepth 100000
set_option maxHeartbeats 1000000
/-! Defs that are called while an exception is handled; the exception handed to a def. -/
namespace DebtJ
open PySem PySem.Spec PyProof.Rows L2

/-! ### what such a def promises: the pinned exception p may be told of -/
structure FnE (P : Program) (w : World) (K : PySem.W.Frag) (mg : Str → Option Value) (base : Heap) (k : Nat) (f : Addr) (fd : FuncData) (ps : List Str) (sp : Addr × Obj → Sp) : Prop where
  len : ∀ p vs H Q E, sp p vs H Q E → vs.length = ps.length
  run : ∀ (A : Around) (outer : List Env) (s : Shared) (H : Hp) (as : Args) (us : List Value) (vs : List V) (Q : VK) (E : XK) (p : Addr × Obj), L2H.RoomH k A → L2H.PinOk outer H s p → Env0 P w K mg base A outer s H → BindsTo s fd as (ps.zip us) → Vals vs us → sp p vs H Q E →
    codeAny (model P w) A (.call (.ref f) as) (CR (L2.CX P w) outer P w H s Q E) s
abbrev cxE (P : Program) (w : World) (K : PySem.W.Frag) (mg : Str → Option Value) (base : Heap) (N : List Str) (qual : Str) (scope : Scope) (f : Addr) (cd : Value) (A : Around) (outer : List Env) (s : Shared) (H : Hp) (E : XK) (p : Addr × Obj) : Cx := L2H.cxH (L2.CX P w) P w K mg base N qual scope f cd A outer s H E p
section
variable {P : Program} {w : World} {K : PySem.W.Frag} {mg : Str → Option Value} {base : Heap}
theorem fnE_of {x qual : Str} {st : Stmt} {f : Addr} {fd : FuncData} {N ps : List Str} {k : Nat} {sp : Addr × Obj → Sp} (F : Fun K x qual st f fd) (Sc : FnScope N ps (defScope st)) (len : ∀ p vs H Q E, sp p vs H Q E → vs.length = ps.length)
    (body : ∀ (cdv : Value) (A : Around) (outer : List Env) (s : Shared) (H : Hp) (vs : List V) (Q : VK) (E : XK) (p : Addr × Obj), L2H.RoomH k (A.deeper (envOfC qual (defScope st) s.heap.objs.size f cdv)) → sp p vs H Q E →
      ∃ t, PSs (cxE P w K mg base N qual (defScope st) f cdv A outer s H E p) (defBody st) t ∧ t { nx := fun _ H' => Q .non H', rt := Q } (L2.start N vs) H) : FnE P w K mg base (k + 1) f fd ps sp := by
  obtain ⟨oc, od, kV, doc, pm, an, cdv, ct, osl, rfl, lk, hcd⟩ := F.ex
  refine ⟨len, fun A outer s H as us vs Q E p room pin env bind rel prom => ?_⟩
  have inK : K.In s.heap := env.mod.kin.keeps fun b o e => (env.bs b o e).1
  have nol : s.heap.NoLimit := env.mod.nolimit.keeps fun b o e => (env.bs b o e).1
  refine codeAny_call_function room.depth (inK _ _ lk) rfl Sc.co Sc.gen rfl (PySem.W.codeRec_of inK hcd) (bind _ _ _ _ ?_)
  refine wpAny_newFunctionEnv_cells Sc.kind (fun y hy => ?_) fun env' he s1 x1 => ?_
  · obtain ⟨n, v⟩ := y
    rcases Sc.par n (List.of_mem_zip hy).1 with q | q
    · exact .inl q
    · exact .inr ⟨q, PySem.W.cellsFrom_some _ _ _ (.inl q)⟩
  · subst he
    refine ⟨nol.keeps x1.toInCall.keep, codeAny_func ?_⟩
    obtain ⟨t, ht, hq⟩ := body cdv A outer s H vs Q E p (room.deeper _) prom
    have I : Inv (cxE P w K mg base N qual (defScope st) f cdv A outer s H E p) [] (L2.start N vs) H s1 := L2H.inv_startH Sc pin env (len _ _ _ _ _ prom) rel x1
    refine wpAny_mono (ht.run [] s1 (L2.start N vs) H _ I hq) (fun fl s2 hs => ?_) fun e s2 hs => hs
    cases fl with
    | ret u =>
      obtain ⟨v, _, H2, J, rv, q⟩ := hs
      exact ⟨v, H2, J.os, J.bare, J.base, J.hok, rv, q⟩
    | next =>
      obtain ⟨_, H2, J, q⟩ := hs
      exact ⟨V.non, H2, J.os, J.bare, J.base, J.hok, rfl, q⟩
    | brk => exact hs.elim fun _ z => z.elim fun _ y => y.2.elim
    | cont => exact hs.elim fun _ z => z.elim fun _ y => y.2.elim
end
section
variable {X : Cx} {k : Nat} {f C : Addr} {fd : FuncData} {ps : List Str} {sp : Addr × Obj → Sp} {E : L2.St → XK} {x m : Str} {q pos apos : Pos} {e o : Expr} {es : List Expr} {ta : TE} {t : TA} {p : Addr × Obj}
theorem run_fnE {pins : List (Addr × Obj)} {σ : L2.St} {H : Hp} {s : Shared} {Q : VK} {us : List Value} {vs : List V} (F : FnE X.prog X.w X.K X.mg X.base k f fd ps sp) (hr : L2H.RoomH k X.A) (hp : p ∈ X.pn) (hb : Binds X.K fd ps []) (hx : PassesAt (L2.CX X.prog X.w) X σ (E σ))
    (I : Inv X pins σ H s) (r : Vals vs us) (h : sp p vs H Q (E σ)) : wpAny (model X.prog X.w) X.A (call (.ref f) us) (EP X pins σ Q) X.xe s := by
  have hl : us.length = ps.length := by rw [← r.length]; exact F.len _ _ _ _ _ h
  have b := hb s us I.kIn (by rw [List.append_nil]; exact hl)
  rw [List.append_nil] at b
  have at_ := I.pin p (List.mem_append_left _ hp)
  have pin : L2H.PinOk X.stack H s p := ⟨at_.1, at_.2.1, fun hm => (List.mem_cons.mp (I.stkSub p.1 hm)).elim at_.2.2.1 at_.2.2.2.1, at_.2.2.2.2⟩
  refine wpAny_call (codeAny_mono (F.run X.A X.stack s H ⟨us, []⟩ us vs Q (E σ) p hr pin I.env0 b r h) fun r s2 hq => ?_)
  match r, hq with
  | .error e, hq => exact hx pins H s e s2 I hq
  | .ok (.ret u), hq => exact I.after hq
  | .ok .next, hq => exact hq.elim
  | .ok .brk, hq => exact hq.elim
  | .ok .cont, hq => exact hq.elim
theorem pe_callE (F : FnE X.prog X.w X.K X.mg X.base k f fd ps sp) (hr : L2H.RoomH k X.A) (hp : p ∈ X.pn) (hg : Gl X x) (hm : X.mg x = some (.ref f)) (hk : PySem.W.keepIn X.K (.ref f) = true) (hb : Binds X.K fd ps []) (hx : ∀ σ, PassesAt (L2.CX X.prog X.w) X σ (E σ))
    (ha : PA X (e :: es) t) (hdb : (x == ("__debug__" : Str)) = false := by decide) (he : starEach (e :: es) X.env = (false, eval e X.env) :: starEach es X.env := by rfl) (hpl : (backTo pos (starEach es X.env)).any (·.1) = false := by rfl) :
    PE X (.Call (.Name x q) (e :: es) [] pos) (tCallS (sp p) E t) :=
  ⟨fun pins s σ H Q I h => wpAny_Call_Name_kw (ld_glob I hg hm (PySem.W.callWith_K (h₀ := X.base) I.ok.mod.kin hk (thn (ha.run pos pins s σ H _ I h) fun us s1 ⟨vs, H1, I1, r, q⟩ => ⟨I1.kIn, run_fnE F hr hp hb (hx σ) I1 r q⟩) he hpl) hdb)⟩
theorem pe_methE {pl : Sem Bool} (he : PE X o ta) (c : Cls X.K C) (hm : Meth X.K C m f) (F : FnE X.prog X.w X.K X.mg X.base k f fd ps sp) (hr : L2H.RoomH k X.A) (hp : p ∈ X.pn) (hb : Binds X.K fd ps []) (hx : ∀ σ, PassesAt (L2.CX X.prog X.w) X σ (E σ)) (ha : PA X (e :: es) t)
    (hst : starEach (e :: es) X.env = (false, eval e X.env) :: starEach es X.env := by rfl) (hpl : (backTo pos (starEach es X.env)).any (·.1) = false := by rfl)
    (ht : eval (.Call (.Attribute o m apos) (e :: es) [] pos) X.env = (do
      let ov ← eval o X.env
      standAt apos.atName
      let (f, first) ← holding [ov] (getMethod ov m pl)
      callWith pos f first (backTo pos (starEach (e :: es) X.env)) (backToKw pos (keywordEach [] X.env))) := by rfl) :
    PE X (.Call (.Attribute o m apos) (e :: es) [] pos) (tMethP C m (sp p) E ta t) := by
  refine ⟨fun pins s σ H Q I h => PySem.W.methodCall_KW (pl := pl) (thn (he.run pins s σ H _ I h) fun u s1 ⟨x, H1, I1, rx, a, dx, fs, ex, ea, l, q⟩ => ?_) ht⟩
  subst ex
  obtain rfl : u = Value.ref a := rx
  exact getmeth_ok I1 ea c hm l (PySem.W.callWith_K (first := [.ref a]) (h₀ := X.base) I.ok.mod.kin hm.kp (thn (ha.run pos pins s1 σ H1 _ I1 q) fun us s2 ⟨vs, H2, I2, r, q2⟩ => ⟨I2.kIn, run_fnE (us := .ref a :: us) (vs := .ref a :: vs) F hr hp hb (hx σ) I2 (.cons rfl r) q2⟩) hst hpl)
theorem pe_methE0 {pl : Sem Bool} (he : PE X o ta) (c : Cls X.K C) (hm : Meth X.K C m f) (F : FnE X.prog X.w X.K X.mg X.base k f fd ps sp) (hr : L2H.RoomH k X.A) (hp : p ∈ X.pn) (hb : Binds X.K fd ps []) (hx : ∀ σ, PassesAt (L2.CX X.prog X.w) X σ (E σ))
    (ht : eval (.Call (.Attribute o m apos) [] [] pos) X.env = (do
      let ov ← eval o X.env
      standAt apos.atName
      let (f, first) ← holding [ov] (getMethod ov m pl)
      callWith pos f first (backTo pos (starEach [] X.env)) (backToKw pos (keywordEach [] X.env))) := by rfl) :
    PE X (.Call (.Attribute o m apos) [] [] pos) (tMethP C m (sp p) E ta tNil) := by
  refine ⟨fun pins s σ H Q I h => PySem.W.methodCall_KW (pl := pl) (thn (he.run pins s σ H _ I h) fun u s1 ⟨x, H1, I1, rx, a, dx, fs, ex, ea, l, q⟩ => ?_) ht⟩
  subst ex
  obtain rfl : u = Value.ref a := rx
  exact getmeth_ok I1 ea c hm l (PySem.W.callWith_K0 (first := [.ref a]) I1.kIn hm.kp (run_fnE (us := [.ref a]) (vs := [.ref a]) F hr hp hb (hx σ) I1 (.cons rfl .nil) q))
end

/-! ### isinstance of a pinned exception -/
section
variable {X : Cx} {G : Pm} {W : WX} {i c h : Nat} {a : Addr} {oe : Obj} {n y : Str} {p p1 p2 pos : Pos}
theorem call_isP {Dc : Addr} (hp : (a, oe) ∈ X.pn) (C : ExcC X.K Dc) (hz : Zc (.ref Dc) none oe) (hf : ∃ vs, oe.data = .fields vs) : CallR X (.builtin "isinstance") (rIsE X.K Dc a) := by
  intro pins s σ H xs us Q I r ⟨t, cv, b, e1, ht, e2, q⟩
  subst e1
  obtain ⟨u1, u2, rfl, r1, r2⟩ := vals2 r
  cases (show u1 = Value.ref a from r1)
  cases (show u2 = cv from ht u2 r2)
  obtain ⟨vs, hv⟩ := hf
  have J : PySem.W.InstAt s.heap a oe Dc none := by
    obtain ⟨oc, od, oda, osl⟩ := oe
    obtain ⟨z1, z2⟩ := hz
    dsimp only at z1 z2 hv
    subst z1 z2 hv
    exact ⟨(I.pin _ (List.mem_append_left _ hp)).1, rfl, rfl, trivial⟩
  refine PySem.W.kia_one (PySem.W.handS_kitx_exc C.hg C.hk C.hs C.hd C.ha C.hn C.ht C.hm) I.kIn J e2 (fun z => nomatch z) fun tk => ?_
  exact ⟨.bl b, H, I.kept (t' := tk) fun _ _ z => z, rfl, q⟩
theorem je_isP (hp : (a, oe) ∈ X.pn) (hx : isX c = true) (C : ExcC X.K (G.ca c)) (hz : Zc (.ref (G.ca c)) none oe) (hf : ∃ vs, oe.data = .fields vs) (kf : KitF X.K G h) (hmT : X.mg y = some (.ref (G.ca h))) (hm : X.mg "isinstance" = none)
    (hN : X.N[i]? = some n := by rfl) (hv : Vis X.env.scope n := by first | exact Or.inl rfl | exact Or.inr (Or.inl rfl) | exact Or.inr (Or.inr rfl)) (hd : (n == ("__debug__" : Str)) = false := by decide) (hcd : (n == ("__classdict__" : Str)) = false := by decide)
    (hg : Gl X "isinstance" := by rfl) (hgT : Gl X y := by rfl) (hdb : (y == ("__debug__" : Str)) = false := by decide)
    (h1 : starEach [.Name n p1, .Name y p2] X.env = (false, eval (.Name n p1) X.env) :: starEach [.Name y p2] X.env := by rfl) (h2 : starEach [.Name y p2] X.env = (false, eval (.Name y p2) X.env) :: starEach [] X.env := by rfl)
    (hpl : (backTo pos (starEach [.Name y p2] X.env)).any (·.1) = false := by rfl) : JE X G W (some (i, a)) (.Call (.Name "isinstance" p) [.Name n p1, .Name y p2] [] pos) (eC (.bl (subX c h))) :=
  peI (pe_callB (call_isP hp C hz hf) hg hm (by decide +kernel) (pa_cons (pe_var (i := i) hN hv hd hcd) (pa_cons (pe_glob (v := .ref (G.ca h)) hgT hmT rfl hdb) pa_nil h2) h1) (by decide) (by decide) h1 hpl) fun σ H Q ⟨α, S, φ, R, F, q⟩ =>
    ⟨.ref a, (F.xi _ rfl).1, .ref (G.ca h), .ref (G.ca h), subX c h, rfl, fun u z => z, kf c hx, q α H _ (Ext.refl _ _) R (.bl _)⟩
theorem je_isPB {T : String} (hp : (a, oe) ∈ X.pn) (hx : isX c = true) (C : ExcC X.K (G.ca c)) (hz : Zc (.ref (G.ca c)) none oe) (hf : ∃ vs, oe.data = .fields vs) (kf : KitB X.K G T) (hmT : X.mg y = none) (hm : X.mg "isinstance" = none)
    (hN : X.N[i]? = some n := by rfl) (hv : Vis X.env.scope n := by first | exact Or.inl rfl | exact Or.inr (Or.inl rfl) | exact Or.inr (Or.inr rfl)) (hd : (n == ("__debug__" : Str)) = false := by decide) (hcd : (n == ("__classdict__" : Str)) = false := by decide)
    (hg : Gl X "isinstance" := by rfl) (hgT : Gl X y := by rfl) (hvT : bootBuiltins y = some (.type T) := by decide +kernel) (hn : y ≠ "__name__" := by decide) (hdb : (y == ("__debug__" : Str)) = false := by decide)
    (h1 : starEach [.Name n p1, .Name y p2] X.env = (false, eval (.Name n p1) X.env) :: starEach [.Name y p2] X.env := by rfl) (h2 : starEach [.Name y p2] X.env = (false, eval (.Name y p2) X.env) :: starEach [] X.env := by rfl)
    (hpl : (backTo pos (starEach [.Name y p2] X.env)).any (·.1) = false := by rfl) : JE X G W (some (i, a)) (.Call (.Name "isinstance" p) [.Name n p1, .Name y p2] [] pos) (eC (.bl true)) :=
  peI (pe_callB (call_isP hp C hz hf) hg hm (by decide +kernel) (pa_cons (pe_var (i := i) hN hv hd hcd) (pa_cons (pe_bltn (v := .ty T) hgT hmT hvT rfl hn hdb) pa_nil h2) h1) (by decide) (by decide) h1 hpl) fun σ H Q ⟨α, S, φ, R, F, q⟩ =>
    ⟨.ref a, (F.xi _ rfl).1, .ty T, .type T, true, rfl, fun u z => z, kf c hx, q α H _ (Ext.refl _ _) R (.bl _)⟩
end
/-! ### a def of one parameter, the exception -/
abbrev SX := Nat → Store → R D
def spX (K : PySem.W.Frag) (G : Pm) (F : SX) (p : Addr × Obj) : Sp := fun vs H Q E => vs = [.ref p.1] ∧ ∃ (c : Nat) (α : List Addr) (S : Store), isX c = true ∧ Zc (.ref (G.ca c)) none p.2 ∧ (∃ us, p.2.data = .fields us) ∧ RSt K G α S H ∧ PR K G (fun c d _ H' => E c d H') α H [] (vrel G) Q (F c S)
structure FJE (P : Program) (w : World) (K : PySem.W.Frag) (mg : Str → Option Value) (base : Heap) (G : Pm) (k : Nat) (f : Addr) (fd : FuncData) (ps : List Str) (F : SX) : Prop where
  ok : FnE P w K mg base k f fd ps (spX K G F)
  bd : Binds K fd ps []
  kp : PySem.W.keepIn K (.ref f) = true
def mkE (m : Nat) (fb : Nat → SS) : SX := fun c S => finS (fb c (List.replicate m none) S)
section
variable {P : Program} {w : World} {K : PySem.W.Frag} {mg : Str → Option Value} {base : Heap} {G : Pm}
theorem fjE_of {x qual : Str} {st : Stmt} {f : Addr} {fd : FuncData} {N ps : List Str} {k : Nat} {fb : Nat → SS} (F : Fun K x qual st f fd) (Sc : FnScope N ps (defScope st)) (hN : 1 ≤ N.length ∧ ps.length = 1)
    (hb : ∀ (kV doc pm : Value) (an : Option Addr) (cdv ct : Value) (us : List Value), us.length = ps.length → bindArgs (PySem.W.fnOf x qual (defArgs st) (defBody st) (defScope st) .none kV doc pm an cdv ct) ⟨us, []⟩ = pure (ps.zip us))
    (body : ∀ (cdv : Value) (A : Around) (outer : List Env) (s : Shared) (H : Hp) (E : XK) (a : Addr) (oe : Obj) (c : Nat), L2H.RoomH k (A.deeper (envOfC qual (defScope st) s.heap.objs.size f cdv)) → isX c = true → Zc (.ref (G.ca c)) none oe → (∃ us, oe.data = .fields us) →
      JSs (cxE P w K mg base N qual (defScope st) f cdv A outer s H E (a, oe)) G (fun c d _ H' => E c d H') (some (0, a)) (defBody st) (fb c)) : FJE P w K mg base G (k + 1) f fd ps (mkE N.length fb) := by
  refine ⟨fnE_of F Sc (fun p vs H Q E h => by rw [h.1, hN.2]; rfl) fun cdv A outer s H vs Q E p hr h => ?_, F.binds hb, F.kp⟩
  obtain ⟨a, oe⟩ := p
  obtain ⟨rfl, c, α, S, hx, hz, hf, R, q⟩ := h
  refine ⟨_, body cdv A outer s H E a oe c hr hx hz hf, α, S, List.replicate N.length none, R, ⟨?_, fun i d e => ?_, fun r hr => ?_⟩, ?_⟩
  · unfold L2.start
    simp
    omega
  · rw [List.getElem?_replicate] at e
    split at e <;> cases e
  · cases hr
    refine ⟨rfl, ?_⟩
    rw [List.getElem?_replicate, if_pos (by omega)]
  · have fin : ∀ {r : RS}, PR K G (fun c d _ H' => E c d H') α H [] (vrel G) Q (finS r) → PSt K G (fun c d _ H' => E c d H') (some (0, a)) α H { nx := fun _ H' => Q .non H', rt := Q } r := by
      intro r q
      cases r with
      | nx _ _ => exact fun α' H' _ e R _ => q α' H' _ e R .non
      | rt _ _ => exact q
      | exc _ _ _ => exact fun α' H' _ e R _ => q α' H' e R
      | bk _ _ => exact q.elim
      | ct _ _ => exact q.elim
      | no => exact q.elim
    exact fin q
end
def eKin (F : SX) (c : Nat) : SE := fun _ S => F c S
section
variable {X : Cx} {G : Pm} {W : WX} {i c k : Nat} {a f : Addr} {fd : FuncData} {ps : List Str} {F : SX} {oe : Obj} {n x : Str} {p p1 pos : Pos}
theorem je_kin (J : FJE X.prog X.w X.K X.mg X.base G k f fd ps F) (hr : L2H.RoomH k X.A) (hp : (a, oe) ∈ X.pn) (hx : isX c = true) (hz : Zc (.ref (G.ca c)) none oe) (hf : ∃ us, oe.data = .fields us) (hm : X.mg x = some (.ref f)) (tk : Takes X W)
    (hN : X.N[i]? = some n := by rfl) (hv : Vis X.env.scope n := by first | exact Or.inl rfl | exact Or.inr (Or.inl rfl) | exact Or.inr (Or.inr rfl)) (hd : (n == ("__debug__" : Str)) = false := by decide) (hcd : (n == ("__classdict__" : Str)) = false := by decide)
    (hg : Gl X x := by rfl) (hdb : (x == ("__debug__" : Str)) = false := by decide) (h1 : starEach [.Name n p1] X.env = (false, eval (.Name n p1) X.env) :: starEach [] X.env := by rfl) (hpl : (backTo pos (starEach [] X.env)).any (·.1) = false := by rfl) :
    JE X G W (some (i, a)) (.Call (.Name x p) [.Name n p1] [] pos) (eKin F c) :=
  peI (pe_callE (p := (a, oe)) (E := WE W) J.ok hr hp hg hm J.kp J.bd (fun σ => passAt tk σ) (pa_cons (pe_var (i := i) hN hv hd hcd) pa_nil h1) hdb h1 hpl) fun σ H Q ⟨α, S, φ, R, Fr, q⟩ =>
    ⟨.ref a, (Fr.xi _ rfl).1, rfl, c, α, S, hx, hz, hf, R, PR.sw (fun _ _ _ z => z) q⟩
theorem roomS {k : Nat} {A : Around} {o : Option Value} (r : Room k A) : L2H.RoomH k (A.mark o) := ⟨r.dp, r.un⟩
theorem unS {k : Nat} {A : Around} {o : Option Value} (r : Room k A) : (A.mark o).units + 64 < cLine := r.units
theorem unH {k : Nat} {A : Around} (r : L2H.RoomH k A) : A.units + 64 < cLine := by have := r.un; omega
end
/-! ### a def called while an exception is handled -/
structure FJH (P : Program) (w : World) (K : PySem.W.Frag) (mg : Str → Option Value) (base : Heap) (G : Pm) (k : Nat) (f : Addr) (fd : FuncData) (ps : List Str) (F : SF) : Prop where
  ok : FnE P w K mg base k f fd ps (fun _ => spF K G ps.length F)
  ar : ∀ ds S, ds.length ≠ ps.length → F ds S = .no
  bd : Binds K fd ps []
  kp : PySem.W.keepIn K (.ref f) = true
def sNo : SS := fun _ _ => .no
def eNo : SE := fun _ _ => .no
def mkH (n m : Nat) (fb : SS) : SF := fun ds S => if ds.length = n then finS (noX (fb (ds.map some ++ List.replicate (m - n) none) S)) else .no
section
variable {P : Program} {w : World} {K : PySem.W.Frag} {mg : Str → Option Value} {base : Heap} {G : Pm}
theorem FJH.use {k : Nat} {f : Addr} {fd : FuncData} {ps : List Str} {F : SF} (h : FJH P w K mg base G k f fd ps F) {W : WX} {α : List Addr} {S : Store} {H : Hp} {σ : L2.St} {ds : List D} {vs : List V} {Q : VK}
    (R : RSt K G α S H) (r : VRs G α H ds vs) (q : PR K G W α H σ (vrel G) Q (F ds S)) : spF K G ps.length F vs H Q (WE W σ) := by
  refine ⟨?_, α, S, ds, R, r, PR.sw (fun _ _ _ z => z) q⟩
  by_cases e : ds.length = ps.length
  · rw [← r.length]; exact e
  · rw [h.ar ds S e] at q
    exact q.elim
theorem fjH_of {x qual : Str} {st : Stmt} {f : Addr} {fd : FuncData} {N ps : List Str} {k : Nat} {fb : SS} (F : Fun K x qual st f fd) (Sc : FnScope N ps (defScope st))
    (hb : ∀ (kV doc pm : Value) (an : Option Addr) (cdv ct : Value) (us : List Value), us.length = ps.length → bindArgs (PySem.W.fnOf x qual (defArgs st) (defBody st) (defScope st) .none kV doc pm an cdv ct) ⟨us, []⟩ = pure (ps.zip us))
    (body : ∀ (cdv : Value) (A : Around) (outer : List Env) (s : Shared) (H : Hp) (E : XK) (p : Addr × Obj), L2H.RoomH k (A.deeper (envOfC qual (defScope st) s.heap.objs.size f cdv)) →
      JSs (cxE P w K mg base N qual (defScope st) f cdv A outer s H E p) G W0 none (defBody st) fb) : FJH P w K mg base G (k + 1) f fd ps (mkH ps.length N.length fb) := by
  refine ⟨fnE_of F Sc (fun p vs H Q E h => h.1) fun cdv A outer s H vs Q E p hr h => ⟨_, body cdv A outer s H E p hr, ?_⟩, fun ds S e => if_neg e, F.binds hb, F.kp⟩
  obtain ⟨hl, α, S, ds, R, r, q⟩ := h
  refine ⟨α, S, _, R, RF.start r ps.length hl, ?_⟩
  unfold mkH at q
  rw [if_pos (by rw [r.length]; exact hl)] at q
  cases e : fb (ds.map some ++ List.replicate (N.length - ps.length) none) S with
  | nx _ _ => rw [e] at q; exact fun α' H' _ e R _ => q α' H' _ e R .non
  | rt _ _ => rw [e] at q; exact q
  | exc _ _ _ => rw [e] at q; exact q.elim
  | bk _ _ => rw [e] at q; exact q.elim
  | ct _ _ => rw [e] at q; exact q.elim
  | no => rw [e] at q; exact q.elim
end
section
variable {X : Cx} {G : Pm} {W : WX} {ξ : Option (Nat × Addr)} {k c : Nat} {f : Addr} {fd : FuncData} {ps : List Str} {F : SF} {x m : Str} {q pos apos : Pos} {e o : Expr} {es : List Expr} {fo : SE} {r : SA} {p : Addr × Obj} {st : Stmt} {sts : List Stmt}
theorem js_no : JS X G W ξ st sNo := ⟨fun _ _ _ _ _ _ ⟨_, _, _, _, _, h⟩ => h.elim⟩
theorem jss_no : JSs X G W ξ sts sNo := ⟨fun _ _ _ _ _ _ ⟨_, _, _, _, _, h⟩ => h.elim⟩
theorem je_no : JE X G W ξ e eNo := ⟨fun _ _ _ _ _ _ ⟨_, _, _, _, _, h⟩ => h.elim⟩
theorem je_methH {pl : Sem Bool} (he : JE X G W ξ o fo) (cl : Cls X.K (G.ca c)) (hm : Meth X.K (G.ca c) m f) (J : FJH X.prog X.w X.K X.mg X.base G k f fd ps F) (hr : L2H.RoomH k X.A) (hp : p ∈ X.pn) (tk : Takes X W) (ha : JA X G W ξ (e :: es) r)
    (hst : starEach (e :: es) X.env = (false, eval e X.env) :: starEach es X.env := by rfl) (hpl : (backTo pos (starEach es X.env)).any (·.1) = false := by rfl)
    (ht : eval (.Call (.Attribute o m apos) (e :: es) [] pos) X.env = (do
      let ov ← eval o X.env
      standAt apos.atName
      let (f, first) ← holding [ov] (getMethod ov m pl)
      callWith pos f first (backTo pos (starEach (e :: es) X.env)) (backToKw pos (keywordEach [] X.env))) := by rfl) :
    JE X G W ξ (.Call (.Attribute o m apos) (e :: es) [] pos) (eMeth c m F fo r) :=
  peI (pe_methE (p := p) (pl := pl) he cl hm J.ok hr hp J.bd (fun σ => passAt tk σ) ha hst hpl ht) fun σ H Q ⟨α, S, φ, R, Fr, h⟩ => ⟨α, S, φ, R, Fr, PR.bind h fun d S1 α1 H1 v e1 R1 r1 h1 => by
    cases d with
    | ref n =>
      obtain ⟨a, ha⟩ : ∃ a, v = .ref a ∧ α1[n]? = some a := by cases r1 with | ref q => exact ⟨_, rfl, q⟩
      obtain ⟨rfl, ha⟩ := ha
      simp only at h1
      split at h1
      · rename_i hi
        obtain ⟨dx, fs, e2, e3⟩ := isIns_at R1 ha hi
        exact ⟨a, dx, fs, rfl, e2, e3, α1, S1, φ, R1, Fr.mono e1, PR.bind h1 fun ds S2 α2 H2 vs e4 R2 r2 h2 => J.use R2 (.cons (.ref (e4.get ha)) r2) h2⟩
      · exact h1.elim
    | _ => exact h1.elim⟩
theorem je_methH0 {pl : Sem Bool} (he : JE X G W ξ o fo) (cl : Cls X.K (G.ca c)) (hm : Meth X.K (G.ca c) m f) (J : FJH X.prog X.w X.K X.mg X.base G k f fd ps F) (hr : L2H.RoomH k X.A) (hp : p ∈ X.pn) (tk : Takes X W)
    (ht : eval (.Call (.Attribute o m apos) [] [] pos) X.env = (do
      let ov ← eval o X.env
      standAt apos.atName
      let (f, first) ← holding [ov] (getMethod ov m pl)
      callWith pos f first (backTo pos (starEach [] X.env)) (backToKw pos (keywordEach [] X.env))) := by rfl) :
    JE X G W ξ (.Call (.Attribute o m apos) [] [] pos) (eMeth c m F fo aNil) :=
  peI (pe_methE0 (p := p) (pl := pl) he cl hm J.ok hr hp J.bd (fun σ => passAt tk σ) ht) fun σ H Q ⟨α, S, φ, R, Fr, h⟩ => ⟨α, S, φ, R, Fr, PR.bind h fun d S1 α1 H1 v e1 R1 r1 h1 => by
    cases d with
    | ref n =>
      obtain ⟨a, ha⟩ : ∃ a, v = .ref a ∧ α1[n]? = some a := by cases r1 with | ref q => exact ⟨_, rfl, q⟩
      obtain ⟨rfl, ha⟩ := ha
      simp only at h1
      split at h1
      · rename_i hi
        obtain ⟨dx, fs, e2, e3⟩ := isIns_at R1 ha hi
        exact ⟨a, dx, fs, rfl, e2, e3, J.use R1 (.cons (.ref ha) .nil) h1⟩
      · exact h1.elim
    | _ => exact h1.elim⟩
end
end DebtJ

set_option Elab.async false
set_option linter.all false
set_option maxRecDepth 100000
set_option maxHeartbeats 1000000
/-! texts: not in, for over a text, split, join, rfind, int(text); dicts of constants: written ones, displays. -/
namespace DebtJ
open PySem PySem.Spec PyProof.Rows L2

section
variable {X : Cx} {G : Pm} {W : WX} {ξ : Option (Nat × Addr)} {K : PySem.W.Frag} {tg e a b : Expr} {p pos : Pos} {fe f g : SE}
theorem u1 {k : Nat} {A : Around} (r : Room k A) : A.units + 1 < cLine := by have := r.un; omega
theorem u1H {k : Nat} {A : Around} (r : L2H.RoomH k A) : A.units + 1 < cLine := by have := r.un; omega
/-! ### a sign, not in a text -/
def gNotS : G2 := fun a b S => match a, b with
  | .str x, .str z => match x.cps.toList with
    | [c] => some (.bl (!decide (c ∈ z.cps.toList)), S)
    | _ => none
  | _, _ => none
def rNotS : R2 := fun x y H Q => ∃ (c : Nat) (z : Str), x = .str ⟨#[c]⟩ ∧ y = .str z ∧ Q (.bl (!decide (c ∈ z.cps.toList))) H
theorem op_notS : OpR X (compareOp .NotIn) rNotS := op_notIn_sign
theorem o_notS : Op2 K G rNotS gNotS := by
  intro α S H d1 d2 v1 v2 Q b S' R r1 r2 h q
  cases d1 <;> cases d2 <;> simp only [gNotS] at h <;> try (cases h; done)
  rename_i x z
  cases r1; cases r2
  split at h
  · rename_i c e
    cases h
    obtain ⟨l⟩ := x
    obtain ⟨l⟩ := l
    simp only at e
    subst e
    exact ⟨c, z, rfl, rfl, q α H _ (Ext.refl _ _) R (.bl _)⟩
  · cases h
/-! ### for over a text -/
def stI (x : Str) : ItS := ⟨x.cps.size, fun i _ => (x.cps[i]?).map fun c => .str ⟨#[c]⟩, fun _ => true⟩
def iStrJ (f : SE) : SI := fun φ S => (f φ S).bind fun d S1 => match d with
  | .str x => .ok (stI x) S1
  | _ => .no
theorem ji_str (he : JE X G W ξ e fe) : JI X G W ξ tg e (iStrJ fe) :=
  piI (pi_str he) fun σ H Q ⟨α, S, φ, R, F, h⟩ => ⟨α, S, φ, R, F, PR.bind h fun d S1 α1 H1 v e1 R1 r1 h1 => by
    split at h1
    · rename_i x
      cases r1
      refine ⟨x, rfl, h1 α1 H1 _ (Ext.refl _ _) R1 fun α' S' H' i e R' => ⟨fun d hi hd => ⟨hi, fun y H2 z => ?_⟩, fun hi _ => Nat.le_of_eq hi.symm⟩⟩
      obtain ⟨z1, c, z2, z3⟩ := z
      subst z3
      have hd : (x.cps[i]?).map (fun c => D.str ⟨#[c]⟩) = some d := hd
      rw [z2] at hd
      cases hd
      exact ⟨z1, .str _⟩
    · exact h1.elim⟩
/-! ### split, join, rfind -/
theorem strs_rel {α : List Addr} {H : Hp} : ∀ ys : List Str, VRs G α H (ys.map D.str) (ys.map V.str)
  | [] => .nil
  | y :: r => .cons (.str y) (strs_rel r)
def gSplit : GM := fun d ds S => match d, ds with
  | .str a, [.str b] => if b.length = 0 then none else if small (a.length + 2) then some (.ref S.length, S ++ [.lst ((Txt.split a b).map .str)]) else none
  | _, _ => none
def rSplit : V → List V → Hp → VK → Prop := fun x xs H Q => ∃ a b, x = .str a ∧ xs = [.str b] ∧ (b.length == 0) = false ∧ a.length + 2 ≤ sizeLine ∧ rNewStrs (Txt.split a b) H Q
theorem mt_splitJ : MtR X "str.split" rSplit := mt_split
theorem m_split : MOp K G rSplit gSplit := by
  intro α S H d ds v vs Q b S' R r rs h q
  unfold gSplit at h
  split at h
  · rename_i a c
    cases r
    obtain ⟨w, rfl, rw'⟩ := rs.one
    cases rw'
    split at h
    · cases h
    · rename_i h0
      split at h
      · rename_i hs
        cases h
        refine ⟨a, c, rfl, rfl, by simpa using h0, small_ok hs, fun p hp => ?_⟩
        obtain ⟨z1, z2, z3⟩ := R.newL hp (strs_rel (Txt.split a c))
        exact q _ _ _ z1 z2 z3
      · cases h
  · cases h
def strsOf : List D → Option (List Str)
  | [] => some []
  | .str b :: r => (strsOf r).map (b :: ·)
  | _ :: _ => none
theorem strsOf_rel {α : List Addr} {H : Hp} : ∀ {ds : List D} {vs : List V} {bs : List Str}, VRs G α H ds vs → strsOf ds = some bs → vs = bs.map V.str
  | [], _, _, .nil, h => by cases h; rfl
  | d :: r, _, bs, .cons r1 t, h => by
    cases d <;> simp only [strsOf] at h <;> try (cases h; done)
    cases r1
    cases e : strsOf r with
    | none => rw [e] at h; cases h
    | some q => rw [e] at h; cases h; rw [List.map_cons, strsOf_rel t e]
def gJoin : GM := fun d ds S => match d, ds with
  | .str a, [.ref n] => match (lget S n).bind strsOf with
    | some ys => if (ys.map (·.length)).sum + ys.length * a.length ≤ 16777216 then some (.str (Txt.join a ys), S) else none
    | none => none
  | _, _ => none
def rJoin (K : PySem.W.Frag) : V → List V → Hp → VK → Prop := fun x xs H Q => ∃ a p, ∃ ys : List Str, x = .str a ∧ xs = [.ref p] ∧ (SqL K H p (ys.map V.str) ∨ SqT K H p (ys.map V.str)) ∧
    (ys.map (·.length)).sum + ys.length * a.length ≤ 16777216 ∧ Q (.str (Txt.join a ys)) H
theorem mt_joinJ : MtR X "str.join" (rJoin X.K) := mt_join
theorem m_join : MOp K G (rJoin K) gJoin := by
  intro α S H d ds v vs Q b S' R r rs h q
  unfold gJoin at h
  split at h
  · rename_i a n
    cases r
    obtain ⟨w, rfl, rw'⟩ := rs.one
    obtain ⟨x, rfl, hx⟩ := rw'.refI
    split at h
    · rename_i ys e
      split at h
      · rename_i hs
        cases h
        obtain ⟨xs, e1, e2⟩ := Option.bind_eq_some_iff.mp e
        obtain ⟨us, h1, h2⟩ := lget_at R hx e1
        exact ⟨a, x, ys, rfl, rfl, .inl (.inl (.inl (by rw [← strsOf_rel h2 e2]; exact h1))), hs, q α H _ (Ext.refl _ _) R (.str _)⟩
      · cases h
    · cases h
  · cases h
def gRfind : GM := fun d ds S => match d, ds with
  | .str a, [.str b] => some (.int (Txt.rfind a b), S)
  | _, _ => none
def rRfind : V → List V → Hp → VK → Prop := fun x xs H Q => ∃ a b, x = .str a ∧ xs = [.str b] ∧ Q (.int (Txt.rfind a b)) H
theorem mt_rfindJ : MtR X "str.rfind" rRfind := mt_rfind
theorem m_rfind : MOp K G rRfind gRfind := by
  intro α S H d ds v vs Q b S' R r rs h q
  unfold gRfind at h
  split at h
  · rename_i a c
    cases r
    obtain ⟨w, rfl, rw'⟩ := rs.one
    cases rw'
    cases h
    exact ⟨a, c, rfl, rfl, q α H _ (Ext.refl _ _) R (.int _)⟩
  · cases h
/-! ### int(text) -/
def gIntS : GC := fun ds S => match ds with
  | [.str a] => match PySem.intText? a with
    | some n => if a.length ≤ 640 then some (.int n, S) else none
    | none => none
  | _ => none
def rIntS : List V → Hp → VK → Prop := fun xs H Q => ∃ a n, xs = [.str a] ∧ PySem.intText? a = some n ∧ a.length ≤ 640 ∧ Q (.int n) H
theorem call_intS : CallR X (.type "int") rIntS := call_int_str
theorem c_intS : COp K G rIntS gIntS := by
  intro α S H ds vs Q b S' R r h q
  unfold gIntS at h
  split at h
  · rename_i a
    obtain ⟨v, rfl, r1⟩ := r.one
    cases r1
    split at h
    · rename_i n e
      split at h
      · rename_i hs
        cases h
        exact ⟨a, n, rfl, e, hs, q α H _ (Ext.refl _ _) R (.int _)⟩
      · cases h
    · cases h
  · cases h
/-- str of an int, of a text -/
def gStrT : GC := fun ds S => match ds with
  | [.str a] => some (.str a, S)
  | _ => none
def rStrT : List V → Hp → VK → Prop := fun xs H Q => ∃ a, xs = [.str a] ∧ Q (.str a) H
theorem c_strT : COp K G rStrT gStrT := by
  intro α S H ds vs Q b S' R r h q
  unfold gStrT at h
  split at h
  · rename_i a
    obtain ⟨v, rfl, r1⟩ := r.one
    cases r1
    cases h
    exact ⟨a, rfl, q α H _ (Ext.refl _ _) R (.str _)⟩
  · cases h
def gStrA : GC := fun ds S => (gStrI ds S).or (gStrT ds S)
def rStrA : List V → Hp → VK → Prop := fun xs H Q => rStrI xs H Q ∨ rStrT xs H Q
theorem call_strTA : CallR X (.type "str") rStrA := CallR.or call_strA SkE.call_str_str
theorem c_strA : COp K G rStrA gStrA := COp.or c_strI c_strT
/-! ### a dict that the module wrote: texts, to ints -/
def KdS (K : PySem.W.Frag) (w : World) (d : Addr) (kvs : List (Str × Int)) : Prop := ∃ es n, KDict K w d es n ∧ ∀ z, match kvs.lookup z with
  | some i => ∃ u, PySem.W.nsIn K d z = some (some u) ∧ RelV (.int i) u
  | none => PySem.W.nsIn K d z = some none
def tKdNot (kvs : List (Str × Int)) (f : SE) : SE := fun φ S => (f φ S).bind fun x S1 => match x with
  | .str z => .ok (.bl (kvs.lookup z).isNone) S1
  | _ => .no
def eKdGet (kvs : List (Str × Int)) (f : SE) : SE := fun φ S => (f φ S).bind fun x S1 => match x with
  | .str z => match kvs.lookup z with
    | some i => .ok (.int i) S1
    | none => .no
  | _ => .no
theorem pe_ref {x : Str} {d : Addr} (hg : Gl X x) (hm : X.mg x = some (.ref d)) (hd : (x == ("__debug__" : Str)) = false := by decide) : PE X (.Name x p) (tC (.ref d)) := pe_glob hg hm rfl hd
theorem jt_kdNot {x : Str} {d : Addr} {kvs : List (Str × Int)} (D : KdS X.K X.w d kvs) (hm : X.mg x = some (.ref d)) (ha : JE X G W ξ a f) (hg : Gl X x := by rfl) (hd : (x == ("__debug__" : Str)) = false := by decide)
    (hb : behindInMarks .NotIn (.Name x p) = false := by rfl) : JT X G W ξ (.Compare a [.NotIn] [.Name x p] pos) (tOf (tKdNot kvs f)) := by
  obtain ⟨es, n, kd, hk⟩ := D
  refine ptI (pt_cmpR (op_notIn_kd kd) ha (pe_ref hg hm hd) hb) fun σ H Q h => tTest_of (fun σ H Q h => ?_) h
  obtain ⟨α, S, φ, R, F, h⟩ := h
  refine ⟨α, S, φ, R, F, PR.bind h fun x S1 α1 H1 v1 e1 R1 r1 h1 => ?_⟩
  split at h1
  · rename_i z
    cases r1
    have q := hk z
    split at q
    · rename_i i e
      obtain ⟨u, q1, q2⟩ := q
      rw [e] at h1
      exact ⟨z, some u, rfl, rfl, q1, h1 α1 H1 _ (Ext.refl _ _) R1 (.bl _)⟩
    · rename_i e
      rw [e] at h1
      exact ⟨z, none, rfl, rfl, q, h1 α1 H1 _ (Ext.refl _ _) R1 (.bl _)⟩
  · exact h1.elim
theorem je_kdGet {x : Str} {d : Addr} {kvs : List (Str × Int)} (D : KdS X.K X.w d kvs) (hm : X.mg x = some (.ref d)) (ha : JE X G W ξ a f) (hg : Gl X x := by rfl) (hs : PlainIx a := by exact fun _ _ => rfl) (hd : (x == ("__debug__" : Str)) = false := by decide) :
    JE X G W ξ (.Subscript (.Name x p) a pos) (eKdGet kvs f) := by
  obtain ⟨es, n, kd, hk⟩ := D
  refine peI (pe_ix ix_kdict (pe_ref hg hm hd) ha hs) fun σ H Q ⟨α, S, φ, R, F, h⟩ => ?_
  refine ⟨α, S, φ, R, F, PR.bind h fun x S1 α1 H1 v1 e1 R1 r1 h1 => ?_⟩
  split at h1
  · rename_i z
    cases r1
    split at h1
    · rename_i i e
      have q := hk z
      rw [e] at q
      obtain ⟨u, q1, q2⟩ := q
      exact ⟨d, z, .int i, rfl, rfl, ⟨es, n, u, kd.at_, kd.lit, q1, q2⟩, h1 α1 H1 _ (Ext.refl _ _) R1 (.int _)⟩
    · exact h1.elim
  · exact h1.elim
/-- what is written at it -/
def entD (P : Params) : List (Str × Int × Tok × Tok) → List DictEntry
  | [] => []
  | q :: r => ⟨PyData.keyHash P q.1, .str q.1 q.2.2.1, .int q.2.1 q.2.2.2⟩ :: entD P r
theorem entD_lit (P : Params) : ∀ l, PySem.W.KeysLit P (entD P l)
  | [] => trivial
  | q :: r => ⟨⟨_, _, rfl, rfl⟩, entD_lit P r⟩
theorem entD_find (P : Params) (z : Str) (l : List (Str × Int × Tok × Tok)) : match (l.map fun q => (q.1, q.2.1)).lookup z with
    | some i => ∃ e, (entD P l).find? (·.key.isStr z) = some e ∧ RelV (.int i) e.val
    | none => (entD P l).find? (·.key.isStr z) = none := by
  induction l with
  | nil => exact rfl
  | cons q r ih =>
    obtain ⟨k, i, t, u⟩ := q
    have es : (Value.str k t).isStr z = (k == z) := rfl
    cases hb : z == k with
    | true =>
      have e : z = k := by simpa using hb
      subst e
      simp only [List.map_cons, List.lookup_cons, beq_self_eq_true, entD, List.find?_cons, es]
      exact ⟨_, rfl, ⟨u, rfl⟩⟩
    | false =>
      have e : (k == z) = false := by
        cases h : k == z with
        | false => rfl
        | true =>
          have : k = z := by simpa using h
          subst this
          simp at hb
      simp only [List.map_cons, List.lookup_cons, hb, entD, List.find?_cons, es, e]
      exact ih
theorem entD_ref (P : Params) : ∀ l, (entD P l).any (·.refKey) = false
  | [] => rfl
  | q :: r => by
    show ((⟨PyData.keyHash P q.1, .str q.1 q.2.2.1, .int q.2.1 q.2.2.2⟩ : DictEntry).refKey || (entD P r).any (·.refKey)) = false
    rw [entD_ref P r]
    rfl
theorem kdS_of {w : World} {d : Addr} {l : List (Str × Int × Tok × Tok)} {n : Nat} (h : K.lookup d = some ⟨.type "dict", none, .dict (List.toArray (entD w.params l)) n, #[]⟩) (low : (d == sysModules) = false) :
    KdS K w d (l.map fun q => (q.1, q.2.1)) := by
  refine ⟨_, n, ⟨h, entD_lit _ _, low⟩, fun z => ?_⟩
  have q := entD_find w.params z l
  split at q
  · rename_i i e
    obtain ⟨x, q1, q2⟩ := q
    refine ⟨x.val, ?_, q2⟩
    unfold PySem.W.nsIn
    rw [h]
    simp only [q1]
  · rename_i e
    unfold PySem.W.nsIn
    rw [h]
    simp only [q, entD_ref, Bool.false_eq_true, if_false]
/-! ### a dict display: texts, to ints -/
def kvD (qs : List (Str × Int)) : List (Key × D) := qs.map fun q => (.inr q.1, .int q.2)
def kvV (qs : List (Str × Int)) : List (Key × V) := qs.map fun q => (.inr q.1, .int q.2)
def eDisp (qs : List (Str × Int)) : SE := fun _ S => .ok (.ref S.length) (S ++ [.dic (kvD qs)])
theorem kv_rel {α : List Addr} {H : Hp} : ∀ qs : List (Str × Int), KVl G α H (kvD qs) (kvV qs)
  | [] => .nil
  | q :: r => .cons ⟨rfl, .int _⟩ (kv_rel r)
theorem pairs_c {σ : L2.St} {H : Hp} : ∀ {qs : List (Str × Int)} {Q : List (V × V) → Hp → Prop}, Q (qs.map fun q => (V.str q.1, V.int q.2)) H → tPairs (qs.map fun q => (tC (.str q.1), tC (.int q.2))) σ H Q
  | [], _, h => h
  | q :: r, _, h => pairs_c (qs := r) h
theorem je_disp (qs : List (Str × Int)) {keys : List (Option Expr)} {values : List Expr} (h : PPs X pos keys values (qs.map fun q => (tC (.str q.1), tC (.int q.2)))) (hm : mergeK [] (kvV qs) = kvV qs) (h15 : qs.length ≤ 15)
    (hall : keys.all (·.isSome) = true := by rfl) (hl : keys.length = values.length := by rfl) (h0 : keys ≠ [] := by simp) (hk : keys.length ≤ 15 := by decide) : JE X G W ξ (.Dict keys values pos) (eDisp qs) :=
  peI (pe_disp h hall hl h0 hk) fun σ H Q ⟨α, S, φ, R, F, h⟩ => fun p hp => pairs_c ⟨upd_same, kvV qs, by simp [kvV, kV], by simpa [kvV] using h15, by
    rw [hm, show upd (upd H p (.dK [])) p (.dK (kvV qs)) = upd H p (.dK (kvV qs)) from by funext x; by_cases e : x = p <;> simp [upd, e]]
    exact h _ _ _ (Ext.app hp) (R.app hp ⟨_, upd_same, kv_rel qs⟩) (.ref (by rw [← R.len]; simp))⟩
/-! ### not in a dict, of a dict -/
def dget (S : Store) (n : Nat) : Option (List (Key × D)) := match S[n]? with
  | some (.dic kvs) => some kvs
  | _ => none
theorem dget_at {α : List Addr} {S : Store} {H : Hp} {n : Nat} {x : Addr} {kvs : List (Key × D)} (R : RSt K G α S H) (hx : α[n]? = some x) (h : dget S n = some kvs) : ∃ vs, H x = some (.dK vs) ∧ KVl G α H kvs vs := by
  unfold dget at h
  split at h
  · rename_i ks e
    cases h
    obtain ⟨y, h1, vs, h2, h3⟩ := R.ob n _ e
    rw [hx] at h1
    cases h1
    exact ⟨vs, h2, h3⟩
  · cases h
def keyD : D → Option Key
  | .int i => some (.inl i)
  | .str s => some (.inr s)
  | _ => none
theorem keyD_rel {α : List Addr} {H : Hp} {d : D} {v : V} {k : Key} (r : VR G α H d v) (h : keyD d = some k) : v = kV k := by
  cases d <;> simp only [keyD] at h <;> try (cases h; done)
  all_goals (cases r; cases h; rfl)
def valD (kvs : List (Key × D)) (k : Key) : Option D := (kvs.find? fun kv => decide (kv.1 = k)).map (·.2)
theorem valD_rel {α : List Addr} {H : Hp} {k : Key} {kvs : List (Key × D)} {vs : List (Key × V)} (h : KVl G α H kvs vs) : match valD kvs k with
    | some d => ∃ v, valV vs k = some v ∧ VR G α H d v
    | none => valV vs k = none := by
  unfold KVl at h
  induction h with
  | nil => exact rfl
  | @cons p q r s h t ih =>
    obtain ⟨k1, d⟩ := p
    obtain ⟨k2, v⟩ := q
    obtain ⟨e, q⟩ := h
    simp only at e q
    subst e
    unfold valD valV at ih ⊢
    by_cases hk : k1 = k
    · simp only [List.find?_cons, hk, decide_true, Option.map_some]
      exact ⟨v, rfl, q⟩
    · simp only [List.find?_cons, hk, decide_false]
      exact ih
def eDNot (f g : SE) : SE := fun φ S => (f φ S).bind fun x S1 => (g φ S1).bind fun y S2 => match keyD x, y with
  | some k, .ref n => match dget S2 n with
    | some kvs => .ok (.bl (!(valD kvs k).isSome)) S2
    | none => .no
  | _, _ => .no
def eDGet (f g : SE) : SE := fun φ S => (f φ S).bind fun x S1 => (g φ S1).bind fun y S2 => match x, keyD y with
  | .ref n, some k => match (dget S2 n).bind fun kvs => valD kvs k with
    | some d => .ok d S2
    | none => .no
  | _, _ => .no
theorem ptB {t : TE} {σ : L2.St} {H : Hp} {Q : Bool → Hp → Prop} (h : tTest t σ H Q) : tB t σ H Q := h
theorem jt_dnot (hu : X.A.units + 1 < cLine) (ha : JE X G W ξ a f) (hb : JE X G W ξ b g) (h1 : behindInMarks .NotIn b = false := by rfl) : JT X G W ξ (.Compare a [.NotIn] [b] pos) (tOf (eDNot f g)) := by
  refine ptI (pt_cmp (pc_dnotin hu ha hb) h1) fun σ H Q h => tTest_of (fun σ H Q h => ?_) h
  obtain ⟨α, S, φ, R, F, h⟩ := h
  refine ⟨α, S, φ, R, F, PR.bind h fun x S1 α1 H1 v1 e1 R1 r1 h1 => ?_⟩
  refine ⟨α1, S1, φ, R1, F.mono e1, PR.bind h1 fun y S2 α2 H2 v2 e2 R2 r2 h2 => ?_⟩
  split at h2
  · rename_i k n e0
    obtain ⟨x, rfl, hx⟩ := r2.refI
    split at h2
    · rename_i kvs e3
      obtain ⟨vs, q1, q2⟩ := dget_at R2 hx e3
      have z := valD_rel (k := k) q2
      refine ⟨x, _, rfl, keyD_rel (r1.mono e2) e0 ▸ DGet.k (k := k) q1, h2 α2 H2 _ (Ext.refl _ _) R2 ?_⟩
      split at z
      · rename_i d e4
        obtain ⟨v, z1, z2⟩ := z
        rw [e4, z1]
        exact .bl _
      · rename_i e4
        rw [e4, z]
        exact .bl _
    · exact h2.elim
  · exact h2.elim
theorem je_dget (hu : X.A.units + 1 < cLine) (ha : JE X G W ξ a f) (hb : JE X G W ξ b g) (hs : NoSl b := by exact fun _ _ => rfl) : JE X G W ξ (.Subscript a b pos) (eDGet f g) := by
  refine peI (pe_dget hu ha hb hs) fun σ H Q ⟨α, S, φ, R, F, h⟩ => ?_
  refine ⟨α, S, φ, R, F, PR.bind h fun x S1 α1 H1 v1 e1 R1 r1 h1 => ?_⟩
  refine ⟨α1, S1, φ, R1, F.mono e1, PR.bind h1 fun y S2 α2 H2 v2 e2 R2 r2 h2 => ?_⟩
  split at h2
  · rename_i n k e0
    obtain ⟨x, rfl, hx⟩ := (r1.mono e2).refI
    split at h2
    · rename_i d e3
      obtain ⟨kvs, e4, e5⟩ := Option.bind_eq_some_iff.mp e3
      obtain ⟨vs, q1, q2⟩ := dget_at R2 hx e4
      have z := valD_rel (k := k) q2
      rw [e5] at z
      obtain ⟨v, z1, z2⟩ := z
      exact ⟨x, v, rfl, by rw [keyD_rel r2 e0, ← z1]; exact DGet.k (k := k) q1, h2 α2 H2 _ (Ext.refl _ _) R2 z2⟩
    · exact h2.elim
  · exact h2.elim
end
end DebtJ

set_option Elab.async false
set_option linter.all false
set_option maxRecDepth 100000
set_option maxHeartbeats 1000000
/-! a list comprehension whose item may raise: the exception leaves the block, then the def. -/
namespace DebtJ
open PySem PySem.Spec PyProof.Rows L2

/-! ### a frame notes an exception, whatever was noted -/
section
variable {M : Model} {A : Around} {E : Value → Shared → Prop} {s : Shared} {Z : Obj → Prop} {B : Heap} {env : Env} {outer l : List Env} {L e : Addr} {fl : Value}
theorem note_any {Q : Unit → Shared → Prop} (hZ : HandSPX.Steady Z) (hfr : A.frames = some (env :: outer)) (hf : env.frame = some L)
    (hkb : B.StaysIn s.heap) (hen : B.get? e = none) (hl : s.heap.FunFrames B (env :: outer)) (ht : HandSPX.TracedZ s.heap B e Z fl)
    (hQ : ∀ h', HandSPX.HeldZ B (env :: outer) e Z L h' → s.heap.UpToSlots h' → Q () { s with heap := h' }) : wpAny M A (noteFrame (.ref e) env) Q E s := by
  by_cases hfl : fl = rawInt L
  · subst hfl
    exact HandSPX.againZ hf ht (hQ s.heap ⟨hkb, hen, hl, ht⟩ (Heap.UpToSlots.refl _))
  obtain ⟨oe, vs, T, oT, ts, he, hz, hd, h1, hnT, hTe, hT, hdT, h3⟩ := ht
  unfold noteFrame
  simp only [hf]
  refine wpAny_bind (wpAny_field he hd h1 ?_)
  rw [if_pos (show (Value.ref T != Value.none) = true from by simp)]
  refine wpAny_bind (wpAny_field hT hdT h3 ?_)
  rw [if_neg (show ¬ ((fl == rawInt L) = true) from by simpa using hfl)]
  refine wpAny_bind (wpAny_setField hT hdT (Array.getElem?_eq_some_iff.mp h3).1 ?_)
  have oth : ∀ b, b ≠ T → (s.heap.update T (Obj.mapFields (·.setIfInBounds 3 Value.none))).get? b = s.heap.get? b := fun b hb => Heap.get?_update_other _ _ (Ne.symm hb)
  have nrec : ∀ b o, s.heap.get? b = some o → (∀ vs, o.data ≠ .fields vs) → b ≠ T := fun b o hb hnf q => by
    rw [q, hT] at hb
    cases hb
    exact hnf ts hdT
  refine HandSPX.wpAny_entryZ hZ hfr (hl.of_keeps fun b o hb hnf => ⟨o, (oth b (nrec b o hb hnf)).trans hb, rfl⟩) hf ((oth e (Ne.symm hTe)).trans he)
    (fun b o hbo => (oth b fun q => by rw [q, hnT] at hbo; cases hbo).trans (hkb b o hbo)) hen hd (Array.getElem?_eq_some_iff.mp h1).1 hz fun h' hN => ?_
  obtain ⟨x1, x2, x3, x4⟩ := hN
  exact hQ h' ⟨x1, hen, x2, x3⟩ fun b o hb hnf => x4 b o ((oth b (nrec b o hb hnf)).trans hb) hnf
theorem note_sky {Q : Unit → Shared → Prop} {L2 : Addr} (hZ : HandSPX.Steady Z) (hfr : A.frames = some (env :: outer)) (hf : env.frame = some L) (x : Sky B (env :: outer) e Z L2 s.heap)
    (hQ : ∀ h', HandSPX.HeldZ B (env :: outer) e Z L h' → s.heap.UpToSlots h' → Q () { s with heap := h' }) : wpAny M A (noteFrame (.ref e) env) Q E s := by
  rcases x with ⟨hB, hn, hl, oe, vs, he, hz, hd, h1⟩ | ⟨f1, f2, f3, f4⟩ | ⟨f1, f2, f3, f4⟩
  · exact HandSPX.look_newZ hZ hfr hl hf he hB hn hd h1 hz hQ
  · exact note_any hZ hfr hf f1 f2 f3 f4 hQ
  · exact note_any hZ hfr hf f1 f2 f3 f4 hQ
/-- passed on, out of a block whose names are let go -/
theorem pass_any {what : String} {cenv : Env} (hkb : B.StaysIn s.heap) (hl : s.heap.FunFrames B l) (ht : HandSPX.TracedZ s.heap B e Z fl)
    (h : ∀ h' fl', B.StaysIn h' → h'.FunFrames B l → HandSPX.TracedZ h' B e Z fl' → s.heap.UpToSlots h' → E (.ref e) { s with heap := h' }) :
    wpAny M A (PySem.passOn what (.ref e) cenv : Sem Value) (fun _ _ => False) E s := by
  have ht0 := ht
  obtain ⟨oe, vs, T, oT, ts, he, hz, hd, h1, hnT, hTe, hT, hdT, h3⟩ := ht
  unfold PySem.passOn
  refine wpAny_bind (wpAny_field he hd h1 ?_)
  rw [if_neg (show ¬ ((Value.ref T == Value.none) = true) from by simp)]
  refine wpAny_bind (HandSPX.setFlight_anyZ hkb hl ht0 fun h' k1 k2 k3 k4 => ?_)
  exact wpAny_throw (h h' _ k1 k2 k3 k4)
end

/-! ### it leaves the def -/
section
variable {X : Cx} {pins : List (Addr × Obj)} {σ : L2.St} {H : Hp} {sI s s' : Shared} {B : Heap} {W : WX} {E : XK}
theorem leave_any (hs : X.stack = X.env :: X.outer) (hf : X.env.frame = some X.env.locals) (hex : X.ex = []) {E₁ : Value → Shared → Prop} {a : Addr} {cls : Value} {d : Option Addr} {fl : Value}
    (I : Inv X pins σ H sI) (nb : ∀ b o, sI.heap.get? b = some o → b ∉ frs X.stack → B.get? b = some o) (up : sI.heap.UpToSlots s'.heap) (hkb : B.StaysIn s'.heap) (hen : B.get? a = none)
    (hl : s'.heap.FunFrames B X.stack) (ht : HandSPX.TracedZ s'.heap B a (Zc cls d) fl) (na : H a = none) (os : s'.os = sI.os) (ag : AllBare s'.gens) (w : E cls d H) :
    wpAny (model X.prog X.w) X.A (leaving X.env (.ref a)) (fun _ s'' => L2.CX X.prog X.w X.outer X.H_0 X.s_0 E (.ref a) s'') E₁ s' := by
  have hfr : X.A.frames = some (X.env :: X.outer) := by rw [I.ok.frames, hs]
  have nst : ∀ b o, X.s_0.heap.get? b = some o → b ∉ X.fs → b ∉ frs X.stack := fun b o e hb hm => by
    rcases List.mem_cons.mp (I.stkSub b hm) with z | z
    · have h1 := Heap.lt_size e
      rw [z] at h1
      exact absurd (Nat.lt_of_lt_of_le h1 I.ok.above) (Nat.lt_irrefl _)
    · exact hb z
  have hex' : ∀ b, b ∉ X.ex := fun b hb => by rw [hex] at hb; cases hb
  rw [hs] at hl
  unfold leaving
  refine wpAny_bind (note_any Zc.steady hfr hf hkb hen hl ht fun h1 held up1 => ?_)
  refine HandSPX.landsZ held fun h2 fly up2 => ?_
  obtain ⟨f1, f2, ⟨_, _, f3⟩, f4⟩ := fly
  refine ⟨a, B, H, cls, d, rfl, ⟨f1, f2, f3, f4⟩, I.inGround nb, ⟨fun b o e n hb => nb b o (I.base.keep b o e n hb (hex' b)) (nst b o e hb), fun b o e hb => ?_, fun b o e n => I.base.free b o e n (hex' b), fun b o e hb => ?_, I.base.tups, I.base.frzs, I.base.tbls⟩,
    na, os.trans I.os, ag, w⟩
  · obtain ⟨_, o₀, e₀, hnf⟩ := I.ok.funs.mem hb
    rw [e] at e₀
    cases e₀
    obtain ⟨sl, e1⟩ := I.base.slot b o e (I.ok.frf b hb) hb (hex' b)
    obtain ⟨sl2, e2⟩ := up b _ e1 hnf
    obtain ⟨sl3, e3⟩ := up1 b _ e2 hnf
    obtain ⟨sl4, e4⟩ := up2 b _ e3 hnf
    exact ⟨sl4, e4⟩
  · obtain ⟨o', e1⟩ := I.base.there b o e (hex' b)
    exact ⟨o', nb b o' e1 (nst b o e hb)⟩

/-! ### a block whose exceptions are wished for -/
/-- the wish about exceptions is nothing that the invariant looks at -/
theorem inv_xe {xe : Value → Shared → Prop} (I : Inv X pins σ H s) : Inv { X with xe := xe } pins σ H s :=
  ⟨⟨I.ok.mod, I.ok.kind, I.ok.glob, I.ok.blt, I.ok.above, I.ok.inj, I.ok.has, I.ok.cab, I.ok.hd, I.ok.frames, I.ok.stk, I.ok.exf, I.ok.bs, I.ok.bsz, I.ok.noex, I.ok.exfs, I.ok.funs, I.ok.frf⟩,
    I.os, I.bare, I.base, I.loc, I.cell, I.free, I.freeC, I.pin, I.hok, I.len⟩
abbrev blkX (X : Cx) (s : Shared) (H : Hp) (scope : Scope) (cenv : Env) (fp : List Addr) (xe : Value → Shared → Prop) : Cx := { X.blk s H scope cenv fp with xe := xe }
theorem frames_off {B B2 h h' : Heap} {C : Addr} (hB : ∀ b, B.get? b = none → B2.get? b = none) (hh : ∀ b, b ≠ C → h'.get? b = h.get? b) : ∀ {l : List Env}, (∀ b ∈ frs l, b ≠ C) → h.FunFrames B l → h'.FunFrames B2 l
  | [], _, _ => trivial
  | env :: r, hn, h => by
    obtain ⟨hk, ⟨L, o, hf, hb, ho, hd⟩, hr⟩ := h
    have hm : L ∈ frs (env :: r) := List.mem_filterMap.mpr ⟨env, List.mem_cons_self, hf⟩
    refine ⟨hk, ⟨L, o, hf, hB L hb, (hh L (hn L hm)).trans ho, hd⟩, frames_off hB hh (fun b hb => hn b ?_) hr⟩
    obtain ⟨e, he, q⟩ := List.mem_filterMap.mp hb
    exact List.mem_filterMap.mpr ⟨e, List.mem_cons_of_mem _ he, q⟩
/-- what a block's exception comes to -/
theorem blk_out {s3 : Shared} {H3 : Hp} {scope : Scope} {ce : Env} {fp : List Addr} {use : Option (Value → Sem Unit)} {Qf : Value → Shared → Prop} {acc : Value}
    (hs : X.stack = X.env :: X.outer) (hf : X.env.frame = some X.env.locals) (hex : X.ex = []) {E₁ : Value → Shared → Prop}
    (hx : X.xe = fun e s' => wpAny (model X.prog X.w) X.A (leaving X.env e) (fun _ s'' => L2.CX X.prog X.w X.outer X.H_0 X.s_0 E e s'') E₁ s')
    (I3 : Inv X pins σ H3 s3) (cL : ce.locals = s3.heap.objs.size) (cF : ce.frame = X.env.frame)
    (f3 : ∀ b ∈ fp, FpOk X pins H3 b ∧ b < s3.heap.objs.size) {u : Value} (x : XE (X.blk s3 H3 scope ce fp) (fun cls d _ H => E cls d H) u s') :
    notedBy (model X.prog X.w) X.A ce (fun e s'' => compPost (model X.prog X.w) X.A X.xe use Qf acc s3.heap.objs.size (.error e) s'') u s' := by
  obtain ⟨a, B, sI, pins', σ', H', cls, d, rfl, I', nb, up, sky, na, os, ag, w⟩ := x
  have nb : ∀ b o, sI.heap.get? b = some o → b ∉ frs X.stack → B.get? b = some o := nb
  have hfr : X.A.frames = some (X.env :: X.outer) := by rw [I3.ok.frames, hs]
  -- the block's own names
  have nfr : ∀ b ∈ frs X.stack, b ≠ s3.heap.objs.size := fun b hb q => by
    obtain ⟨_, o, ho, _⟩ := I3.stack.mem hb
    have z := Heap.lt_size ho
    rw [q] at z
    exact Nat.lt_irrefl _ z
  obtain ⟨m, ⟨oC, es, ep, hoC, hdC, hrC⟩, _⟩ := I'.loc
  have hoC : sI.heap.get? s3.heap.objs.size = some oC := by rw [← cL]; exact hoC
  have hBC : B.get? s3.heap.objs.size = some oC := nb _ _ hoC fun hm => nfr _ hm rfl
  have nC : H' s3.heap.objs.size = none := by
    have z : H' ce.locals = none := I'.free
    rw [cL] at z
    exact z
  have I7 : Inv X pins σ H' sI := I3.call' (ch := fp) I'.os I'.base I'.hok I'.bare fun b hb => ⟨(f3 b hb).1.2.2.2.1, (f3 b hb).1.2.1, (f3 b hb).1.2.2.2.2.1, (f3 b hb).1.2.2.2.2.2⟩
  have fC := I3.fpOk (H' := H') (Nat.le_refl s3.heap.objs.size) nC
  have sky : Sky B (X.env :: X.outer) a (Zc cls d) ce.locals s'.heap := by rw [← hs]; exact sky
  have e0 : noteFrame (.ref a) ce = noteFrame (.ref a) X.env := by
    unfold noteFrame PySem.frameOf
    rw [cF]
  unfold notedBy
  rw [e0]
  refine note_sky Zc.steady hfr hf sky fun h1 held up1 => ?_
  obtain ⟨k1, k2, k3, k4⟩ := held
  have key : ∃ m, h1.Ns s3.heap.objs.size m ∧ ∀ h', Heap.SameBut s3.heap.objs.size h1 h' → ∀ cenv : Env, cenv.locals = s3.heap.objs.size → wpAny (model X.prog X.w) X.A (PySem.passOn "comprehension.variables-let-go" (.ref a) cenv : Sem Value) (fun _ _ => False) X.xe { s' with heap := h' } := by
    refine ⟨m, ⟨oC, es, ep, k1 _ _ hBC, hdC, hrC⟩, fun h' sb cenv _ => ?_⟩
    obtain ⟨B2, b1, b2⟩ := restrict B fun b => decide (b ≠ s3.heap.objs.size)
    obtain ⟨G, g1, g2⟩ := restrict sI.heap fun b => decide (b ≠ s3.heap.objs.size)
    have bo : ∀ b o, B2.get? b = some o → b ≠ s3.heap.objs.size ∧ B.get? b = some o := fun b o e => by
      by_cases q : b = s3.heap.objs.size
      · rw [b2 b (by simp [q])] at e
        cases e
      · rw [b1 b (by simp [q])] at e
        exact ⟨q, e⟩
    have go : ∀ b o, G.get? b = some o → b ≠ s3.heap.objs.size ∧ sI.heap.get? b = some o := fun b o e => by
      by_cases q : b = s3.heap.objs.size
      · rw [g2 b (by simp [q])] at e
        cases e
      · rw [g1 b (by simp [q])] at e
        exact ⟨q, e⟩
    have bn : ∀ b, B.get? b = none → B2.get? b = none := fun b e => by
      cases q : B2.get? b with
      | none => rfl
      | some o =>
        have := (bo b o q).2
        rw [e] at this
        cases this
    have I8 : Inv X pins σ H' { sI with heap := G } :=
      I7.turned (t' := sI.toks) (it := s3.heap.objs.size) (fun b o hb e => by rw [g1 b (by simp [hb])]; exact e) fC.1 fC.2.1 fC.2.2.2.1 fC.2.2.2.2.1 fC.2.2.2.2.2
    have st2 : B2.StaysIn h' := fun b o e => (sb.2 b (bo b o e).1).trans (k1 b o (bo b o e).2)
    have fr2 : h'.FunFrames B2 X.stack := frames_off bn sb.2 nfr (by rw [hs]; exact k3)
    have tr2 : HandSPX.TracedZ h' B2 a (Zc cls d) (rawInt X.env.locals) := by
      obtain ⟨oe, vs, T, oT, ts, he, hz, hd, h1', hnT, hTe, hT, hdT, h3⟩ := k4
      have na' : a ≠ s3.heap.objs.size := fun q => by rw [q, hBC] at k2; cases k2
      have nT' : T ≠ s3.heap.objs.size := fun q => by rw [q, hBC] at hnT; cases hnT
      exact ⟨oe, vs, T, oT, ts, (sb.2 a na').trans he, hz, hd, h1', bn T hnT, hTe, (sb.2 T nT').trans hT, hdT, h3⟩
    have up2 : G.UpToSlots h' := fun b o e hnf => by
      obtain ⟨q, e⟩ := go b o e
      obtain ⟨sl, e1⟩ := up b o e hnf
      obtain ⟨sl2, e2⟩ := up1 b _ e1 hnf
      exact ⟨sl2, (sb.2 b q).trans e2⟩
    refine pass_any (l := X.stack) st2 fr2 tr2 fun h2 fl' p1 p2 p3 p4 => ?_
    rw [hx]
    exact leave_any (B := B2) hs hf hex I8 (fun b o e hb => by
      obtain ⟨q, e⟩ := go b o e
      rw [b1 b (by simp [q])]
      exact nb b o e hb) (up2.trans p4) p1 (bn a k2) p2 p3 na os ag w
  cases use <;> exact key
end

/-! ### the comprehension -/
theorem pe_lcX {X : Cx} {E : XK} {E₁ : Value → Shared → Prop} {elt tg iter : Expr} {ifs : List Expr} {scope : Scope} {own : List (Str × Nat)} {pos : Pos} {wi : TI} {g : TG} {tt : TT} {te : TE}
    (hs : X.stack = X.env :: X.outer) (hf : X.env.frame = some X.env.locals) (hex : X.ex = [])
    (hx : X.xe = fun e s' => wpAny (model X.prog X.w) X.A (leaving X.env e) (fun _ s'' => L2.CX X.prog X.w X.outer X.H_0 X.s_0 E e s'') E₁ s')
    (hc : X.calm = true) (hN : X.N.Nodup) (hi : PI X tg iter wi) (ok : BlkOk X.N X.env.scope scope own)
    (hg : ∀ (s : Shared) (H : Hp) (C : Addr) (cl : List (Str × Addr)) (fp : List Addr) (xe : Value → Shared → Prop), PG (blkX X s H scope (compEnvC scope cl C X.env) fp xe) tg g)
    (ht : ∀ (s : Shared) (H : Hp) (C : Addr) (cl : List (Str × Addr)) (fp : List Addr) (xe : Value → Shared → Prop), PTs (blkX X s H scope (compEnvC scope cl C X.env) fp xe) ifs tt)
    (he : ∀ (s : Shared) (H : Hp) (C : Addr) (cl : List (Str × Addr)) (fp : List Addr) (xe : Value → Shared → Prop), Takes (blkX X s H scope (compEnvC scope cl C X.env) fp xe) (fun cls d _ H => E cls d H) → PE (blkX X s H scope (compEnvC scope cl C X.env) fp xe) elt te)
    (hfo : ∀ x, foldedSetIterable iter X.env x = pure x := by intro _; rfl) : PE X (.ListComp elt [⟨tg, iter, ifs, 0⟩] scope pos) (tLc wi g tt te (own.map (·.2))) := by
  refine ⟨fun pins s σ H Q I h => ?_⟩
  rw [eval_ListComp]
  have hclo : ∀ y ∈ scope.names, y.2 = .free → ∃ c, X.env.cells.lookup y.1 = some c := fun y hy e => I.ok.has _ ((ok.free y hy e).imp id id)
  refine wpAny_comprehension_free rfl hfo (closure_ok hclo) ok.kind (fun y hy e => by rw [ok.uniq y hy, e]) (thn (hi.run pins s σ H _ I h) fun xv s1 hxv => thn hxv fun itv s2 h2 => ?_)
  obtain ⟨it, fp, tn, J, H2, rfl, I2, T, st2, f2, q⟩ := h2
  refine wpAny_newObj_type (newEnv_comp ?_) (by show 0 ≤ sizeLine; decide)
  generalize hD : s2.heap.objs.size = D
  have hDn : H2 D = none := I2.hok.fresh (Nat.le_of_eq hD)
  obtain ⟨Wt, ⟨m0, w0⟩, turn⟩ := q D hDn
  generalize es3 : ({ s2 with heap := s2.heap.push { cls := .type "list", data := .seq ([] : List Value).toArray } } : Shared) = s3
  have h3 : s3.heap = s2.heap.push { cls := .type "list", data := .seq ([] : List Value).toArray } := by rw [← es3]
  have I3 : Inv X pins σ (upd H2 D (.lst [])) s3 := by
    rw [← es3]
    refine I2.laid (t' := s2.toks) (fun b o e => Heap.get?_push_of_some _ e) (Nat.le_of_eq hD) ⟨Nat.zero_le _, [], 0, .nil, ?_⟩
    rw [← hD]
    exact Heap.get?_push_size _ rfl
  have f3 : ∀ b ∈ fp, FpOk X pins (upd H2 D (.lst [])) b ∧ b < s3.heap.objs.size := fun b hb => by
    obtain ⟨o, e, _⟩ := T.obj _ _ st2 b hb
    have hlt := Heap.lt_size e
    have hne : b ≠ D := by rw [← hD]; exact Nat.ne_of_lt hlt
    exact ⟨⟨by rw [upd_ne hne]; exact (f2 b hb).1, (f2 b hb).2⟩, by rw [h3, Heap.size_push]; exact Nat.lt_succ_of_lt hlt⟩
  have st3 : tn 0 s3.heap := T.keep _ _ _ st2 fun b _ o e => by rw [h3]; exact Heap.get?_push_of_some _ e
  have I4' := block_start I3 ok hN f3
  generalize hcl : cellsFrom (s3.heap.objs.size + 1) scope.names (cloFrom X.env.cells scope.names []) = cl at I4'
  have pg := hg s3 (upd H2 D (.lst [])) s3.heap.objs.size cl fp
  have pt := ht s3 (upd H2 D (.lst [])) s3.heap.objs.size cl fp
  have pe := he s3 (upd H2 D (.lst [])) s3.heap.objs.size cl fp
  have nfp : ∀ b ∈ fp, (upd H2 D (.lst [])) b = none := fun b hb => (f3 b hb).1.1
  show codeAny _ _ (.compStart (.ListComp elt [⟨tg, iter, ifs, 0⟩] scope pos) 0 (.ref it) (.ref D) (compEnvC scope cl s3.heap.objs.size X.env)) (compPost (model X.prog X.w) X.A X.xe none (EP X pins σ Q) (.ref D) s3.heap.objs.size) { s3 with heap := pushCells (s3.heap.push { cls := .type "dict", data := .dict #[] }) scope.names }
  generalize hce : compEnvC scope cl s3.heap.objs.size X.env = ce at I4' pg pt pe ⊢
  have cL : ce.locals = s3.heap.objs.size := by subst hce; rfl
  have cF : ce.frame = X.env.frame := by subst hce; rfl
  generalize upd H2 D (.lst []) = H3 at I3 I4' pg pt pe w0 nfp f3
  generalize es4 : ({ s3 with heap := pushCells (s3.heap.push { cls := .type "dict", data := .dict #[] }) scope.names } : Shared) = s4 at I4' ⊢
  have st4 : tn 0 s4.heap := T.keep _ _ _ st3 fun b _ o e => by rw [← es4]; exact pushCells_keeps _ _ _ _ (Heap.get?_push_of_some _ e)
  -- the wish of the block
  generalize hR : compPost (model X.prog X.w) X.A X.xe none (EP X pins σ Q) (.ref D) s3.heap.objs.size = Rp
  let xe : Value → Shared → Prop := notedBy (model X.prog X.w) X.A ce (fun e s' => Rp (.error e) s')
  have tk : Takes (blkX X s3 H3 scope ce fp xe) (fun cls d _ H => E cls d H) := by
    intro u s' x
    obtain ⟨a, B, sI, pins', σ', H', cls, d, e1, I', nb, up, sky, na, os, ag, w⟩ := x
    have x' : XE (X.blk s3 H3 scope ce fp) (fun cls d _ H => E cls d H) u s' := ⟨a, B, sI, pins', σ', H', cls, d, e1, inv_xe (xe := fun _ _ => False) I', nb, up, sky, na, os, ag, w⟩
    show notedBy (model X.prog X.w) X.A ce (fun e s' => Rp (.error e) s') u s'
    rw [← hR]
    exact blk_out hs hf hex hx I3 cL cF f3 x'
  have pe := pe xe tk
  have pg := pg xe
  have pt := pt xe
  have I4 : Inv (blkX X s3 H3 scope ce fp xe) [] (wipe σ (own.map (·.2))) H3 s4 := inv_xe I4'
  have stat : ∀ {σ' : L2.St} {H' : Hp} {s' : Shared}, Inv (blkX X s3 H3 scope ce fp xe) [] σ' H' s' → (∀ b ∈ fp, H' b = none) → ∀ b ∈ fp, FpOk (blkX X s3 H3 scope ce fp xe) [] H' b := fun I' hn b hb =>
    ⟨hn b hb, (I'.ok.exf b hb).1, I'.ok.exfs b hb, .inl hb, fun x c e => (I'.ok.exf b hb).2 x c e, fun p hp => nomatch (show p ∈ ([] : List (Addr × Obj)) from hp)⟩
  have loop : codeAny (model X.prog X.w) X.A (.compLoop (.ListComp elt [⟨tg, iter, ifs, 0⟩] scope pos) 0 (.ref it) (.ref D) ce) Rp s4 := by
    refine compLoop_any (fun n s' => ∃ i H', Inv (blkX X s3 H3 scope ce fp xe) [] (wipe σ (own.map (·.2))) H' s' ∧ tn i s'.heap ∧ (∀ b ∈ fp, H' b = none) ∧ Wt i n H') ?_ m0 ⟨0, H3, I4, st4, nfp, w0⟩
    rintro n s5 ⟨i, H5, I5, st5, n5, w5⟩
    rcases turn i n H5 w5 with ⟨stop, qq⟩ | ⟨go, Nx, hNx, step⟩
    · refine thnF (T.done (blkX X s3 H3 scope ce fp xe) rfl rfl rfl hc i [] s5 _ H5 (fun _ _ => False) I5 (stat I5 n5) st5 stop) fun r s6 ⟨hr, I6⟩ => ?_
      subst hr
      have I7 : Inv X pins σ H5 s6 := I3.call' (ch := fp) I6.os I6.base I6.hok I6.bare fun b hb => ⟨(f3 b hb).1.2.2.2.1, (f3 b hb).1.2.1, (f3 b hb).1.2.2.2.2.1, (f3 b hb).1.2.2.2.2.2⟩
      have nC : H5 s3.heap.objs.size = none := by rw [← cL]; exact I6.free
      obtain ⟨m, hn, _⟩ := I6.loc
      have fC := I3.fpOk (H' := H5) (Nat.le_refl s3.heap.objs.size) nC
      rw [← hR]
      refine ⟨m, by rw [← cL]; exact hn, fun h' sb => ⟨.ref D, H5, I7.turned (t' := s6.toks) (fun b o hb e => (sb.2 b hb).trans e) fC.1 fC.2.1 fC.2.2.2.1 fC.2.2.2.2.1 fC.2.2.2.2.2, rfl, qq⟩⟩
    · refine thnF (T.item (blkX X s3 H3 scope ce fp xe) rfl rfl rfl hc i [] s5 _ H5 (fun _ _ => False) I5 (stat I5 n5) st5 go) fun r s6 ⟨u, hr, h6⟩ => ?_
      subst hr
      refine thnF h6 fun _ s7 ⟨x, H7, I7, r7, y7, st7, n7⟩ => ?_
      refine thn (pg.run _ s7 _ H7 x u _ (I7.pinned (stat I7 n7) (T.obj _ _ st7)) r7 (step x H7 y7)) fun _ s8 ⟨σ8, H8, I8, hw8, q8⟩ => ?_
      refine thn (pt.run _ s8 σ8 H8 _ I8 q8) fun b s9 ⟨H9, I9, q9⟩ => ?_
      have fin : ∀ {s' : Shared} {H' : Hp}, Inv (blkX X s3 H3 scope ce fp xe) ([] ++ pinsAt fp s7.heap) σ8 H' s' → Nx H' → ∃ m, m < n ∧ ∃ i H', Inv (blkX X s3 H3 scope ce fp xe) [] (wipe σ (own.map (·.2))) H' s' ∧ tn i s'.heap ∧ (∀ b ∈ fp, H' b = none) ∧ Wt i m H' := fun {s' H'} I' nx => by
        obtain ⟨m', hm, w'⟩ := hNx H' nx
        have pin' : ∀ b ∈ fp, ∀ o, s7.heap.get? b = some o → s'.heap.get? b = some o ∧ H' b = none := fun b hb o e =>
          let z := I'.pin (b, o) (List.mem_append_right _ (List.mem_append_right _ (mem_pinsAt hb e)))
          ⟨z.1, z.2.1⟩
        refine ⟨m', hm, i + 1, H', (I'.unpinned (pins := [])).weak (by rw [← hw8, wipe_length]) (fun j v e => ?_), T.keep _ _ _ st7 fun b hb o e => (pin' b hb o e).1, fun b hb => ?_, w'⟩
        · rw [← hw8] at e
          exact (wipe_some e).1
        · obtain ⟨o, e, _⟩ := T.obj _ _ st7 b hb
          exact (pin' b hb o e).2
      cases b with
      | false =>
        simp only [Bool.false_eq_true, if_false] at q9 ⊢
        exact fin I9 q9
      | true =>
        simp only [if_true] at q9 ⊢
        refine thn (pe.run _ s9 σ8 H9 _ I9 q9) fun z s10 ⟨yv, H10, I10, r10, acc, hD10, hz10, nx⟩ => ?_
        exact app_ok (X := blkX X s3 H3 scope ce fp xe) I10 hD10 hz10 r10 fun s11 I11 => fin I11 nx
  exact codeAny_compStart_list loop (T.self X.A 0 _ _ _ st4 loop)

/-- by data -/
def lcX (j n : Nat) (t : ItS) (tst : ST) (elt : SE) : Nat → Nat → Fr → Store → R Unit
  | 0, _, _, S => if t.fin S then .ok () S else .no
  | m + 1, i, φ, S => match t.get i S with
    | some d => match tst (φ.set j (some d)) S with
      | .ok true S1 => match elt (φ.set j (some d)) S1 with
        | .ok y S2 => match lget S2 n with
          | some acc => if small (acc.length + 1) then lcX j n t tst elt m (i + 1) φ (S2.set n (.lst (acc ++ [y]))) else .no
          | none => .no
        | .exc c S2 => .exc c S2
        | .no => .no
      | .ok false S1 => lcX j n t tst elt m (i + 1) φ S1
      | _ => .no
    | none => .no
def eLcX (j : Nat) (it : SI) (tst : ST) (elt : SE) : SE := fun φ S => (it φ S).bind fun t S1 => (lcX j S1.length t tst elt t.n 0 (φ.set j none) (S1 ++ [.lst []])).bind fun _ S2 => .ok (.ref S1.length) S2
section
variable {X : Cx} {G : Pm} {E : XK} {fi : SI} {tst : ST} {fe : SE} {K : PySem.W.Frag}
theorem lc_ofX {j : Nat} {σ : L2.St} {H : Hp} {Q : VK} (h : cE K G (fun c d _ H' => E c d H') none (eLcX j fi tst fe) σ H Q) :
    tLc (cI K G (fun c d _ H' => E c d H') none fi) (gName j) (cT K G W0 none tst) (cE K G (fun c d _ H' => E c d H') none fe) [j] σ H Q := by
  obtain ⟨α, S, φ, R, F, h⟩ := h
  refine ⟨α, S, φ, R, F, PR.bind h fun t S1 α1 H1 J e1 R1 r1 h1 => fun Da hD => ?_⟩
  have R2 : RSt K G (α1 ++ [Da]) (S1 ++ [.lst []]) (upd H1 Da (.lst [])) := R1.app hD ⟨[], upd_same, .nil⟩
  have e2 : Ext α1 H1 (α1 ++ [Da]) (upd H1 Da (.lst [])) := Ext.app hD
  have hα : (α1 ++ [Da])[S1.length]? = some Da := by rw [← R1.len]; simp
  -- what the end is to be
  have hq : ∀ r : DebtJ.R Unit, lcX j S1.length t tst fe t.n 0 (φ.set j none) (S1 ++ [.lst []]) = r → match r with
      | .ok _ Sf => ∀ α' H' c, Ext α1 H1 α' H' → RSt K G α' Sf H' → VR G α' H' (.ref S1.length) c → Q c H'
      | .exc c Sf => ∀ α' H', Ext α1 H1 α' H' → RSt K G α' Sf H' → E (.ref (G.ca c)) none H'
      | .no => False := by
    intro r er
    rw [er] at h1
    cases r with
    | ok u Sf => exact h1
    | exc c Sf => exact h1
    | no => exact h1.elim
  refine ⟨fun i m H => ∃ α S, Ext (α1 ++ [Da]) (upd H1 Da (.lst [])) α H ∧ RSt K G α S H ∧ i + m = t.n ∧ lcX j S1.length t tst fe m i (φ.set j none) S = lcX j S1.length t tst fe t.n 0 (φ.set j none) (S1 ++ [.lst []]), ⟨t.n, _, _, Ext.refl _ _, R2, Nat.zero_add _, rfl⟩, ?_⟩
  rintro i m H3 ⟨α3, S3, e3, R3, hm, h3⟩
  have F3 : RF G α3 H3 none (L2.wipe σ [j]) (φ.set j none) := (((F.mono e1).mono e2).mono e3).wipe
  obtain ⟨p1, p2⟩ := r1 α3 S3 H3 i (e2.trans e3) R3
  cases m with
  | zero =>
    simp only [lcX] at h3
    split at h3
    · rename_i hf
      exact .inl ⟨p2 hm hf, hq _ h3.symm _ _ _ (e2.trans e3) R3 (.ref (e3.get hα))⟩
    · exact (hq _ h3.symm).elim
  | succ m =>
    simp only [lcX] at h3
    split at h3
    · rename_i d hd
      obtain ⟨g1, g2⟩ := p1 d (by omega) hd
      refine .inr ⟨g1, fun H' => ∃ m', m' < m + 1 ∧ ∃ α S, Ext (α1 ++ [Da]) (upd H1 Da (.lst [])) α H' ∧ RSt K G α S H' ∧ (i + 1) + m' = t.n ∧ lcX j S1.length t tst fe m' (i + 1) (φ.set j none) S = lcX j S1.length t tst fe t.n 0 (φ.set j none) (S1 ++ [.lst []]), fun H' n => n, fun x H4 y => ?_⟩
      obtain ⟨rfl, rx⟩ := g2 x H4 y
      have F4 : RF G α3 H4 none ((L2.wipe σ [j]).set j (some x)) ((φ.set j none).set j (some d)) := F3.set rx (fun _ z => nomatch z)
      refine ⟨by show ((σ.set j none).set j (some x)).set j none = σ.set j none; rw [List.set_set, List.set_set], ?_⟩
      refine ⟨α3, S3, _, R3, F4, ?_⟩
      cases et : tst ((φ.set j none).set j (some d)) S3 with
      | exc c S4 => rw [et] at h3; exact (hq _ h3.symm).elim
      | no => rw [et] at h3; exact (hq _ h3.symm).elim
      | ok b S4 =>
        rw [et] at h3
        intro α4 H5 b' e4 R4 hb
        obtain rfl : b = b' := hb
        cases b with
        | false => exact ⟨m, Nat.lt_succ_self _, α4, S4, e3.trans e4, R4, by omega, h3⟩
        | true =>
          rw [if_pos rfl]
          refine ⟨α4, S4, _, R4, F4.mono e4, ?_⟩
          simp only at h3
          cases ee : fe ((φ.set j none).set j (some d)) S4 with
          | exc c S5 =>
            rw [ee] at h3
            intro α5 H6 e5 R5
            exact hq _ h3.symm α5 H6 (e2.trans ((e3.trans e4).trans e5)) R5
          | no => rw [ee] at h3; exact (hq _ h3.symm).elim
          | ok yv S5 =>
            rw [ee] at h3
            intro α5 H6 y5 e5 R5 r5
            simp only at h3
            split at h3
            · rename_i acc ea
              split at h3
              · rename_i hs
                have hα5 := ((e3.trans e4).trans e5).get hα
                obtain ⟨vs, q1, q2⟩ := lget_at R5 hα5 ea
                obtain ⟨z1, z2⟩ := R5.setL hα5 q1 (q2.append (.cons r5 .nil))
                exact ⟨vs, q1, by have := small_ok hs; rw [← q2.length]; omega, m, Nat.lt_succ_self _, α5, _, ((e3.trans e4).trans e5).trans z1, z2, by omega, h3⟩
              · exact (hq _ h3.symm).elim
            · exact (hq _ h3.symm).elim
    · exact (hq _ h3.symm).elim
variable {elt iter : Expr} {ifs : List Expr} {scope : Scope} {pos px : Pos} {j : Nat} {x : Str}
theorem je_lcX {E₁ : Value → Shared → Prop} (hs : X.stack = X.env :: X.outer) (hf : X.env.frame = some X.env.locals) (hex : X.ex = [])
    (hx : X.xe = fun e s' => wpAny (model X.prog X.w) X.A (leaving X.env e) (fun _ s'' => L2.CX X.prog X.w X.outer X.H_0 X.s_0 E e s'') E₁ s')
    (hN : X.N.Nodup) (hi : JI X G (fun c d _ H' => E c d H') none (.Name x px) iter fi) (ok : BlkOk X.N X.env.scope scope [(x, j)])
    (hg : ∀ (s : Shared) (H : Hp) (C : Addr) (cl : List (Str × Addr)) (fp : List Addr) (xe : Value → Shared → Prop), PG (blkX X s H scope (compEnvC scope cl C X.env) fp xe) (.Name x px) (gName j))
    (ht : ∀ (s : Shared) (H : Hp) (C : Addr) (cl : List (Str × Addr)) (fp : List Addr) (xe : Value → Shared → Prop), JTs (blkX X s H scope (compEnvC scope cl C X.env) fp xe) G W0 none ifs tst)
    (he : ∀ (s : Shared) (H : Hp) (C : Addr) (cl : List (Str × Addr)) (fp : List Addr) (xe : Value → Shared → Prop), Takes (blkX X s H scope (compEnvC scope cl C X.env) fp xe) (fun c d _ H' => E c d H') → JE (blkX X s H scope (compEnvC scope cl C X.env) fp xe) G (fun c d _ H' => E c d H') none elt fe)
    (hc : X.calm = true := by rfl) (hfo : ∀ x, foldedSetIterable iter X.env x = pure x := by intro _; rfl) : JE X G (fun c d _ H' => E c d H') none (.ListComp elt [⟨.Name x px, iter, ifs, 0⟩] scope pos) (eLcX j fi tst fe) :=
  peI (pe_lcX (own := [(x, j)]) hs hf hex hx hc hN hi ok hg ht he hfo) fun _ _ _ h => lc_ofX h
end
end DebtJ

set_option Elab.async false
set_option linter.all false
set_option maxRecDepth 100000
set_option maxHeartbeats 1000000
/-! dicts that are built: {}, d[k] = v, d[k], list(d.items()), walks over a dict; len(set(..)). -/
namespace DebtJ
open PySem PySem.Spec PyProof.Rows L2

section
variable {X : Cx} {G : Pm} {W : WX} {ξ : Option (Nat × Addr)} {K : PySem.W.Frag} {tg e a b o i : Expr} {p p2 q apos cpos pos pos' : Pos} {fe f g fo fi : SE} {st : Stmt} {fs : SS}
/-! ### {} -/
def eDNew : SE := fun _ S => .ok (.ref S.length) (S ++ [.dic []])
theorem je_dnew : JE X G W ξ (.Dict [] [] pos) eDNew :=
  peI pe_dnewK fun σ H Q ⟨α, S, φ, R, F, h⟩ => fun p hp => h _ _ _ (Ext.app hp) (R.app hp ⟨[], upd_same, .nil⟩) (.ref (by rw [← R.len]; simp))
/-! ### d[k] = v, the key new -/
def sDPutJ (fd fk fv : SE) : SS := fun φ S => (fv φ S).toS φ fun v S1 => (fd φ S1).toS φ fun x S2 => (fk φ S2).toS φ fun y S3 => match x, keyD y with
  | .ref n, some k => match dget S3 n with
    | some kvs => if decide (kvs.length < 1000) && (valD kvs k).isNone then .nx φ (S3.set n (.dic (kvs ++ [(k, v)]))) else .no
    | none => .no
  | _, _ => .no
theorem valD_none {α : List Addr} {H : Hp} {k : Key} {kvs : List (Key × D)} {vs : List (Key × V)} (h : KVl G α H kvs vs) (e : valD kvs k = none) (v : V) : putK vs k v = vs ++ [(k, v)] := by
  have q := valD_rel (k := k) h
  rw [e] at q
  simp only at q
  have ha : ∀ p ∈ vs, ¬ p.1 = k := by
    unfold valV at q
    rw [Option.map_eq_none_iff, List.find?_eq_none] at q
    intro p hp
    simpa using q p hp
  unfold putK
  rw [if_neg]
  intro h2
  obtain ⟨p, hp, h3⟩ := List.any_eq_true.mp h2
  exact ha p hp (of_decide_eq_true h3)
theorem js_dput (hu : X.A.units + 1 < cLine) (ho : JE X G W ξ o fo) (hi : JE X G W ξ i fi) (hv : JE X G W ξ e fe) (hs : swapsWith e (some (.Subscript o i pos')) pos.line X.env = pure false := by rfl) : JS X G W ξ (.Assign [.Subscript o i pos'] e pos) (sDPutJ fo fi fe) :=
  psI (ps_dput hu ho hi hv hs) fun E σ H ⟨α, S, φ, R, F, h⟩ => ⟨α, S, φ, R, F, PSt.bind F h fun v S1 α1 H1 w e1 R1 r1 h1 =>
    ⟨α1, S1, φ, R1, F.mono e1, PSt.bind (F.mono e1) h1 fun x S2 α2 H2 y e2 R2 r2 h2 =>
    ⟨α2, S2, φ, R2, (F.mono e1).mono e2, PSt.bind ((F.mono e1).mono e2) h2 fun z S3 α3 H3 u e3 R3 r3 h3 => by
      split at h3
      · rename_i n k ek
        obtain ⟨x, rfl, hx⟩ := (r2.mono e3).refI
        split at h3
        · rename_i kvs e4
          split at h3
          · rename_i hc
            simp only [Bool.and_eq_true, decide_eq_true_eq, Option.isNone_iff_eq_none] at hc
            obtain ⟨vs, q1, q2⟩ := dget_at R3 hx e4
            have hl := Paired.length q2
            have er : Ext α3 H3 α3 (upd H3 x (.dK (vs ++ [(k, w)]))) := RSt.extMut ⟨_, q1, rfl⟩
            have hd := DPut.k (k := k) (v := w) q1 (by rw [sizeLine_eq]; omega)
            rw [valD_none q2 hc.2] at hd
            refine ⟨x, _, rfl, keyD_rel r3 ek ▸ hd, ?_⟩
            exact h3 α3 _ σ er (R3.set hx ⟨_, q1, rfl⟩ ⟨_, upd_same, Paired.snoc (paired_mono er q2) ⟨rfl, ((r1.mono e2).mono e3).mono er⟩⟩) ((((F.mono e1).mono e2).mono e3).mono er)
          · exact h3.elim
        · exact h3.elim
      · exact h3.elim⟩⟩⟩
/-! ### d[k], locked or not -/
def dgetR (S : Store) (n : Nat) : Option (List (Key × D)) := match S[n]? with
  | some (.dic kvs) => some kvs
  | some (.frd kvs) => some kvs
  | _ => none
theorem dgetR_at {α : List Addr} {S : Store} {H : Hp} {n : Nat} {x : Addr} {kvs : List (Key × D)} (R : RSt K G α S H) (hx : α[n]? = some x) (h : dgetR S n = some kvs) : ∃ vs, Rd H x (.dK vs) ∧ KVl G α H kvs vs := by
  unfold dgetR at h
  split at h
  · rename_i ks e
    cases h
    obtain ⟨y, h1, vs, h2, h3⟩ := R.ob n _ e
    rw [hx] at h1
    cases h1
    exact ⟨vs, .inl h2, h3⟩
  · rename_i ks e
    cases h
    obtain ⟨y, h1, fo, vs, h2, h3⟩ := R.ob n _ e
    rw [hx] at h1
    cases h1
    exact ⟨vs, .inr ⟨fo, h2⟩, h3⟩
  · cases h
def eDGetR (f g : SE) : SE := fun φ S => (f φ S).bind fun x S1 => (g φ S1).bind fun y S2 => match x, keyD y with
  | .ref n, some k => match (dgetR S2 n).bind fun kvs => valD kvs k with
    | some d => .ok d S2
    | none => .no
  | _, _ => .no
theorem je_dgetR (hu : X.A.units + 1 < cLine) (ha : JE X G W ξ a f) (hb : JE X G W ξ b g) (hs : NoSl b := by exact fun _ _ => rfl) : JE X G W ξ (.Subscript a b pos) (eDGetR f g) := by
  refine peI (pe_dget hu ha hb hs) fun σ H Q ⟨α, S, φ, R, F, h⟩ => ?_
  refine ⟨α, S, φ, R, F, PR.bind h fun x S1 α1 H1 v1 e1 R1 r1 h1 => ?_⟩
  refine ⟨α1, S1, φ, R1, F.mono e1, PR.bind h1 fun y S2 α2 H2 v2 e2 R2 r2 h2 => ?_⟩
  split at h2
  · rename_i n k e0
    obtain ⟨x, rfl, hx⟩ := (r1.mono e2).refI
    split at h2
    · rename_i d e3
      obtain ⟨kvs, e4, e5⟩ := Option.bind_eq_some_iff.mp e3
      obtain ⟨vs, q1, q2⟩ := dgetR_at R2 hx e4
      have z := valD_rel (k := k) q2
      rw [e5] at z
      obtain ⟨v, z1, z2⟩ := z
      exact ⟨x, v, rfl, by rw [keyD_rel r2 e0, ← z1]; exact .inl ⟨vs, k, q1, rfl, rfl⟩, h2 α2 H2 _ (Ext.refl _ _) R2 z2⟩
    · exact h2.elim
  · exact h2.elim
/-! ### len(set(a list of ints, none twice)) -/
def eLenSet (f : SE) : SE := fun φ S => (f φ S).bind fun d S1 => match d with
  | .ref n => match (lget S1 n).bind intsOf with
    | some ns => if decide (ns.Nodup) && decide (ns.length ≤ 4000) then .ok (.int ns.length) S1 else .no
    | none => .no
  | _ => .no
theorem je_lenSet (hm : X.mg "len" = none) (hm2 : X.mg "set" = none) (ha : JE X G W ξ a f) (hg : Gl X "len" := by rfl) (hg2 : Gl X "set" := by rfl) (hc : X.calm = true := by rfl)
    (na : starEach [a] X.env = (false, eval a X.env) :: starEach [] X.env := by rfl) : JE X G W ξ (.Call (.Name "len" p) [.Call (.Name "set" p2) [a] [] q] [] pos) (eLenSet f) :=
  peI (RZ.pe_lenSetI hg hm hg2 hm2 ha hc na) fun σ H Q ⟨α, S, φ, R, F, h⟩ => ⟨α, S, φ, R, F, PR.bind h fun d S1 α1 H1 v e1 R1 r1 h1 => by
    split at h1
    · rename_i n
      obtain ⟨x, rfl, hx⟩ := r1.refI
      split at h1
      · rename_i ns en
        split at h1
        · rename_i hc
          simp only [Bool.and_eq_true, decide_eq_true_eq] at hc
          obtain ⟨xs, e3, e4⟩ := Option.bind_eq_some_iff.mp en
          obtain ⟨vs, q1, q2⟩ := lget_at R1 hx e3
          exact ⟨x, ns, rfl, .inl (.inl (by rw [← intsOf_rel q2 e4]; exact q1)), hc.1, hc.2, h1 α1 H1 _ (Ext.refl _ _) R1 (.int _)⟩
        · exact h1.elim
      · exact h1.elim
    · exact h1.elim⟩
/-! ### list(d.items()) -/
def kD : Key → D
  | .inl i => .int i
  | .inr s => .str s
theorem kD_rel {α : List Addr} {H : Hp} (k : Key) : VR G α H (kD k) (kV k) := by
  cases k with
  | inl i => exact .int i
  | inr s => exact .str s
def itemsD (kvs : List (Key × D)) : List D := kvs.map fun q => .tup [kD q.1, q.2]
def eItems (f : SE) : SE := fun φ S => (f φ S).bind fun d S1 => match d with
  | .ref n => match dget S1 n with
    | some kvs => .ok (.ref S1.length) (S1 ++ [.lst (itemsD kvs)])
    | none => .no
  | _ => .no
theorem items_rel {α : List Addr} {H : Hp} {kvs : List (Key × D)} {vs : List (Key × V)} (h : KVl G α H kvs vs) : ∀ {ts : List Addr}, Paired (fun (t : Addr) (q : Key × V) => H t = some (.tup [kV q.1, q.2])) ts vs → VRs G α H (itemsD kvs) (ts.map V.ref) := by
  unfold KVl at h
  induction h with
  | nil => intro ts hp; cases hp; exact .nil
  | @cons p q r s hpq t ih =>
    intro ts hp
    cases hp with
    | cons h1 h2 =>
      obtain ⟨e, r1⟩ := hpq
      refine .cons (.tup h1 ?_) (ih h2)
      rw [e]
      exact .cons (kD_rel _) (.cons r1 .nil)
theorem RSt.grow {α : List Addr} {S : Store} {H H' : Hp} (R : RSt K G α S H) (hk : ∀ b o, H b = some o → H' b = some o) {pp : Addr} {o : O} (hp : H pp = none) (ho : OR G (α ++ [pp]) H' pp o) : Ext α H (α ++ [pp]) H' ∧ RSt K G (α ++ [pp]) (S ++ [o]) H' := by
  have e0 : Ext α H (α ++ [pp]) H' := ⟨⟨[pp], rfl⟩, fun b xs h => hk b _ h, fun b o u h => hk b _ h⟩
  refine ⟨e0, by simp [R.len], ?_, ?_, fun n o' h => ?_⟩
  · rw [List.nodup_append]
    refine ⟨R.nd, by simp, fun a ha b hb => ?_⟩
    obtain ⟨n, hn⟩ := List.mem_iff_getElem?.mp ha
    have e : b = pp := by simpa using hb
    rw [e]
    exact R.ne_none hn hp
  · rcases R.scr with ⟨fo, h⟩ | h
    · exact .inl ⟨fo, hk _ _ h⟩
    · exact .inr h
  · by_cases hn : n < S.length
    · rw [List.getElem?_append_left hn] at h
      obtain ⟨a, h1, h2⟩ := R.ob n o' h
      obtain ⟨u, hu⟩ := h2.is
      exact ⟨a, e0.get h1, h2.mono e0 (by rw [hk a u hu, hu])⟩
    · rw [List.getElem?_append_right (Nat.le_of_not_lt hn)] at h
      have e : n - S.length = 0 := by
        cases q : n - S.length with
        | zero => rfl
        | succ m => rw [q] at h; simp at h
      rw [e] at h
      simp at h
      subst h
      have en : n = α.length := by rw [R.len]; omega
      exact ⟨pp, by rw [en]; simp, ho⟩
theorem je_items (hm : X.mg "list" = none) (he : JE X G W ξ e f) (hc : X.calm = true := by rfl) (hg : Gl X "list" := by rfl) (hv : bootBuiltins "list" = some (.type "list") := by decide +kernel) (hbase : attributeBase e "items" X.env (eval e X.env) = eval e X.env := by rfl) (hline : (apos.endLine == cpos.line) = true := by rfl)
    (hs : starEach [.Call (.Attribute e "items" apos) [] [] cpos] X.env = (false, eval (.Call (.Attribute e "items" apos) [] [] cpos) X.env) :: starEach [] X.env := by rfl) : JE X G W ξ (.Call (.Name "list" p) [.Call (.Attribute e "items" apos) [] [] cpos] [] pos) (eItems f) :=
  peI (LiI.pe_listItems hc he hg hm hv hbase hline hs) fun σ H Q ⟨α, S, φ, R, F, h⟩ => ⟨α, S, φ, R, F, PR.bind h fun d S1 α1 H1 v e1 R1 r1 h1 => by
    split at h1
    · rename_i n
      obtain ⟨x, rfl, hx⟩ := r1.refI
      split at h1
      · rename_i kvs e3
        obtain ⟨vs, q1, q2⟩ := dget_at R1 hx e3
        refine ⟨x, vs, rfl, q1, fun H' pp ts k1 k2 k3 k4 k5 k6 => ?_⟩
        have e0 : Ext α1 H1 (α1 ++ [pp]) H' := ⟨⟨[pp], rfl⟩, fun b xs h => k1 b _ h, fun b o u h => k1 b _ h⟩
        obtain ⟨z1, z2⟩ := R1.grow k1 k2 (o := .lst (itemsD kvs)) ⟨_, k5, items_rel (paired_mono e0 q2) k6⟩
        exact h1 _ _ _ z1 z2 (.ref (by rw [← R1.len]; simp))
      · exact h1.elim
    · exact h1.elim⟩
/-! ### a dict is locked while it is walked -/
mutual
theorem VR.tmono {α : List Addr} {H H' : Hp} (ht : ∀ b xs, H b = some (.tup xs) → H' b = some (.tup xs)) : ∀ {d : D} {v : V}, VR G α H d v → VR G α H' d v
  | _, _, .non => .non
  | _, _, .bl b => .bl b
  | _, _, .int i => .int i
  | _, _, .str s => .str s
  | _, _, .scr => .scr
  | _, _, .ref h => .ref h
  | _, _, .tup h r => .tup (ht _ _ h) (VRs.tmono ht r)
theorem VRs.tmono {α : List Addr} {H H' : Hp} (ht : ∀ b xs, H b = some (.tup xs) → H' b = some (.tup xs)) : ∀ {ds : List D} {vs : List V}, VRs G α H ds vs → VRs G α H' ds vs
  | _, _, .nil => .nil
  | _, _, .cons r t => .cons (VR.tmono ht r) (VRs.tmono ht t)
end
theorem paired_tmono {κ : Type} {α : List Addr} {H H' : Hp} (ht : ∀ b xs, H b = some (.tup xs) → H' b = some (.tup xs)) : ∀ {fs : List (κ × D)} {vs : List (κ × V)}, Paired (fun (p : κ × D) (q : κ × V) => p.1 = q.1 ∧ VR G α H p.2 q.2) fs vs → Paired (fun (p : κ × D) (q : κ × V) => p.1 = q.1 ∧ VR G α H' p.2 q.2) fs vs
  | _, _, .nil => .nil
  | _, _, .cons r t => .cons ⟨r.1, r.2.tmono ht⟩ (paired_tmono ht t)
theorem OR.tmono {α : List Addr} {H H' : Hp} {x : Addr} {u : O} (ht : ∀ b xs, H b = some (.tup xs) → H' b = some (.tup xs)) (ha : H' x = H x) (h : OR G α H x u) : OR G α H' x u := by
  cases u with
  | lst xs => obtain ⟨vs, h1, h2⟩ := h; exact ⟨vs, by rw [ha]; exact h1, h2.tmono ht⟩
  | ins c fs => obtain ⟨dx, vs, h1, h2⟩ := h; exact ⟨dx, vs, by rw [ha]; exact h1, paired_tmono ht h2⟩
  | dic kvs => obtain ⟨vs, h1, h2⟩ := h; exact ⟨vs, by rw [ha]; exact h1, paired_tmono ht h2⟩
  | frd kvs => obtain ⟨fo, vs, h1, h2⟩ := h; exact ⟨fo, vs, by rw [ha]; exact h1, paired_tmono ht h2⟩
section
variable {α α' : List Addr} {S S' : Store} {H H' : Hp} {n : Nat} {x : Addr} {vs : List (Key × V)} {kvs : List (Key × D)} {od : Obj}
theorem ext_lock (hH : H x = some (.dK vs)) : Ext α H α (upd H x (.frz od (.dK vs))) := RSt.extMut ⟨_, hH, rfl⟩
theorem rst_lock (R : RSt K G α S H) (hx : α[n]? = some x) (hH : H x = some (.dK vs)) (r : KVl G α H kvs vs) : RSt K G α (S.set n (.frd kvs)) (upd H x (.frz od (.dK vs))) :=
  R.set hx ⟨_, hH, rfl⟩ ⟨od, vs, upd_same, paired_mono (ext_lock hH) r⟩
theorem unl_tup (hf : H' x = some (.frz od (.dK vs))) : ∀ b xs, H' b = some (.tup xs) → upd H' x (.dK vs) b = some (.tup xs) := fun b xs h => by
  rw [upd_ne]
  · exact h
  · rintro rfl
    rw [hf] at h
    cases h
theorem ext_unl (hH : H x = some (.dK vs)) (e : Ext α (upd H x (.frz od (.dK vs))) α' H') : Ext α H α' (upd H' x (.dK vs)) := by
  have hf := e.frz x od _ upd_same
  refine ⟨e.pre, fun b xs h => ?_, fun b o u h => ?_⟩
  · have hb : b ≠ x := by rintro rfl; rw [hH] at h; cases h
    rw [upd_ne hb]
    exact e.tup b xs (by rw [upd_ne hb]; exact h)
  · have hb : b ≠ x := by rintro rfl; rw [hH] at h; cases h
    rw [upd_ne hb]
    exact e.frz b o u (by rw [upd_ne hb]; exact h)
theorem rst_unl (R : RSt K G α' S' H') (hx : α'[n]? = some x) (hf : H' x = some (.frz od (.dK vs))) (r : KVl G α' (upd H' x (.dK vs)) kvs vs) : RSt K G α' (S'.set n (.dic kvs)) (upd H' x (.dK vs)) := by
  refine ⟨by simp [R.len], R.nd, ?_, fun m o' h => ?_⟩
  · rcases R.scr with ⟨fo, h⟩ | h
    · refine .inl ⟨fo, ?_⟩
      rw [upd_ne]
      · exact h
      · intro z
        rw [z, hf] at h
        cases h
    · exact .inr h
  · by_cases e : n = m
    · subst e
      obtain ⟨o, hS, _⟩ := R.adr hx
      have hl : n < S'.length := (List.getElem?_eq_some_iff.mp hS).1
      rw [List.getElem?_set_self hl] at h
      cases h
      exact ⟨x, hx, vs, upd_same, r⟩
    · rw [List.getElem?_set_ne e] at h
      obtain ⟨y, h1, h2⟩ := R.ob m o' h
      refine ⟨y, h1, h2.tmono (unl_tup hf) (upd_ne fun z => ?_)⟩
      subst z
      exact e (nd_at R.nd hx h1)
theorem rf_unl {σ : L2.St} {φ : Fr} (hf : H' x = some (.frz od (.dK vs))) (F : RF G α' H' ξ σ φ) : RF G α' (upd H' x (.dK vs)) ξ σ φ := ⟨F.len, fun i d h => let ⟨v, h1, h2⟩ := F.at_ i d h; ⟨v, h1, h2.tmono (unl_tup hf)⟩, F.xi⟩
end
def unlO (n : Nat) (kvs : List (Key × D)) (S : Store) : Option Store := match S[n]? with
  | some (.frd _) => some (S.set n (.dic kvs))
  | _ => none
def unlS (n : Nat) (kvs : List (Key × D)) : RS → RS
  | .nx φ S => match unlO n kvs S with
    | some S' => .nx φ S'
    | none => .no
  | .rt d S => match unlO n kvs S with
    | some S' => .rt d S'
    | none => .no
  | _ => .no
def unlE (n : Nat) (kvs : List (Key × D)) : R D → R D
  | .ok d S => match unlO n kvs S with
    | some S' => .ok d S'
    | none => .no
  | _ => .no
def lockS (i : Nat) (f : SS) : SS := fun φ S => match φ[i]? with
  | some (some (.ref n)) => match dget S n with
    | some kvs => unlS n kvs (f φ (S.set n (.frd kvs)))
    | none => .no
  | _ => .no
def lockE (i : Nat) (f : SE) : SE := fun φ S => match φ[i]? with
  | some (some (.ref n)) => match dget S n with
    | some kvs => unlE n kvs (f φ (S.set n (.frd kvs)))
    | none => .no
  | _ => .no
theorem unlO_some {n : Nat} {kvs : List (Key × D)} {S S2 : Store} (h : unlO n kvs S = some S2) : S2 = S.set n (.dic kvs) := by
  unfold unlO at h
  split at h
  · cases h; rfl
  · cases h
theorem js_lock (i : Nat) (h : JS X G W ξ st fs) : JS X G W ξ st (lockS i fs) :=
  psI (ps_lock h) fun E σ H ⟨α, S, φ, R, F, hw⟩ => by
    unfold lockS at hw
    split at hw
    · rename_i n en
      split at hw
      · rename_i kvs ek
        obtain ⟨v, hv, r⟩ := F.at_ i _ en
        obtain ⟨x, rfl, hx⟩ := r.refI
        obtain ⟨vs, hH, hkv⟩ := dget_at R hx ek
        refine ⟨x, .dK vs, hH, trivial, fun od => ⟨α, _, φ, rst_lock (od := od) R hx hH hkv, F.mono (ext_lock hH), ?_⟩⟩
        have key : ∀ (S' : Store) (α' : List Addr) (H' : Hp), Ext α (upd H x (.frz od (.dK vs))) α' H' → RSt X.K G α' S' H' → H' x = some (.frz od (.dK vs)) ∧ Ext α H α' (upd H' x (.dK vs)) ∧ RSt X.K G α' (S'.set n (.dic kvs)) (upd H' x (.dK vs)) := by
          intro S' α' H' e R'
          have hf := e.frz x od _ upd_same
          have e2 := ext_unl hH e
          exact ⟨hf, e2, rst_unl R' (e.get hx) hf (paired_mono e2 hkv)⟩
        cases er : fs φ (S.set n (.frd kvs)) with
        | nx φ' S' =>
          rw [er] at hw
          simp only [unlS] at hw
          split at hw
          · rename_i S2 e2
            cases unlO_some e2
            intro α' H' σ' e R' F'
            obtain ⟨k1, k2, k3⟩ := key S' α' H' e R'
            exact ⟨k1, hw α' _ σ' k2 k3 (rf_unl k1 F')⟩
          · exact hw.elim
        | rt d S' =>
          rw [er] at hw
          simp only [unlS] at hw
          split at hw
          · rename_i S2 e2
            cases unlO_some e2
            intro α' H' v e R' r'
            obtain ⟨k1, k2, k3⟩ := key S' α' H' e R'
            exact ⟨k1, hw α' _ v k2 k3 (r'.tmono (unl_tup k1))⟩
          · exact hw.elim
        | bk φ' S' => rw [er] at hw; exact hw.elim
        | ct φ' S' => rw [er] at hw; exact hw.elim
        | exc c φ' S' => rw [er] at hw; exact hw.elim
        | no => rw [er] at hw; exact hw.elim
      · exact hw.elim
    · exact hw.elim
theorem je_lock (i : Nat) (h : JE X G W ξ e f) : JE X G W ξ e (lockE i f) :=
  peI (pe_lock h) fun σ H Q ⟨α, S, φ, R, F, hw⟩ => by
    unfold lockE at hw
    split at hw
    · rename_i n en
      split at hw
      · rename_i kvs ek
        obtain ⟨v, hv, r⟩ := F.at_ i _ en
        obtain ⟨x, rfl, hx⟩ := r.refI
        obtain ⟨vs, hH, hkv⟩ := dget_at R hx ek
        refine ⟨x, .dK vs, hH, trivial, fun od => ⟨α, _, φ, rst_lock (od := od) R hx hH hkv, F.mono (ext_lock hH), ?_⟩⟩
        have key : ∀ (S' : Store) (α' : List Addr) (H' : Hp), Ext α (upd H x (.frz od (.dK vs))) α' H' → RSt X.K G α' S' H' → H' x = some (.frz od (.dK vs)) ∧ Ext α H α' (upd H' x (.dK vs)) ∧ RSt X.K G α' (S'.set n (.dic kvs)) (upd H' x (.dK vs)) := by
          intro S' α' H' e R'
          have hf := e.frz x od _ upd_same
          have e2 := ext_unl hH e
          exact ⟨hf, e2, rst_unl R' (e.get hx) hf (paired_mono e2 hkv)⟩
        cases er : f φ (S.set n (.frd kvs)) with
        | ok d S' =>
          rw [er] at hw
          simp only [unlE] at hw
          split at hw
          · rename_i S2 e2
            cases unlO_some e2
            intro α' H' v e R' r'
            obtain ⟨k1, k2, k3⟩ := key S' α' H' e R'
            exact ⟨k1, hw α' _ v k2 k3 (r'.tmono (unl_tup k1))⟩
          · exact hw.elim
        | exc c S' => rw [er] at hw; exact hw.elim
        | no => rw [er] at hw; exact hw.elim
      · exact hw.elim
    · exact hw.elim
/-! ### its keys -/
def kyI (kvs : List (Key × D)) : ItS := ⟨kvs.length, fun i _ => (kvs[i]?).map fun q => kD q.1, fun _ => true⟩
def iKeysJ (f : SE) : SI := fun φ S => (f φ S).bind fun d S1 => match d with
  | .ref n => match S1[n]? with
    | some (.frd kvs) => .ok (kyI kvs) S1
    | _ => .no
  | _ => .no
theorem ji_keys (he : JE X G W ξ e fe) : JI X G W ξ tg e (iKeysJ fe) :=
  piI (pi_keys he) fun σ H Q ⟨α, S, φ, R, F, h⟩ => ⟨α, S, φ, R, F, PR.bind h fun d S1 α1 H1 v e1 R1 r1 h1 => by
    split at h1
    · rename_i n
      obtain ⟨x, rfl, hx⟩ := r1.refI
      split at h1
      · rename_i kvs ek
        obtain ⟨y, h2, od, vs, h3, h4⟩ := R1.ob n _ ek
        rw [hx] at h2
        cases h2
        have hl := Paired.length h4
        refine ⟨x, od, rfl, .inl ⟨vs, h3, h1 α1 H1 _ (Ext.refl _ _) R1 fun α' S' H' i e R' => ?_⟩⟩
        have hf := e.frz x od _ h3
        refine ⟨fun d hi hd => ⟨⟨hf, by rw [← hl]; exact hi⟩, fun y H2 z => ?_⟩, fun hi _ => ⟨hf, by rw [← hl]; exact Nat.le_of_eq hi.symm⟩⟩
        obtain ⟨z1, k, w, z2, z3⟩ := z
        subst z3
        refine ⟨z1, ?_⟩
        have hd : (kvs[i]?).map (fun q => kD q.1) = some d := hd
        obtain ⟨q, hq, rfl⟩ := Option.map_eq_some_iff.mp hd
        obtain ⟨q2, g1, g2, _⟩ := LiI.paired_get h4 hq
        rw [z2] at g1
        cases g1
        rw [g2]
        exact kD_rel _
      · exact h1.elim
    · exact h1.elim⟩
end
end DebtJ

set_option Elab.async false
set_option linter.all false
set_option maxRecDepth 100000
set_option maxHeartbeats 1000000
/-! Plain laws of the functions of the layer J: no program, no heap. -/
namespace DebtJ
open PySem L2

/-! ### what must follow -/
/-- a value and a store, or an exception and a store -/
def Ok {β : Type} (E : Nat → Store → Prop) (r : R β) (Q : β → Store → Prop) : Prop := match r with
  | .ok b S => Q b S
  | .exc c S => E c S
  | .no => False
def St (X : Nat → Fr → Store → Prop) (r : RS) (Qn : Fr → Store → Prop) (Qr : D → Store → Prop) : Prop := match r with
  | .nx φ S => Qn φ S
  | .rt d S => Qr d S
  | .exc c φ S => X c φ S
  | _ => False
abbrev NoE : Nat → Store → Prop := fun _ _ => False
abbrev NoX : Nat → Fr → Store → Prop := fun _ _ _ => False
section
variable {β γ : Type} {S S' : Store} {φ : Fr} {d : D} {Q : β → Store → Prop} {E E' : Nat → Store → Prop} {X X' : Nat → Fr → Store → Prop} {Qn : Fr → Store → Prop} {Qr : D → Store → Prop}
theorem Ok_ok (b : β) (S : Store) : Ok E (.ok b S) Q = Q b S := propext Iff.rfl
theorem Ok_exc (c : Nat) (S : Store) : Ok E (.exc c S) Q = E c S := propext Iff.rfl
theorem Ok_no : Ok E .no Q = False := propext Iff.rfl
theorem Ok_bind (r : R γ) (k : γ → Store → R β) : Ok E (r.bind k) Q = Ok E r fun b S => Ok E (k b S) Q := by cases r <;> rfl
theorem Ok_ite (c : Prop) [Decidable c] (a b : R β) : Ok E (if c then a else b) Q = if c then Ok E a Q else Ok E b Q := by split <;> rfl
theorem Ok_some (b : β) (S : Store) : Ok E (R.of (some (b, S))) Q = Q b S := propext Iff.rfl
theorem Ok_none : Ok E (R.of (none : Option (β × Store))) Q = False := propext Iff.rfl
theorem Ok.imp {r : R β} {Q' : β → Store → Prop} (h : Ok E r Q) (i : ∀ b S, Q b S → Q' b S) (j : ∀ c S, E c S → E' c S := by exact fun _ _ z => z) : Ok E' r Q' := by
  cases r with
  | ok b S => exact i b S h
  | exc c S => exact j c S h
  | no => exact h.elim
theorem Ok.get {r : R β} (h : Ok NoE r Q) : ∃ b S, r = .ok b S ∧ Q b S := by
  cases r with
  | ok b S => exact ⟨b, S, rfl, h⟩
  | exc c S => exact h.elim
  | no => exact h.elim
theorem St_nx (φ : Fr) (S : Store) : St X (.nx φ S) Qn Qr = Qn φ S := propext Iff.rfl
theorem St_rt (d : D) (S : Store) : St X (.rt d S) Qn Qr = Qr d S := propext Iff.rfl
theorem St_exc (c : Nat) (φ : Fr) (S : Store) : St X (.exc c φ S) Qn Qr = X c φ S := propext Iff.rfl
theorem St_no : St X .no Qn Qr = False := propext Iff.rfl
theorem St_ite (c : Prop) [Decidable c] (a b : RS) : St X (if c then a else b) Qn Qr = if c then St X a Qn Qr else St X b Qn Qr := by split <;> rfl
theorem St_toS (r : R β) (φ : Fr) (k : β → Store → RS) : St X (r.toS φ k) Qn Qr = Ok (fun c S => X c φ S) r fun b S => St X (k b S) Qn Qr := by cases r <;> rfl
theorem St.imp {r : RS} {Qn' : Fr → Store → Prop} {Qr' : D → Store → Prop} (h : St X r Qn Qr) (i : ∀ b S, Qn b S → Qn' b S) (j : ∀ b S, Qr b S → Qr' b S) (k : ∀ c φ S, X c φ S → X' c φ S := by exact fun _ _ _ z => z) : St X' r Qn' Qr' := by
  cases r with
  | nx b S => exact i b S h
  | rt d S => exact j d S h
  | exc c b S => exact k c b S h
  | _ => exact h.elim
theorem St_seq (a b : SS) : St X (sSeq a b φ S) Qn Qr = St X (a φ S) (fun φ' S' => St X (b φ' S') Qn Qr) Qr := by
  unfold sSeq
  cases a φ S <;> rfl
theorem St_assoc (a b c : SS) : St X (sSeq a (sSeq b c) φ S) Qn Qr = St X (sSeq (sSeq a b) c φ S) Qn Qr := by simp only [St_seq]
theorem St_cut {a b : SS} (M : Fr → Store → Prop) (h1 : St X (a φ S) M Qr) (h2 : ∀ φ' S', M φ' S' → St X (b φ' S') Qn Qr) : St X (sSeq a b φ S) Qn Qr := by
  rw [St_seq]
  exact St.imp h1 h2 (fun _ _ z => z)
theorem St_next : St X (sNext φ S) Qn Qr = Qn φ S := propext Iff.rfl
theorem St_raise (c : Nat) : St X (sRaise c φ S) Qn Qr = X c φ S := propext Iff.rfl
theorem St_expr (e : SE) : St X (sExpr e φ S) Qn Qr = Ok (fun c S => X c φ S) (e φ S) fun _ S1 => Qn φ S1 := St_toS _ _ _
theorem St_ret (e : SE) : St X (sRet e φ S) Qn Qr = Ok (fun c S => X c φ S) (e φ S) Qr := St_toS _ _ _
theorem St_retN : St X (sRetN φ S) Qn Qr = Qr .non S := propext Iff.rfl
theorem St_if (c : ST) (a b : SS) : St X (sIf c a b φ S) Qn Qr = Ok (fun c S => X c φ S) (c φ S) fun t S1 => if t = true then St X (a φ S1) Qn Qr else St X (b φ S1) Qn Qr := by
  unfold sIf
  rw [St_toS]
  cases c φ S with
  | ok t S1 => cases t <;> rfl
  | exc c S => rfl
  | no => rfl
theorem St_asg (i : Nat) (e : SE) : St X (sAsg i e φ S) Qn Qr = Ok (fun c S => X c φ S) (e φ S) fun d S1 => Qn (φ.set i (some d)) S1 := St_toS _ _ _
theorem St_for (j : Nat) (it : SI) (body : SS) : St X (sFor j it body φ S) Qn Qr = Ok (fun c S => X c φ S) (it φ S) fun t S1 => St X (forS j t body t.n 0 φ S1) Qn Qr := St_toS _ _ _
theorem Ok_mkF (n m : Nat) (fb : SS) (ds : List D) {Q : D → Store → Prop} (h : ds.length = n) : Ok E (mkF n m fb ds S) Q = St (fun c _ S => E c S) (fb (ds.map some ++ List.replicate (m - n) none) S) (fun _ S1 => Q .non S1) Q := by
  unfold mkF
  rw [if_pos h]
  cases fb (ds.map some ++ List.replicate (m - n) none) S <;> rfl
/-- try with clauses without names -/
theorem St_try (body : SS) (hs : List (Nat × (Nat → SS))) : St X (sTry body hs φ S) Qn Qr = St (fun c φ' S' => isX c = true ∧ St X (tryH hs c φ' S') Qn Qr) (body φ S) Qn Qr := by
  unfold sTry
  cases body φ S with
  | exc c φ' S' =>
    show St X (if isX c = true then _ else _) Qn Qr = (isX c = true ∧ St X (tryH hs c φ' S') Qn Qr)
    by_cases h : isX c = true <;> simp [h, St]
  | _ => rfl
theorem St_tryC (h c : Nat) (su : Nat → SS) (r : List (Nat × (Nat → SS))) : St X (tryH ((h, su) :: r) c φ S) Qn Qr = if subX c h = true then St NoX (su c φ S) Qn Qr else St X (tryH r c φ S) Qn Qr := by
  show St X (if subX c h = true then noX (su c φ S) else tryH r c φ S) Qn Qr = _
  by_cases hs : subX c h = true
  · rw [if_pos hs, if_pos hs]
    cases su c φ S <;> rfl
  · rw [if_neg hs, if_neg hs]
theorem St_tryN (c : Nat) : St X (tryH [] c φ S) Qn Qr = X c φ S := propext Iff.rfl
theorem St_tryAs (i : Nat) (body : SS) (h : Nat) (su : Nat → SS) : St X (sTryAs i body h su φ S) Qn Qr = St (fun c φ' S' => (isX c = true ∧ i < φ'.length) ∧ if subX c h = true then St NoX (su c (φ'.set i none) S') (fun φ2 S2 => Qn (φ2.set i none) S2) Qr else X c φ' S') (body φ S) Qn Qr := by
  unfold sTryAs
  cases body φ S with
  | exc c φ' S' =>
    show St X (if (isX c && decide (i < φ'.length)) = true then _ else _) Qn Qr = _
    by_cases h1 : isX c = true ∧ i < φ'.length
    · have e : (isX c && decide (i < φ'.length)) = true := by simp [h1]
      rw [if_pos e]
      by_cases h2 : subX c h = true
      · rw [if_pos h2]
        simp only [St_exc, h1, h2, and_self, true_and, if_true]
        cases su c (φ'.set i none) S' <;> rfl
      · rw [if_neg h2]
        simp only [St_exc, h1, h2, and_self, true_and]
        rfl
    · have e : ¬ (isX c && decide (i < φ'.length)) = true := by simpa using h1
      rw [if_neg e]
      simp only [St_exc, h1, false_and]
      rfl
  | _ => rfl
/-! ### expressions -/
theorem Ok_var {Q : D → Store → Prop} (i : Nat) : Ok E (eVar i φ S) Q = match φ[i]? with
  | some (some d) => Q d S
  | _ => False := by
  unfold eVar
  cases h : φ[i]? with
  | none => rfl
  | some o => cases o <;> rfl
theorem Ok_c {Q : D → Store → Prop} (d : D) : Ok E (eC d φ S) Q = Q d S := propext Iff.rfl
theorem Ok_op {Q : D → Store → Prop} (g : G2) (a b : SE) : Ok E (eOp g a b φ S) Q = Ok E (a φ S) fun x S1 => Ok E (b φ S1) fun y S2 => Ok E (R.of (g x y S2)) Q := by
  unfold eOp
  rw [Ok_bind]
  congr 1
  funext x S1
  rw [Ok_bind]
theorem Ok_tof {Q : Bool → Store → Prop} (f : SE) : Ok E (tOf f φ S) Q = Ok E (f φ S) fun d S1 => match d with
  | .bl b => Q b S1
  | _ => False := by
  unfold tOf
  rw [Ok_bind]
  congr 1
  funext d S1
  cases d <;> rfl
theorem Ok_tand {Q : Bool → Store → Prop} (a b : ST) : Ok E (tAnd' a b φ S) Q = Ok E (a φ S) fun c S1 => if c = true then Ok E (b φ S1) Q else Q false S1 := by
  unfold tAnd'
  rw [Ok_bind]
  congr 1
  funext d S1
  cases d <;> rfl
theorem Ok_tor {Q : Bool → Store → Prop} (a b : ST) : Ok E (tOr' a b φ S) Q = Ok E (a φ S) fun c S1 => if c = true then Q true S1 else Ok E (b φ S1) Q := by
  unfold tOr'
  rw [Ok_bind]
  congr 1
  funext d S1
  cases d <;> rfl
theorem Ok_tnot {Q : Bool → Store → Prop} (a : ST) : Ok E (tNot' a φ S) Q = Ok E (a φ S) fun c S1 => Q (!c) S1 := Ok_bind _ _
theorem Ok_tyes {Q : Bool → Store → Prop} : Ok E (tYes' φ S) Q = Q true S := propext Iff.rfl
theorem Ok_and {Q : D → Store → Prop} (a b : SE) : Ok E (eAnd a b φ S) Q = Ok E (a φ S) fun d S1 => match d with
  | .bl true => Ok E (b φ S1) Q
  | .bl false => Q (.bl false) S1
  | _ => False := by
  unfold eAnd
  rw [Ok_bind]
  congr 1
  funext d S1
  cases d with
  | bl c => cases c <;> rfl
  | _ => rfl
theorem Ok_or {Q : D → Store → Prop} (a b : SE) : Ok E (eOr a b φ S) Q = Ok E (a φ S) fun d S1 => match d with
  | .bl false => Ok E (b φ S1) Q
  | .bl true => Q (.bl true) S1
  | _ => False := by
  unfold eOr
  rw [Ok_bind]
  congr 1
  funext d S1
  cases d with
  | bl c => cases c <;> rfl
  | _ => rfl
theorem Ok_not {Q : D → Store → Prop} (a : SE) : Ok E (eNot a φ S) Q = Ok E (a φ S) fun d S1 => match d with
  | .bl c => Q (.bl (!c)) S1
  | _ => False := by
  unfold eNot
  rw [Ok_bind]
  congr 1
  funext d S1
  cases d <;> rfl
theorem Ok_neg {Q : D → Store → Prop} (a : SE) : Ok E (eNeg a φ S) Q = Ok E (a φ S) fun d S1 => match d with
  | .int c => Q (.int (-c)) S1
  | _ => False := by
  unfold eNeg
  rw [Ok_bind]
  congr 1
  funext d S1
  cases d <;> rfl
theorem Ok_nil {Q : List D → Store → Prop} : Ok E (aNil φ S) Q = Q [] S := propext Iff.rfl
theorem Ok_cons {Q : List D → Store → Prop} (f : SE) (r : SA) : Ok E (aCons f r φ S) Q = Ok E (f φ S) fun d S1 => Ok E (r φ S1) fun ds S2 => Q (d :: ds) S2 := by
  unfold aCons
  rw [Ok_bind]
  congr 1
  funext d S1
  rw [Ok_bind]
  rfl
theorem Ok_tup {Q : D → Store → Prop} (r : SA) : Ok E (eTup r φ S) Q = Ok E (r φ S) fun ds S1 => small ds.length = true ∧ Q (.tup ds) S1 := by
  unfold eTup
  rw [Ok_bind]
  congr 1
  funext ds S1
  cases small ds.length <;> simp [Ok]
theorem Ok_lst {Q : D → Store → Prop} (r : SA) : Ok E (eLst r φ S) Q = Ok E (r φ S) fun ds S1 => small ds.length = true ∧ Q (.ref S1.length) (S1 ++ [.lst ds]) := by
  unfold eLst
  rw [Ok_bind]
  congr 1
  funext ds S1
  cases small ds.length <;> simp [Ok]
theorem Ok_call {Q : D → Store → Prop} (F : SF) (r : SA) : Ok E (eCall F r φ S) Q = Ok E (r φ S) fun ds S1 => Ok E (F ds S1) Q := Ok_bind _ _
theorem Ok_meth {Q : D → Store → Prop} (c : Nat) (m : Str) (F : SF) (o : SE) (r : SA) : Ok E (eMeth c m F o r φ S) Q = Ok E (o φ S) fun x S1 => match x with
  | .ref n => isIns S1 n c m = true ∧ Ok E (r φ S1) fun ds S2 => Ok E (F (.ref n :: ds) S2) Q
  | _ => False := by
  unfold eMeth
  rw [Ok_bind]
  congr 1
  funext x S1
  cases x with
  | ref n =>
    simp only
    cases isIns S1 n c m with
    | true => simp [Ok_bind]
    | false => simp [Ok]
  | _ => rfl
theorem Ok_make {Q : D → Store → Prop} (c : Nat) (F : SF) (r : SA) : Ok E (eMake c F r φ S) Q = Ok E (r φ S) fun ds S1 => Ok E (F (.ref S1.length :: ds) (S1 ++ [.ins c []])) fun v S2 => match v with
  | .non => Q (.ref S1.length) S2
  | _ => False := by
  unfold eMake
  rw [Ok_bind]
  congr 1
  funext ds S1
  rw [Ok_bind]
  congr 1
  funext v S2
  cases v <;> rfl
theorem Ok_fld {Q : D → Store → Prop} (c : Nat) (f : Str) (o : SE) : Ok E (eFld c f o φ S) Q = Ok E (o φ S) fun x S1 => match x with
  | .ref n => match fget S1 n c f with
    | some d => Q d S1
    | none => False
  | _ => False := by
  unfold eFld
  rw [Ok_bind]
  congr 1
  funext x S1
  cases x with
  | ref n =>
    simp only
    cases fget S1 n c f <;> rfl
  | _ => rfl
theorem Ok_sl {Q : D → Store → Prop} (f : SE) (l h : SO) : Ok E (eSl f l h φ S) Q = Ok E (f φ S) fun d S1 => Ok E (l φ S1) fun lo S2 => Ok E (h φ S2) fun hi S3 => Ok E (R.of (gSl d lo hi S3)) Q := by
  unfold eSl
  rw [Ok_bind]
  congr 1
  funext x S1
  rw [Ok_bind]
  congr 1
  funext x S1
  rw [Ok_bind]
theorem Ok_ono {Q : Option Int → Store → Prop} : Ok E (oNo φ S) Q = Q none S := propext Iff.rfl
theorem Ok_osome {Q : Option Int → Store → Prop} (f : SE) : Ok E (oSome f φ S) Q = Ok E (f φ S) fun d S1 => match d with
  | .int i => Q (some i) S1
  | _ => False := by
  unfold oSome
  rw [Ok_bind]
  congr 1
  funext d S1
  cases d <;> rfl
theorem Ok_cb {Q : D → Store → Prop} (g : GC) (r : SA) : Ok E (eCB g r φ S) Q = Ok E (r φ S) fun ds S1 => Ok E (R.of (g ds S1)) Q := Ok_bind _ _
theorem Ok_bm {Q : D → Store → Prop} (T : String) (g : GM) (o : SE) (r : SA) : Ok E (eBM T g o r φ S) Q = Ok E (o φ S) fun x S1 => recv S1 T x = true ∧ Ok E (r φ S1) fun ds S2 => Ok E (R.of (g x ds S2)) Q := by
  unfold eBM
  rw [Ok_bind]
  congr 1
  funext x S1
  cases recv S1 T x with
  | true => simp [Ok_bind]
  | false => simp [Ok]
theorem Ok_isi {Q : D → Store → Prop} (T : String) (f : SE) : Ok E (eIsi T f φ S) Q = Ok E (f φ S) fun d S1 => match (tyN S1 d).bind fun t => kitB t T with
  | some b => Q (.bl b) S1
  | none => False := by
  unfold eIsi
  rw [Ok_bind]
  congr 1
  funext d S1
  cases (tyN S1 d).bind fun t => kitB t T <;> rfl
theorem Ok_rg1 {Q : ItS → Store → Prop} (r : SA) : Ok E (iRg1 r φ S) Q = Ok E (r φ S) fun ds S1 => match ds with
  | [.int j] => smallI j = true ∧ Q (rgI 0 j.toNat) S1
  | _ => False := by
  unfold iRg1
  rw [Ok_bind]
  congr 1
  funext ds S1
  rcases ds with _ | ⟨d, _ | ⟨e, r⟩⟩
  · rfl
  · cases d with
    | int j => show Ok E (if smallI j = true then _ else _) Q = _; by_cases h : smallI j = true <;> simp [h, Ok]
    | _ => rfl
  · cases d <;> rfl
theorem Ok_rg2 {Q : ItS → Store → Prop} (r : SA) : Ok E (iRg2 r φ S) Q = Ok E (r φ S) fun ds S1 => match ds with
  | [.int i, .int j] => smallI i = true ∧ smallI j = true ∧ Q (rgI i (j - i).toNat) S1
  | _ => False := by
  unfold iRg2
  rw [Ok_bind]
  congr 1
  funext ds S1
  rcases ds with _ | ⟨d, _ | ⟨e, _ | ⟨g, r⟩⟩⟩
  · rfl
  · cases d <;> rfl
  · cases d with
    | int i => cases e with
      | int j => show Ok E (if (smallI i && smallI j) = true then _ else _) Q = _; by_cases h : smallI i = true <;> by_cases h2 : smallI j = true <;> simp [h, h2, Ok]
      | _ => rfl
    | _ => cases e <;> rfl
  · cases d <;> cases e <;> rfl
theorem Ok_ilst {Q : ItS → Store → Prop} (f : SE) : Ok E (iLst f φ S) Q = Ok E (f φ S) fun d S1 => match d with
  | .ref m => match lget S1 m with
    | some xs => Q (hdI m xs.length) S1
    | none => False
  | _ => False := by
  unfold iLst
  rw [Ok_bind]
  congr 1
  funext d S1
  cases d with
  | ref m => simp only; cases lget S1 m <;> rfl
  | _ => rfl
theorem Ok_itp {Q : ItS → Store → Prop} (f : SE) : Ok E (iTp f φ S) Q = Ok E (f φ S) fun d S1 => match d with
  | .tup xs => Q (tpI xs) S1
  | _ => False := by
  unfold iTp
  rw [Ok_bind]
  congr 1
  funext d S1
  cases d <;> rfl
theorem Ok_lc {Q : D → Store → Prop} (j : Nat) (it : SI) (tst : ST) (elt : SE) : Ok E (eLc j it tst elt φ S) Q = Ok E (it φ S) fun t S1 => match lcS j S1.length t tst elt t.n 0 (φ.set j none) (S1 ++ [.lst []]) with
  | some S2 => Q (.ref S1.length) S2
  | none => False := by
  unfold eLc
  rw [Ok_bind]
  congr 1
  funext t S1
  cases lcS j S1.length t tst elt t.n 0 (φ.set j none) (S1 ++ [.lst []]) <;> rfl
theorem St_fld (c : Nat) (m : Str) (o v : SE) : St X (sFld c m o v φ S) Qn Qr = Ok (fun c S => X c φ S) (v φ S) fun d S1 => Ok (fun c S => X c φ S) (o φ S1) fun x S2 => match x with
  | .ref n => match fset S2 n c m d with
    | some S3 => Qn φ S3
    | none => False
  | _ => False := by
  unfold sFld
  rw [St_toS]
  congr 1
  funext d S1
  rw [St_toS]
  congr 1
  funext x S2
  cases x with
  | ref n => simp only; cases fset S2 n c m d <;> rfl
  | _ => rfl
theorem St_sub (o i v : SE) : St X (sSub o i v φ S) Qn Qr = Ok (fun c S => X c φ S) (v φ S) fun d S1 => Ok (fun c S => X c φ S) (o φ S1) fun x S2 => Ok (fun c S => X c φ S) (i φ S2) fun y S3 => match x, y with
  | .ref n, .int k => match lset S3 n k d with
    | some S4 => Qn φ S4
    | none => False
  | _, _ => False := by
  unfold sSub
  rw [St_toS]
  congr 1
  funext d S1
  rw [St_toS]
  congr 1
  funext x S2
  rw [St_toS]
  congr 1
  funext y S3
  cases x with
  | ref n => cases y with
    | int k => simp only; cases lset S3 n k d <;> rfl
    | _ => rfl
  | _ => cases y <;> rfl
theorem St_asg2 (i j : Nat) (e : SE) : St X (sAsg2 i j e φ S) Qn Qr = Ok (fun c S => X c φ S) (e φ S) fun d S1 => match d with
  | .tup [x, y] => Qn ((φ.set i (some x)).set j (some y)) S1
  | _ => False := by
  unfold sAsg2
  rw [St_toS]
  congr 1
  funext d S1
  cases d with
  | tup xs =>
    rcases xs with _ | ⟨d, _ | ⟨e, _ | ⟨g, r⟩⟩⟩ <;> rfl
  | _ => rfl
end

/-! ### loops -/
theorem for_inv {j : Nat} {t : ItS} {body : SS} {X : Nat → Fr → Store → Prop} {Qn : Fr → Store → Prop} {Qr : D → Store → Prop} (I : Nat → Fr → Store → Prop)
    (step : ∀ i φ S, i < t.n → I i φ S → ∃ d, t.get i S = some d ∧ St X (body (φ.set j (some d)) S) (I (i + 1)) Qr) (done : ∀ φ S, I t.n φ S → t.fin S = true ∧ Qn φ S) :
    ∀ (m i : Nat) (φ : Fr) (S : Store), i + m = t.n → I i φ S → St X (forS j t body m i φ S) Qn Qr
  | 0, i, φ, S, e, h => by
    have e : i = t.n := by omega
    subst e
    obtain ⟨h1, h2⟩ := done φ S h
    unfold forS
    rw [if_pos h1]
    exact h2
  | m + 1, i, φ, S, e, h => by
    obtain ⟨d, h1, h2⟩ := step i φ S (by omega) h
    unfold forS
    rw [h1]
    simp only
    cases eb : body (φ.set j (some d)) S with
    | nx φ' S' =>
      rw [eb] at h2
      exact for_inv I step done m (i + 1) φ' S' (by omega) h2
    | rt d S' => rw [eb] at h2; exact h2
    | bk φ' S' => rw [eb] at h2; exact h2.elim
    | ct φ' S' => rw [eb] at h2; exact h2.elim
    | exc c φ' S' => rw [eb] at h2; exact h2
    | no => rw [eb] at h2; exact h2.elim
/-- over range: the turn's number is lo + i -/
theorem for_rg {j : Nat} {lo : Int} {n : Nat} {body : SS} {φ : Fr} {S : Store} {X : Nat → Fr → Store → Prop} {Qn : Fr → Store → Prop} {Qr : D → Store → Prop} (I : Nat → Fr → Store → Prop) (h0 : I 0 φ S)
    (step : ∀ i φ S, i < n → I i φ S → St X (body (φ.set j (some (.int (lo + i)))) S) (I (i + 1)) Qr) (done : ∀ φ S, I n φ S → Qn φ S) : St X (forS j (rgI lo n) body (rgI lo n).n 0 φ S) Qn Qr :=
  for_inv (t := rgI lo n) I (fun i φ S hi h => ⟨_, rfl, step i φ S hi h⟩) (fun φ S h => ⟨rfl, done φ S h⟩) n 0 φ S (Nat.zero_add _) h0
/-- over a list that stays as it is -/
theorem for_hd {j m : Nat} {xs : List D} {body : SS} {φ : Fr} {S : Store} {X : Nat → Fr → Store → Prop} {Qn : Fr → Store → Prop} {Qr : D → Store → Prop} (I : Nat → Fr → Store → Prop) (h0 : I 0 φ S) (hl : ∀ i φ S, i ≤ xs.length → I i φ S → lget S m = some xs)
    (step : ∀ i φ S d, xs[i]? = some d → I i φ S → St X (body (φ.set j (some d)) S) (I (i + 1)) Qr) (done : ∀ φ S, I xs.length φ S → Qn φ S) : St X (forS j (hdI m xs.length) body (hdI m xs.length).n 0 φ S) Qn Qr :=
  for_inv (t := hdI m xs.length) I (fun i φ S hi h => by
    have hi' : i < xs.length := hi
    refine ⟨xs[i], ?_, step i φ S _ (List.getElem?_eq_getElem hi') h⟩
    show (match lget S m with
      | some xs => xs[i]?
      | none => none) = some xs[i]
    rw [hl i φ S (Nat.le_of_lt hi') h]
    exact List.getElem?_eq_getElem hi') (fun φ S h => ⟨by
    show (match lget S m with
      | some ys => decide (ys.length ≤ xs.length)
      | none => false) = true
    rw [hl xs.length φ S (Nat.le_refl _) h]
    simp, done φ S h⟩) xs.length 0 φ S (Nat.zero_add _) h0
theorem for_tp {j : Nat} {xs : List D} {body : SS} {φ : Fr} {S : Store} {X : Nat → Fr → Store → Prop} {Qn : Fr → Store → Prop} {Qr : D → Store → Prop} (I : Nat → Fr → Store → Prop) (h0 : I 0 φ S)
    (step : ∀ i φ S d, xs[i]? = some d → I i φ S → St X (body (φ.set j (some d)) S) (I (i + 1)) Qr) (done : ∀ φ S, I xs.length φ S → Qn φ S) : St X (forS j (tpI xs) body (tpI xs).n 0 φ S) Qn Qr :=
  for_inv (t := tpI xs) I (fun i φ S hi h => ⟨xs[i]'hi, List.getElem?_eq_getElem hi, step i φ S _ (List.getElem?_eq_getElem hi) h⟩) (fun φ S h => ⟨rfl, done φ S h⟩) xs.length 0 φ S (Nat.zero_add _) h0
/-- a comprehension: I by the turn, the list so far, the store -/
theorem lc_inv {j n : Nat} {t : ItS} {tst : ST} {elt : SE} {φ : Fr} {Q : Store → Prop} (I : Nat → List D → Store → Prop) (hn : ∀ i acc S, I i acc S → lget S n = some acc ∧ acc.length ≤ i)
    (hz : t.n < 16777216)
    (step : ∀ i acc S, i < t.n → I i acc S → ∃ d, t.get i S = some d ∧ Ok NoE (tst (φ.set j (some d)) S) fun b S1 => if b = true then Ok NoE (elt (φ.set j (some d)) S1) fun y S2 => lget S2 n = some acc ∧ I (i + 1) (acc ++ [y]) (S2.set n (.lst (acc ++ [y]))) else I (i + 1) acc S1)
    (done : ∀ acc S, I t.n acc S → t.fin S = true ∧ Q S) :
    ∀ (m i : Nat) (acc : List D) (S : Store), i + m = t.n → I i acc S → match lcS j n t tst elt m i φ S with
      | some S2 => Q S2
      | none => False
  | 0, i, acc, S, e, h => by
    have e : i = t.n := by omega
    subst e
    obtain ⟨h1, h2⟩ := done acc S h
    unfold lcS
    rw [if_pos h1]
    exact h2
  | m + 1, i, acc, S, e, h => by
    obtain ⟨d, h1, h2⟩ := step i acc S (by omega) h
    obtain ⟨h3, h4⟩ := hn i acc S h
    unfold lcS
    rw [h1]
    simp only
    obtain ⟨b, S1, e1, h2⟩ := h2.get
    rw [e1]
    cases b with
    | false =>
      rw [if_neg Bool.false_ne_true] at h2
      exact lc_inv I hn hz step done m (i + 1) acc S1 (by omega) h2
    | true =>
      rw [if_pos rfl] at h2
      obtain ⟨y, S2, e2, h5, h6⟩ := h2.get
      simp only
      rw [e2]
      simp only
      rw [h5]
      simp only
      have hs : small (acc.length + 1) = true := decide_eq_true (by omega)
      rw [if_pos hs]
      exact lc_inv I hn hz step done m (i + 1) _ _ (by omega) h6
/-! ### stores -/
theorem lget_iff {S : Store} {n : Nat} {xs : List D} : lget S n = some xs ↔ S[n]? = some (.lst xs) := by
  unfold lget
  constructor
  · intro h
    split at h
    · rename_i ys e
      cases h
      exact e
    · cases h
  · intro h
    rw [h]
theorem at_app {S T : Store} {n : Nat} {o : O} (h : S[n]? = some o) : (S ++ T)[n]? = some o := by
  rw [List.getElem?_append_left (List.getElem?_eq_some_iff.mp h).1]
  exact h
theorem lget_app {S T : Store} {n : Nat} {xs : List D} (h : lget S n = some xs) : lget (S ++ T) n = some xs := lget_iff.mpr (at_app (lget_iff.mp h))
theorem lget_new {S : Store} {xs : List D} : lget (S ++ [.lst xs]) S.length = some xs := lget_iff.mpr (by simp)
theorem lt_of_at {S : Store} {n : Nat} {o : O} (h : S[n]? = some o) : n < S.length := (List.getElem?_eq_some_iff.mp h).1
theorem at_set_ne {S : Store} {n m : Nat} {o o' : O} (h : S[n]? = some o) (hne : m ≠ n) : (S.set m o')[n]? = some o := by rw [List.getElem?_set_ne hne]; exact h
theorem at_set_eq {S : Store} {n : Nat} {o o' : O} (h : S[n]? = some o') : (S.set n o)[n]? = some o := by rw [List.getElem?_set_self (lt_of_at h)]
theorem lget_set_eq {S : Store} {n : Nat} {o' : O} {xs : List D} (h : S[n]? = some o') : lget (S.set n (.lst xs)) n = some xs := lget_iff.mpr (at_set_eq h)
theorem lget_set_ne {S : Store} {n m : Nat} {o' : O} {xs : List D} (h : lget S n = some xs) (hne : m ≠ n) : lget (S.set m o') n = some xs := lget_iff.mpr (at_set_ne (lget_iff.mp h) hne)
theorem fget_of {S : Store} {n c : Nat} {fs : List (Str × D)} {f : Str} (h : S[n]? = some (.ins c fs)) : fget S n c f = fs.lookup f := by
  unfold fget
  rw [h]
  simp
theorem isIns_of {S : Store} {n c : Nat} {fs : List (Str × D)} {m : Str} (h : S[n]? = some (.ins c fs)) (hm : fs.lookup m = none) : isIns S n c m = true := by
  unfold isIns
  rw [h]
  simp [hm]
theorem fset_of {S : Store} {n c : Nat} {fs : List (Str × D)} {f : Str} {d : D} (h : S[n]? = some (.ins c fs)) (hl : fs.length < 1000) : fset S n c f d = some (S.set n (.ins c (putD f d fs))) := by
  unfold fset
  rw [h]
  simp [hl]
theorem recv_lst {S : Store} {n : Nat} {xs : List D} (h : lget S n = some xs) : recv S "list" (.ref n) = true := by
  unfold recv
  simp [h]
end DebtJ

set_option Elab.async false
set_option linter.all false
set_option maxRecDepth 100000
set_option maxHeartbeats 1000000
namespace DebtJ
open PySem L2

section
variable {S : Store} {E : Nat → Store → Prop} {Q : D → Store → Prop}
theorem small_eq (n : Nat) : (small n = true) = (n ≤ 16777216) := by unfold small; simp
theorem smallI_eq (n : Int) : (smallI n = true) = (-4611686018427387904 ≤ n ∧ n < 4611686018427387904) := by unfold smallI; simp
/-! ### operators on known shapes -/
theorem k_addI (i j : Int) : Ok E (R.of (gAdd (.int i) (.int j) S)) Q = Q (.int (i + j)) S := propext Iff.rfl
theorem k_addS (x y : Str) : Ok E (R.of (gAdd (.str x) (.str y) S)) Q = (x.length + y.length ≤ 16777216 ∧ Q (.str (x ++ y)) S) := by
  by_cases h : x.length + y.length ≤ 16777216 <;> simp [gAdd, gAddI, gI0, gAddS, gCat, small, h, Ok, R.of]
theorem k_addL (m n : Nat) : Ok E (R.of (gAdd (.ref m) (.ref n) S)) Q = match lget S m, lget S n with
  | some xs, some ys => xs.length + ys.length ≤ 16777216 ∧ Q (.ref S.length) (S ++ [.lst (xs ++ ys)])
  | _, _ => False := by
  cases h1 : lget S m with
  | none => simp [gAdd, gAddI, gI0, gAddS, gCat, h1, Ok, R.of]
  | some xs => cases h2 : lget S n with
    | none => simp [gAdd, gAddI, gI0, gAddS, gCat, h1, h2, Ok, R.of]
    | some ys => by_cases h : xs.length + ys.length ≤ 16777216 <;> simp [gAdd, gAddI, gI0, gAddS, gCat, small, h1, h2, h, Ok, R.of]
theorem k_sub (i j : Int) : Ok E (R.of (gSub (.int i) (.int j) S)) Q = Q (.int (i - j)) S := propext Iff.rfl
theorem k_mulI (i j : Int) : Ok E (R.of (gMul (.int i) (.int j) S)) Q = (((-18446744073709551616 < i ∧ i < 18446744073709551616) ∨ (-18446744073709551616 < j ∧ j < 18446744073709551616)) ∧ Q (.int (i * j)) S) := by
  by_cases h : (-18446744073709551616 < i ∧ i < 18446744073709551616) ∨ (-18446744073709551616 < j ∧ j < 18446744073709551616) <;> simp [gMul, gMulI, gI, gRep, h, Ok, R.of]
theorem k_mulL (m : Nat) (k : Int) : Ok E (R.of (gMul (.ref m) (.int k) S)) Q = match lget S m with
  | some xs => ((-9223372036854775808 ≤ k ∧ k < 9223372036854775808) ∧ xs.length * k.toNat ≤ 16777216) ∧ Q (.ref S.length) (S ++ [.lst (List.replicate k.toNat xs).flatten])
  | none => False := by
  cases h1 : lget S m with
  | none => simp [gMul, gMulI, gI, gRep, h1, Ok, R.of]
  | some xs => by_cases h : (-9223372036854775808 ≤ k ∧ k < 9223372036854775808) ∧ xs.length * k.toNat ≤ 16777216 <;> simp [gMul, gMulI, gI, gRep, h1, small, h, Ok, R.of]
theorem k_mod (i j : Int) : Ok E (R.of (gMod (.int i) (.int j) S)) Q = (0 < j ∧ Q (.int (i % j)) S) := by
  by_cases h : 0 < j <;> simp [gMod, gI, h, Ok, R.of]
theorem k_fdiv (i j : Int) : Ok E (R.of (gFdiv (.int i) (.int j) S)) Q = ((0 < j ∧ j < 1073741824) ∧ Q (.int (i / j)) S) := by
  by_cases h : 0 < j ∧ j < 1073741824 <;> simp [gFdiv, gI, h, Ok, R.of]
theorem k_pow (i j : Int) : Ok E (R.of (gPow (.int i) (.int j) S)) Q = ((0 ≤ j ∧ j ≤ 1000000 ∧ i.natAbs < 18446744073709551616) ∧ Q (.int (i ^ j.toNat)) S) := by
  by_cases h : 0 ≤ j ∧ j ≤ 1000000 ∧ i.natAbs < 18446744073709551616 <;> simp [gPow, gI, h, Ok, R.of]
theorem k_lt (i j : Int) : Ok E (R.of (gLt (.int i) (.int j) S)) Q = Q (.bl (decide (i < j))) S := propext Iff.rfl
theorem k_le (i j : Int) : Ok E (R.of (gLe (.int i) (.int j) S)) Q = Q (.bl (decide (i ≤ j))) S := propext Iff.rfl
theorem k_gt (i j : Int) : Ok E (R.of (gGt (.int i) (.int j) S)) Q = Q (.bl (decide (j < i))) S := propext Iff.rfl
theorem k_ge (i j : Int) : Ok E (R.of (gGe (.int i) (.int j) S)) Q = Q (.bl (decide (j ≤ i))) S := propext Iff.rfl
theorem k_eqI (i j : Int) : Ok E (R.of (gEq (.int i) (.int j) S)) Q = Q (.bl (decide (i = j))) S := propext Iff.rfl
theorem k_eqS (i j : Str) : Ok E (R.of (gEq (.str i) (.str j) S)) Q = Q (.bl (decide (i = j))) S := propext Iff.rfl
theorem k_eqB (i j : Bool) : Ok E (R.of (gEq (.bl i) (.bl j) S)) Q = Q (.bl (decide (i = j))) S := propext Iff.rfl
theorem k_eqNI (i : Int) : Ok E (R.of (gEq .non (.int i) S)) Q = Q (.bl false) S := propext Iff.rfl
theorem k_eqSI (s : Str) (i : Int) : Ok E (R.of (gEq (.str s) (.int i) S)) Q = Q (.bl false) S := propext Iff.rfl
theorem k_neI (i j : Int) : Ok E (R.of (gNe (.int i) (.int j) S)) Q = Q (.bl (!decide (i = j))) S := propext Iff.rfl
theorem k_neS (i j : Str) : Ok E (R.of (gNe (.str i) (.str j) S)) Q = Q (.bl (!decide (i = j))) S := propext Iff.rfl
theorem k_neB (i j : Bool) : Ok E (R.of (gNe (.bl i) (.bl j) S)) Q = Q (.bl (!decide (i = j))) S := propext Iff.rfl
theorem k_neNI (i : Int) : Ok E (R.of (gNe .non (.int i) S)) Q = Q (.bl true) S := propext Iff.rfl
/-- == of lists, of tuples -/
def EqD (S : Store) (a b : D) (Q : Bool → Prop) : Prop := match eqDD S a b with
  | some c => Q c
  | none => False
theorem k_eqR (m n : Nat) : Ok E (R.of (gEq (.ref m) (.ref n) S)) Q = EqD S (.ref m) (.ref n) fun c => Q (.bl c) S := by
  unfold EqD gEq gEqS gEqD
  cases eqDD S (.ref m) (.ref n) <;> rfl
theorem k_eqT (m n : List D) : Ok E (R.of (gEq (.tup m) (.tup n) S)) Q = EqD S (.tup m) (.tup n) fun c => Q (.bl c) S := by
  unfold EqD gEq gEqS gEqD
  cases eqDD S (.tup m) (.tup n) <;> rfl
theorem k_neR (m n : Nat) : Ok E (R.of (gNe (.ref m) (.ref n) S)) Q = EqD S (.ref m) (.ref n) fun c => Q (.bl (!c)) S := by
  unfold EqD gNe gNeS gNeD
  cases eqDD S (.ref m) (.ref n) <;> rfl
theorem k_neT (m n : List D) : Ok E (R.of (gNe (.tup m) (.tup n) S)) Q = EqD S (.tup m) (.tup n) fun c => Q (.bl (!c)) S := by
  unfold EqD gNe gNeS gNeD
  cases eqDD S (.tup m) (.tup n) <;> rfl
theorem k_isN (d : D) : Ok E (R.of (gIs d .non S)) Q = Q (.bl (isN d)) S := propext Iff.rfl
theorem k_isB (a b : Bool) : Ok E (R.of (gIs (.bl a) (.bl b) S)) Q = Q (.bl (decide (a = b))) S := propext Iff.rfl
theorem k_isNotN (d : D) : Ok E (R.of (gIsNot d .non S)) Q = Q (.bl (!isN d)) S := propext Iff.rfl
theorem k_isNotB (a b : Bool) : Ok E (R.of (gIsNot (.bl a) (.bl b) S)) Q = Q (.bl (!decide (a = b))) S := propext Iff.rfl
theorem k_ixL (ns : List Int) (m : Nat) (i : Int) : Ok E (R.of (gIx ns (.ref m) (.int i) S)) Q = match (lget S m).bind fun xs => atI xs i with
  | some d => Q d S
  | none => False := by
  cases h : lget S m with
  | none => simp [gIx, gIxL, gIxC, gIxT, gIxS, h, Ok, R.of]
  | some xs => cases h2 : atI xs i <;> simp [gIx, gIxL, gIxC, gIxT, gIxS, h, h2, Ok, R.of]
theorem k_ixT (ns : List Int) (xs : List D) (i : Int) : Ok E (R.of (gIx ns (.tup xs) (.int i) S)) Q = match atI xs i with
  | some d => Q d S
  | none => False := by
  cases h2 : atI xs i <;> simp [gIx, gIxL, gIxC, gIxT, gIxS, h2, Ok, R.of]
theorem k_ixC (ns : List Int) (i : Int) : Ok E (R.of (gIx ns .scr (.int i) S)) Q = match atI ns i with
  | some n => Q (.int n) S
  | none => False := by
  cases h2 : atI ns i <;> simp [gIx, gIxL, gIxC, gIxT, gIxS, h2, Ok, R.of]
/-! ### built-ins on known shapes -/
theorem k_lenL (k m : Nat) : Ok E (R.of (gLen k [.ref m] S)) Q = match lget S m with
  | some xs => Q (.int xs.length) S
  | none => False := by
  cases h : lget S m <;> simp [gLen, h, Ok, R.of]
theorem k_lenT (k : Nat) (xs : List D) : Ok E (R.of (gLen k [.tup xs] S)) Q = Q (.int xs.length) S := propext Iff.rfl
theorem k_lenC (k : Nat) : Ok E (R.of (gLen k [.scr] S)) Q = Q (.int k) S := propext Iff.rfl
theorem k_lenS (k : Nat) (s : Str) : Ok E (R.of (gLen k [.str s] S)) Q = (s.length ≤ 16777216 ∧ Q (.int s.length) S) := by
  by_cases h : s.length ≤ 16777216 <;> simp [gLen, small, h, Ok, R.of]
theorem k_intI (i : Int) : Ok E (R.of (gInt [.int i] S)) Q = Q (.int i) S := propext Iff.rfl
theorem k_intB (b : Bool) : Ok E (R.of (gInt [.bl b] S)) Q = Q (.int (if b then 1 else 0)) S := propext Iff.rfl
theorem k_max (i j : Int) : Ok E (R.of (gMax2 [.int i, .int j] S)) Q = Q (.int (max i j)) S := by
  have : (if j > i then j else i) = max i j := by split <;> omega
  rw [← this]; rfl
theorem k_min (i j : Int) : Ok E (R.of (gMin2 [.int i, .int j] S)) Q = Q (.int (min i j)) S := by
  have : (if j < i then j else i) = min i j := by split <;> omega
  rw [← this]; rfl
theorem k_listL (m : Nat) : Ok E (R.of (gList [.ref m] S)) Q = match lget S m with
  | some xs => Q (.ref S.length) (S ++ [.lst xs])
  | none => False := by
  cases h : lget S m <;> simp [gList, h, Ok, R.of]
theorem k_listT (xs : List D) : Ok E (R.of (gList [.tup xs] S)) Q = Q (.ref S.length) (S ++ [.lst xs]) := propext Iff.rfl
theorem k_tuple (m : Nat) : Ok E (R.of (gTuple [.ref m] S)) Q = match lget S m with
  | some xs => Q (.tup xs) S
  | none => False := by
  cases h : lget S m <;> simp [gTuple, h, Ok, R.of]
theorem k_all (m : Nat) : Ok E (R.of (gAll [.ref m] S)) Q = match (lget S m).bind blsOf with
  | some bs => Q (.bl (bs.all fun b => b)) S
  | none => False := by
  cases h : (lget S m).bind blsOf <;> simp [gAll, h, Ok, R.of]
theorem k_sum (m : Nat) : Ok E (R.of (gSum [.ref m] S)) Q = match (lget S m).bind intsOf with
  | some bs => Q (.int bs.sum) S
  | none => False := by
  cases h : (lget S m).bind intsOf <;> simp [gSum, h, Ok, R.of]
theorem k_append (m : Nat) (y : D) : Ok E (R.of (gAppend (.ref m) [y] S)) Q = match lget S m with
  | some xs => xs.length + 1 ≤ 16777216 ∧ Q .non (S.set m (.lst (xs ++ [y])))
  | none => False := by
  cases h : lget S m with
  | none => simp [gAppend, h, Ok, R.of]
  | some xs => by_cases h2 : xs.length + 1 ≤ 16777216 <;> simp [gAppend, small, h, h2, Ok, R.of]
theorem k_extend (m n : Nat) : Ok E (R.of (gExtend (.ref m) [.ref n] S)) Q = match lget S m, lget S n with
  | some xs, some ys => xs.length + ys.length ≤ 16777216 ∧ Q .non (S.set m (.lst (xs ++ ys)))
  | _, _ => False := by
  cases h1 : lget S m with
  | none => simp [gExtend, h1, Ok, R.of]
  | some xs => cases h2 : lget S n with
    | none => simp [gExtend, h1, h2, Ok, R.of]
    | some ys => by_cases h : xs.length + ys.length ≤ 16777216 <;> simp [gExtend, small, h1, h2, h, Ok, R.of]
theorem k_reverse (m : Nat) : Ok E (R.of (gReverse (.ref m) [] S)) Q = match lget S m with
  | some xs => Q .non (S.set m (.lst xs.reverse))
  | none => False := by
  cases h : lget S m <;> simp [gReverse, h, Ok, R.of]
theorem k_clear (m : Nat) : Ok E (R.of (gClear (.ref m) [] S)) Q = match lget S m with
  | some xs => Q .non (S.set m (.lst []))
  | none => False := by
  cases h : lget S m <;> simp [gClear, h, Ok, R.of]
theorem k_slL (m : Nat) (lo hi : Option Int) : Ok E (R.of (gSl (.ref m) lo hi S)) Q = match lget S m with
  | some xs => Q (.ref S.length) (S ++ [.lst (cutD xs lo hi)])
  | none => False := by
  cases h : lget S m <;> simp [gSl, gSlL, gSlT, gSlS, h, Ok, R.of]
/-- an if whose branches both come to the same -/
theorem cut_if {c : Prop} [Decidable c] {A B C : Prop} (h : C) (ha : c → C → A) (hb : ¬ c → C → B) : if c then A else B := by
  split
  · rename_i hc
    exact ha hc h
  · rename_i hc
    exact hb hc h
theorem nat10 : (Int.natAbs 10 < 18446744073709551616) = True := by decide
theorem ix_lt {i : Int} {n : Nat} (h0 : 0 ≤ i) (h : i < n) : seqIndex? i n = some i.toNat := by
  have e := ixN_seq (n := n) (i := i) (j := i.toNat) (by unfold ixN; rw [if_pos h0, if_pos h])
  exact e.1
/-- pop at a place that is there -/
theorem k_pop {m : Nat} {xs : List D} {i : Int} {y : D} (h : lget S m = some xs) (h0 : 0 ≤ i) (hl : xs.length ≤ 16777216) (hy : xs[i.toNat]? = some y) (q : Q y (S.set m (.lst (xs.eraseIdx i.toNat)))) : Ok E (R.of (gPopAt (.ref m) [.int i] S)) Q := by
  have hi : i.toNat < xs.length := (List.getElem?_eq_some_iff.mp hy).1
  have h2 : seqIndex? i xs.length = some i.toNat := ix_lt h0 (by omega)
  have h3 : (-9223372036854775808 ≤ i ∧ i < 9223372036854775808) := by omega
  simp only [gPopAt, h, h3, h2, hy, decide_true, if_true, Option.map_some, and_self]
  exact q
theorem atI_nn {α : Type} {xs : List α} {i : Int} (h0 : 0 ≤ i) : atI xs i = xs[i.toNat]? := by
  unfold atI ixN
  rw [if_pos h0]
  by_cases h : i < xs.length
  · rw [if_pos h]; rfl
  · rw [if_neg h]
    show none = _
    rw [List.getElem?_eq_none (by omega)]
theorem atI_lit {α : Type} {xs : List α} (n : Nat) : atI xs (n : Int) = xs[n]? := by rw [atI_nn (by omega)]; simp
theorem atI_c0 {α : Type} (x : α) (xs : List α) : atI (x :: xs) 0 = some x := by rw [atI_nn (by omega)]; rfl
theorem atI_c1 {α : Type} (x y : α) (xs : List α) : atI (x :: y :: xs) 1 = some y := by rw [atI_nn (by omega)]; rfl
theorem atI_c2 {α : Type} (x y z : α) (xs : List α) : atI (x :: y :: z :: xs) 2 = some z := by rw [atI_nn (by omega)]; rfl
theorem atI_c3 {α : Type} (x y z w : α) (xs : List α) : atI (x :: y :: z :: w :: xs) 3 = some w := by rw [atI_nn (by omega)]; rfl
theorem blsOf_true : ∀ {bs : List D}, (∀ b ∈ bs, b = .bl true) → blsOf bs = some (bs.map fun _ => true)
  | [], _ => rfl
  | b :: bs, h => by
    rw [h b List.mem_cons_self, blsOf, blsOf_true fun c hc => h c (List.mem_cons_of_mem _ hc)]
    rfl
theorem atI_last' {α : Type} (xs : List α) (v : α) : atI (xs ++ [v]) (-1) = some v := atI_last xs v
theorem atI_neg1 {α : Type} {xs : List α} : atI xs (-1) = xs.getLast? := by
  rcases List.eq_nil_or_concat xs with rfl | ⟨l, x, rfl⟩
  · rfl
  · rw [List.concat_eq_append, atI_last]; simp
theorem atI_two {α : Type} (a b : α) (c : Int) : atI [a, b] (c % 2) = some (if c % 2 = 0 then a else b) := by
  rw [atI_nn (by omega)]
  obtain h | h : c % 2 = 0 ∨ c % 2 = 1 := by omega
  · rw [h]; rfl
  · rw [h]; rfl
theorem lget_app' {T : Store} {n : Nat} (h : n < S.length) : lget (S ++ T) n = lget S n := by
  unfold lget
  rw [List.getElem?_append_left h]
theorem lget_at_len {T : Store} {xs : List D} : lget (S ++ O.lst xs :: T) S.length = some xs := by
  unfold lget
  rw [List.getElem?_append_right (Nat.le_refl _)]
  simp
def lstO : O → Option (List D)
  | .lst xs => some xs
  | _ => none
theorem ty_non : tyN S .non = some "NoneType" := rfl
theorem ty_bl (b : Bool) : tyN S (.bl b) = some "bool" := rfl
theorem ty_int (b : Int) : tyN S (.int b) = some "int" := rfl
theorem ty_str (b : Str) : tyN S (.str b) = some "str" := rfl
theorem ty_tup (b : List D) : tyN S (.tup b) = some "tuple" := rfl
theorem ty_l {n : Nat} {xs : List D} (h : lget S n = some xs) : tyN S (.ref n) = some "list" := by
  unfold tyN
  simp only [lget_iff.mp h]
theorem kb_NoneType_int : kitB "NoneType" "int" = some false := rfl
theorem kb_NoneType_bool : kitB "NoneType" "bool" = some false := rfl
theorem kb_NoneType_str : kitB "NoneType" "str" = some false := rfl
theorem kb_NoneType_list : kitB "NoneType" "list" = some false := rfl
theorem kb_NoneType_tuple : kitB "NoneType" "tuple" = some false := rfl
theorem kb_bool_int : kitB "bool" "int" = some true := rfl
theorem kb_bool_bool : kitB "bool" "bool" = some true := rfl
theorem kb_bool_str : kitB "bool" "str" = some false := rfl
theorem kb_bool_list : kitB "bool" "list" = some false := rfl
theorem kb_bool_tuple : kitB "bool" "tuple" = some false := rfl
theorem kb_int_int : kitB "int" "int" = some true := rfl
theorem kb_int_bool : kitB "int" "bool" = some false := rfl
theorem kb_int_str : kitB "int" "str" = some false := rfl
theorem kb_int_list : kitB "int" "list" = some false := rfl
theorem kb_int_tuple : kitB "int" "tuple" = some false := rfl
theorem kb_str_int : kitB "str" "int" = some false := rfl
theorem kb_str_bool : kitB "str" "bool" = some false := rfl
theorem kb_str_str : kitB "str" "str" = some true := rfl
theorem kb_str_list : kitB "str" "list" = some false := rfl
theorem kb_str_tuple : kitB "str" "tuple" = some false := rfl
theorem kb_tuple_int : kitB "tuple" "int" = some false := rfl
theorem kb_tuple_bool : kitB "tuple" "bool" = some false := rfl
theorem kb_tuple_str : kitB "tuple" "str" = some false := rfl
theorem kb_tuple_list : kitB "tuple" "list" = some false := rfl
theorem kb_tuple_tuple : kitB "tuple" "tuple" = some true := rfl
theorem kb_list_int : kitB "list" "int" = some false := rfl
theorem kb_list_bool : kitB "list" "bool" = some false := rfl
theorem kb_list_str : kitB "list" "str" = some false := rfl
theorem kb_list_list : kitB "list" "list" = some true := rfl
theorem kb_list_tuple : kitB "list" "tuple" = some false := rfl
theorem kb_dict_int : kitB "dict" "int" = some false := rfl
theorem kb_dict_bool : kitB "dict" "bool" = some false := rfl
theorem kb_dict_str : kitB "dict" "str" = some false := rfl
theorem kb_dict_list : kitB "dict" "list" = some false := rfl
theorem kb_dict_tuple : kitB "dict" "tuple" = some false := rfl
theorem isN_non : isN .non = true := rfl
theorem isN_bl (b : Bool) : isN (.bl b) = false := rfl
theorem isN_int (b : Int) : isN (.int b) = false := rfl
theorem isN_str (b : Str) : isN (.str b) = false := rfl
theorem isN_tup (b : List D) : isN (.tup b) = false := rfl
theorem isN_ref (b : Nat) : isN (.ref b) = false := rfl
theorem isi_l {n : Nat} {xs : List D} (h : lget S n = some xs) : ((tyN S (.ref n)).bind fun t => kitB t "list") = some true := by
  unfold tyN
  simp only [lget_iff.mp h]
  rfl
theorem set_new (o o' : O) : (S ++ [o]).set S.length o' = S ++ [o'] := by rw [List.set_append_right _ _ (Nat.le_refl _)]; simp
theorem lget_c0 (o : O) : lget (o :: S) 0 = lstO o := by cases o <;> rfl
theorem lget_cs (o : O) (n : Nat) : lget (o :: S) (n + 1) = lget S n := rfl
theorem lget_set (S : Store) (m n : Nat) (o : O) : lget (S.set m o) n = if m = n then (if n < S.length then lstO o else none) else lget S n := by
  unfold lget
  by_cases h : m = n
  · subst h
    rw [if_pos rfl]
    by_cases hl : m < S.length
    · rw [if_pos hl, List.getElem?_set_self hl]
      cases o <;> rfl
    · rw [if_neg hl, List.getElem?_eq_none (by simpa using hl)]
  · rw [if_neg h, List.getElem?_set_ne h]
end
end DebtJ

set_option Elab.async false
set_option linter.all false
set_option maxRecDepth 100000
set_option maxHeartbeats 1000000
/-! == of data that is flat: scalars, tuples of scalars, lists of these. -/
namespace DebtJ
open PySem L2

def scl : D → Option PyData
  | .non => some .none
  | .bl b => some (.bool b)
  | .int i => some (.int i)
  | .str s => if PyData.canLay0 (.str s) then some (.str s) else none
  | _ => none
def flat1 : D → Option PyData
  | .tup xs => (xs.mapM scl).map .tuple
  | d => scl d
/-- flat: a scalar, or a tuple of scalars -/
def Fl (d : D) : Prop := (flat1 d).isSome = true
theorem scl_py {S : Store} {d : D} {p : PyData} (h : scl d = some p) (k : Nat) : toPy S (k + 1) d = some p := by
  cases d with
  | non => exact h
  | bl b => exact h
  | int i => exact h
  | str s =>
    simp only [scl] at h
    split at h
    · exact h
    · cases h
  | _ => cases h
theorem scl_ok {d : D} {p : PyData} (h : scl d = some p) : p.canLay0 = true ∧ p.depth ≤ 1 := by
  cases d with
  | non => cases h; exact ⟨rfl, Nat.zero_le _⟩
  | bl b => cases h; exact ⟨rfl, Nat.zero_le _⟩
  | int i => cases h; exact ⟨rfl, Nat.zero_le _⟩
  | str s =>
    simp only [scl] at h
    split at h
    · rename_i hs
      cases h
      exact ⟨hs, Nat.zero_le _⟩
    · cases h
  | _ => cases h
theorem mapM_imp {α β : Type} {f g : α → Option β} (h : ∀ a b, f a = some b → g a = some b) : ∀ {xs : List α} {ys : List β}, xs.mapM f = some ys → xs.mapM g = some ys
  | [], ys, e => e
  | x :: xs, ys, e => by
    rw [List.mapM_cons] at e ⊢
    cases h1 : f x with
    | none => rw [h1] at e; simp at e
    | some y =>
      cases h2 : xs.mapM f with
      | none => rw [h1, h2] at e; simp at e
      | some zs =>
        rw [h1, h2] at e
        rw [h x y h1, mapM_imp h h2]
        exact e
theorem mapM_all {α β : Type} {f : α → Option β} {P : β → Prop} (h : ∀ a b, f a = some b → P b) : ∀ {xs : List α} {ys : List β}, xs.mapM f = some ys → ∀ y ∈ ys, P y
  | [], ys, e => by simp at e; subst e; intro y hy; cases hy
  | x :: xs, ys, e => by
    rw [List.mapM_cons] at e
    cases h1 : f x with
    | none => rw [h1] at e; simp at e
    | some y =>
      cases h2 : xs.mapM f with
      | none => rw [h1, h2] at e; simp at e
      | some zs =>
        rw [h1, h2] at e
        simp at e
        subst e
        intro z hz
        rcases List.mem_cons.mp hz with rfl | hz
        · exact h x _ h1
        · exact mapM_all h h2 z hz
theorem mapM_some {α β : Type} {f : α → Option β} : ∀ {xs : List α}, (∀ x ∈ xs, (f x).isSome = true) → ∃ ys, xs.mapM f = some ys
  | [], _ => ⟨[], by simp⟩
  | x :: xs, h => by
    obtain ⟨y, hy⟩ := Option.isSome_iff_exists.mp (h x List.mem_cons_self)
    obtain ⟨ys, e⟩ := mapM_some (xs := xs) fun z hz => h z (List.mem_cons_of_mem _ hz)
    exact ⟨y :: ys, by rw [List.mapM_cons, hy, e]; rfl⟩
theorem lay_all : ∀ {ps : List PyData}, (∀ p ∈ ps, p.canLay0 = true) → PyData.canLayAll0 ps = true
  | [], _ => rfl
  | p :: ps, h => by
    rw [PyData.canLayAll0, h p List.mem_cons_self, lay_all fun q hq => h q (List.mem_cons_of_mem _ hq)]
    rfl
theorem depth_all {n : Nat} : ∀ {ps : List PyData}, (∀ p ∈ ps, p.depth ≤ n) → PyData.depthAll ps ≤ n
  | [], _ => Nat.zero_le _
  | p :: ps, h => by
    rw [PyData.depthAll]
    exact Nat.max_le.mpr ⟨h p List.mem_cons_self, depth_all fun q hq => h q (List.mem_cons_of_mem _ hq)⟩
theorem flat_py {S : Store} {d : D} {p : PyData} (h : flat1 d = some p) (k : Nat) : toPy S (k + 2) d = some p := by
  cases d with
  | tup xs =>
    simp only [flat1] at h
    cases e : xs.mapM scl with
    | none => rw [e] at h; cases h
    | some ps =>
      rw [e] at h; cases h
      show (xs.mapM (toPy S (k + 1))).map PyData.tuple = _
      rw [mapM_imp (fun a b hab => scl_py hab k) e]
      rfl
  | _ => simp only [flat1] at h; exact scl_py h (k + 1)
theorem flat_ok {d : D} {p : PyData} (h : flat1 d = some p) : p.canLay0 = true ∧ p.depth ≤ 2 := by
  cases d with
  | tup xs =>
    simp only [flat1] at h
    cases e : xs.mapM scl with
    | none => rw [e] at h; cases h
    | some ps =>
      rw [e] at h; cases h
      have h1 := mapM_all (P := fun p => p.canLay0 = true ∧ p.depth ≤ 1) (fun a b hab => scl_ok hab) e
      refine ⟨?_, ?_⟩
      · rw [PyData.canLay0]; exact lay_all fun p hp => (h1 p hp).1
      · rw [PyData.depth]; have := depth_all (n := 1) fun p hp => (h1 p hp).2; omega
  | _ => simp only [flat1] at h; have := scl_ok h; exact ⟨this.1, by omega⟩
theorem shaped_of {p : PyData} (h : p.canLay0 = true) (h2 : p.depth ≤ 64) : SeqAt.shaped p = true := by unfold SeqAt.shaped; rw [h, decide_eq_true h2]; rfl
/-- a list of flat things -/
theorem list_py {S : Store} {n : Nat} {xs : List D} (h : lget S n = some xs) (hf : ∀ x ∈ xs, Fl x) : ∃ ps, xs.mapM flat1 = some ps ∧ toPy S 8 (.ref n) = some (.list ps) ∧ SeqAt.shaped (.list ps) = true := by
  obtain ⟨ps, e⟩ := mapM_some hf
  refine ⟨ps, e, ?_, ?_⟩
  · show (match lget S n with
      | some xs => (xs.mapM (toPy S 7)).map PyData.list
      | none => none) = _
    rw [h]
    simp only
    rw [mapM_imp (fun a b hab => flat_py hab 5) e]
    rfl
  · have h1 := mapM_all (P := fun p => p.canLay0 = true ∧ p.depth ≤ 2) (fun a b hab => flat_ok hab) e
    refine shaped_of (by rw [PyData.canLay0]; exact lay_all fun p hp => (h1 p hp).1) ?_
    rw [PyData.depth]
    have := depth_all (n := 2) fun p hp => (h1 p hp).2
    omega
theorem EqD_same {S : Store} {a b : Nat} {xs : List D} {Q : Bool → Prop} (ha : lget S a = some xs) (hb : lget S b = some xs) (hf : ∀ x ∈ xs, Fl x) (q : Q true) : EqD S (.ref a) (.ref b) Q := by
  obtain ⟨ps, e, h1, h2⟩ := list_py ha hf
  obtain ⟨ps', e', h3, h4⟩ := list_py hb hf
  rw [e] at e'; cases e'
  unfold EqD eqDD
  rw [h1, h3]
  simp only [h2, Bool.and_self, if_true]
  have : PyData.eqv (.list ps) (.list ps) = true := SeqAt.eqv_refl _ (SeqAt.canLay_of_shaped h2)
  rw [this]
  exact q
theorem EqD_tup {S : Store} {xs : List D} {Q : Bool → Prop} (hf : Fl (.tup xs)) (q : Q true) : EqD S (.tup xs) (.tup xs) Q := by
  obtain ⟨p, e⟩ := Option.isSome_iff_exists.mp hf
  unfold EqD eqDD
  rw [flat_py e 6]
  have h := flat_ok e
  have h2 : SeqAt.shaped p = true := shaped_of h.1 (by omega)
  simp only [h2, Bool.and_self, if_true]
  rw [SeqAt.eqv_refl _ h.1]
  exact q
/-- a list against the empty list -/
theorem EqD_nil {S : Store} {a b : Nat} {xs : List D} {Q : Bool → Prop} (ha : lget S a = some xs) (hb : lget S b = some []) (hf : ∀ x ∈ xs, Fl x) (q : Q xs.isEmpty) : EqD S (.ref a) (.ref b) Q := by
  obtain ⟨ps, e, h1, h2⟩ := list_py ha hf
  obtain ⟨ps', e', h3, h4⟩ := list_py hb (fun _ h => by cases h)
  simp at e'
  subst e'
  unfold EqD eqDD
  rw [h1, h3]
  simp only [h2, h4, Bool.and_self, if_true]
  have : PyData.eqv (.list ps) (.list []) = xs.isEmpty := by
    rw [PyData.eqv]
    cases xs with
    | nil => simp at e; subst e; rfl
    | cons x xs =>
      rw [List.mapM_cons] at e
      cases h1 : flat1 x with
      | none => rw [h1] at e; simp at e
      | some y =>
        cases h2 : xs.mapM flat1 with
        | none => rw [h1, h2] at e; simp at e
        | some zs => rw [h1, h2] at e; simp at e; subst e; rfl
  rw [this]
  exact q
end DebtJ

set_option Elab.async false
set_option linter.all false
set_option maxRecDepth 100000
set_option maxHeartbeats 1000000
/-! A company in a store: no program. -/
namespace DebtJ
open PySem L2

structure Hd where
  p : Int
  u : Int
  w : D
  t : Int
def handO (h : Hd) : O := .ins 2 [("pieces", .int h.p), ("unanswered", .int h.u), ("waker", h.w), ("tally", .int h.t)]
def Hd.d (h : Hd) : D := .tup [.int h.p, .int h.u, h.w, .int h.t]
structure Co where
  m : Nat
  hd : Nat → Hd
  rows : List D
  run : Bool
  log : List D
def Co.upd (c : Co) (i : Nat) (h : Hd) : Co := { c with hd := fun j => if j = i then h else c.hd j }
def compO (n : Nat) (c : Co) : O := .ins 1 [("crew", .ref (n + 1)), ("post", .ref (n + 2 + c.m)), ("running", .bl c.run), ("spoken", .ref (n + 4 + c.m))]
structure CoAt (S : Store) (n : Nat) (c : Co) : Prop where
  me : S[n]? = some (compO n c)
  crew : lget S (n + 1) = some ((List.range c.m).map fun i => .ref (n + 2 + i))
  hand : ∀ i, i < c.m → S[n + 2 + i]? = some (handO (c.hd i))
  post : S[n + 2 + c.m]? = some (.ins 0 [("rows", .ref (n + 3 + c.m))])
  rows : lget S (n + 3 + c.m) = some c.rows
  log : lget S (n + 4 + c.m) = some c.log
/-- outside the company's places all stands -/
structure Keep (n m : Nat) (S S' : Store) : Prop where
  len : S.length ≤ S'.length
  old : ∀ j o, (j < n ∨ n + 5 + m ≤ j) → S[j]? = some o → S'[j]? = some o
section
variable {S S' S'' T : Store} {n m i r : Nat} {c : Co} {xs : List D} {o : O}
theorem Keep.cast {m' : Nat} (k : Keep n m S S') (e : m = m') : Keep n m' S S' := e ▸ k
theorem Keep.refl : Keep n m S S := ⟨Nat.le_refl _, fun _ _ _ h => h⟩
theorem Keep.trans (a : Keep n m S S') (b : Keep n m S' S'') : Keep n m S S'' := ⟨Nat.le_trans a.len b.len, fun j o h e => b.old j o h (a.old j o h e)⟩
theorem Keep.app : Keep n m S (S ++ T) := ⟨by simp, fun _ _ _ h => at_app h⟩
theorem Keep.setIn (h : n ≤ i ∧ i < n + 5 + m) : Keep n m S (S.set i o) := ⟨by simp, fun j _ hj e => at_set_ne e (by omega)⟩
theorem Keep.lget (k : Keep n m S S') (h : r < n ∨ n + 5 + m ≤ r) (e : lget S r = some xs) : lget S' r = some xs := lget_iff.mpr (k.old _ _ h (lget_iff.mp e))
theorem CoAt.app (h : CoAt S n c) : CoAt (S ++ T) n c := ⟨at_app h.me, lget_app h.crew, fun i hi => at_app (h.hand i hi), at_app h.post, lget_app h.rows, lget_app h.log⟩
theorem CoAt.out (h : CoAt S n c) (hi : i < n ∨ n + 5 + c.m ≤ i) : CoAt (S.set i o) n c := ⟨at_set_ne h.me (by omega), lget_set_ne h.crew (by omega), fun j hj => at_set_ne (h.hand j hj) (by omega), at_set_ne h.post (by omega), lget_set_ne h.rows (by omega), lget_set_ne h.log (by omega)⟩
/-- another company's doings -/
theorem CoAt.keep {n2 m2 : Nat} (h : CoAt S n c) (k : Keep n2 m2 S S') (hd : n + 5 + c.m ≤ n2 ∨ n2 + 5 + m2 ≤ n) : CoAt S' n c := ⟨k.old _ _ (by omega) h.me, k.lget (by omega) h.crew, fun j hj => k.old _ _ (by omega) (h.hand j hj), k.old _ _ (by omega) h.post, k.lget (by omega) h.rows, k.lget (by omega) h.log⟩
theorem CoAt.lt (h : CoAt S n c) : n + 5 + c.m ≤ S.length := by
  have := lt_of_at (lget_iff.mp h.log)
  omega
theorem CoAt.fCrew (h : CoAt S n c) : fget S n 1 "crew" = some (.ref (n + 1)) := by rw [fget_of h.me]; rfl
theorem CoAt.fPost (h : CoAt S n c) : fget S n 1 "post" = some (.ref (n + 2 + c.m)) := by rw [fget_of h.me]; rfl
theorem CoAt.fRun (h : CoAt S n c) : fget S n 1 "running" = some (.bl c.run) := by rw [fget_of h.me]; rfl
theorem CoAt.fSpoken (h : CoAt S n c) : fget S n 1 "spoken" = some (.ref (n + 4 + c.m)) := by rw [fget_of h.me]; rfl
theorem CoAt.fRows (h : CoAt S n c) : fget S (n + 2 + c.m) 0 "rows" = some (.ref (n + 3 + c.m)) := by rw [fget_of h.post]; rfl
theorem CoAt.fp (h : CoAt S n c) (hi : i < c.m) : fget S (n + 2 + i) 2 "pieces" = some (.int (c.hd i).p) := by rw [fget_of (h.hand i hi)]; rfl
theorem CoAt.fu (h : CoAt S n c) (hi : i < c.m) : fget S (n + 2 + i) 2 "unanswered" = some (.int (c.hd i).u) := by rw [fget_of (h.hand i hi)]; rfl
theorem CoAt.fw (h : CoAt S n c) (hi : i < c.m) : fget S (n + 2 + i) 2 "waker" = some (c.hd i).w := by rw [fget_of (h.hand i hi)]; rfl
theorem CoAt.ft (h : CoAt S n c) (hi : i < c.m) : fget S (n + 2 + i) 2 "tally" = some (.int (c.hd i).t) := by rw [fget_of (h.hand i hi)]; rfl
theorem CoAt.ix (h : CoAt S n c) {k : Int} (h0 : 0 ≤ k) (h1 : k < c.m) : (DebtJ.lget S (n + 1)).bind (fun xs => atI xs k) = some (.ref (n + 2 + k.toNat)) := by
  rw [h.crew, Option.bind_some, atI_nn h0, List.getElem?_map, List.getElem?_range (by omega)]
  rfl
theorem CoAt.len (h : CoAt S n c) : ((List.range c.m).map fun i => D.ref (n + 2 + i)).length = c.m := by simp
theorem CoAt.setH (h : CoAt S n c) (hi : i < c.m) (x : Hd) : CoAt (S.set (n + 2 + i) (handO x)) n (c.upd i x) := by
  refine ⟨at_set_ne h.me (by omega), lget_set_ne h.crew (by omega), fun j hj => ?_, at_set_ne h.post (by show n + 2 + i ≠ n + 2 + c.m; omega), lget_set_ne h.rows (by show n + 2 + i ≠ n + 3 + c.m; omega), lget_set_ne h.log (by show n + 2 + i ≠ n + 4 + c.m; omega)⟩
  by_cases e : j = i
  · subst e
    rw [at_set_eq (h.hand j hi)]
    simp [Co.upd]
  · rw [at_set_ne (h.hand j hj) (by omega)]
    simp [Co.upd, e]
theorem CoAt.setp (h : CoAt S n c) (hi : i < c.m) (x : Int) : ∃ S1, fset S (n + 2 + i) 2 "pieces" (.int x) = some S1 ∧ CoAt S1 n (c.upd i { c.hd i with p := x }) ∧ Keep n c.m S S1 :=
  ⟨_, by rw [fset_of (h.hand i hi) (show 4 < 1000 by decide)]; rfl, h.setH hi _, Keep.setIn (by omega)⟩
theorem CoAt.setu (h : CoAt S n c) (hi : i < c.m) (x : Int) : ∃ S1, fset S (n + 2 + i) 2 "unanswered" (.int x) = some S1 ∧ CoAt S1 n (c.upd i { c.hd i with u := x }) ∧ Keep n c.m S S1 :=
  ⟨_, by rw [fset_of (h.hand i hi) (show 4 < 1000 by decide)]; rfl, h.setH hi _, Keep.setIn (by omega)⟩
theorem CoAt.setw (h : CoAt S n c) (hi : i < c.m) (x : D) : ∃ S1, fset S (n + 2 + i) 2 "waker" x = some S1 ∧ CoAt S1 n (c.upd i { c.hd i with w := x }) ∧ Keep n c.m S S1 :=
  ⟨_, by rw [fset_of (h.hand i hi) (show 4 < 1000 by decide)]; rfl, h.setH hi _, Keep.setIn (by omega)⟩
theorem CoAt.sett (h : CoAt S n c) (hi : i < c.m) (x : Int) : ∃ S1, fset S (n + 2 + i) 2 "tally" (.int x) = some S1 ∧ CoAt S1 n (c.upd i { c.hd i with t := x }) ∧ Keep n c.m S S1 :=
  ⟨_, by rw [fset_of (h.hand i hi) (show 4 < 1000 by decide)]; rfl, h.setH hi _, Keep.setIn (by omega)⟩
theorem CoAt.setRun (h : CoAt S n c) (x : Bool) : ∃ S1, fset S n 1 "running" (.bl x) = some S1 ∧ CoAt S1 n { c with run := x } ∧ Keep n c.m S S1 := by
  refine ⟨_, fset_of h.me (show 4 < 1000 by decide), ⟨at_set_eq h.me, lget_set_ne h.crew (by omega), fun j hj => at_set_ne (h.hand j hj) (by omega), at_set_ne h.post (by show n ≠ n + 2 + c.m; omega), lget_set_ne h.rows (by show n ≠ n + 3 + c.m; omega), lget_set_ne h.log (by show n ≠ n + 4 + c.m; omega)⟩, Keep.setIn (by omega)⟩
theorem CoAt.setRows (h : CoAt S n c) (x : List D) : CoAt (S.set (n + 3 + c.m) (.lst x)) n { c with rows := x } ∧ Keep n c.m S (S.set (n + 3 + c.m) (.lst x)) :=
  ⟨⟨at_set_ne h.me (by omega), lget_set_ne h.crew (by omega), fun j hj => at_set_ne (h.hand j hj) (by show n + 3 + c.m ≠ _; have : j < c.m := hj; omega), at_set_ne h.post (by show n + 3 + c.m ≠ n + 2 + c.m; omega), lget_set_eq (lget_iff.mp h.rows), lget_set_ne h.log (by show n + 3 + c.m ≠ n + 4 + c.m; omega)⟩, Keep.setIn (by omega)⟩
theorem CoAt.setLog (h : CoAt S n c) (x : List D) : CoAt (S.set (n + 4 + c.m) (.lst x)) n { c with log := x } ∧ Keep n c.m S (S.set (n + 4 + c.m) (.lst x)) :=
  ⟨⟨at_set_ne h.me (by omega), lget_set_ne h.crew (by omega), fun j hj => at_set_ne (h.hand j hj) (by show n + 4 + c.m ≠ _; have : j < c.m := hj; omega), at_set_ne h.post (by show n + 4 + c.m ≠ n + 2 + c.m; omega), lget_set_ne h.rows (by show n + 4 + c.m ≠ n + 3 + c.m; omega), lget_set_eq (lget_iff.mp h.log)⟩, Keep.setIn (by omega)⟩
theorem Co.upd_upd (c : Co) (i : Nat) (a b : Hd) : (c.upd i a).upd i b = c.upd i b := by
  simp only [Co.upd, Co.mk.injEq, true_and, and_true]
  funext j
  split <;> rfl
theorem Co.upd_hd (c : Co) (i : Nat) (a : Hd) : (c.upd i a).hd i = a := by simp [Co.upd]
theorem Co.upd_ne (c : Co) {i j : Nat} (a : Hd) (h : j ≠ i) : (c.upd i a).hd j = c.hd j := by simp [Co.upd, h]
theorem Co.upd_m (c : Co) (i : Nat) (a : Hd) : (c.upd i a).m = c.m := rfl
/-! ### what the deeds do -/
abbrev rLet (a b : Int) (k : Int) : D := .tup [.str "letter", .int a, .int b, .int k]
abbrev rAns (a : Int) (b : D) (k : Int) : D := .tup [.str "answer", .int a, b, .int k]
abbrev rWok (a : Int) (b : D) : D := .tup [.str "woken", .int a, b]
abbrev rEnd (k : Int) : D := .tup [.str "end", .int k]
abbrev rBeg (k : Int) : D := .tup [.str "begun", .int k]
def Co.told (c : Co) (rs : List D) : Co := { c with log := c.log ++ rs }
def Co.put (c : Co) (r : D) : Co := { c with rows := c.rows ++ [r] }
def Co.free (c : Co) (h : Nat) : Prop := (c.hd h).p = 0 ∧ (c.hd h).u = 0
instance (c : Co) (h : Nat) : Decidable (c.free h) := inferInstanceAs (Decidable (_ ∧ _))
def Co.left (c : Co) (h : Nat) : Co := c.upd h { c.hd h with w := .non, t := 0 }
def Co.freed (c : Co) (h : Nat) : List D × Co :=
  if c.free h then
    if h = 0 then ([rEnd (c.hd h).t], { c.left h with run := false })
    else ([rAns h (c.hd h).w (c.hd h).t], (c.left h).put (rAns h (c.hd h).w (c.hd h).t))
  else ([], c)
def Co.done (x : List D × Co) : Co := x.2.told x.1
def Co.work (c : Co) (h : Nat) : Co := c.upd h { c.hd h with p := (c.hd h).p - 1, t := (c.hd h).t + 1 }
def Co.send (c : Co) (h o : Nat) (k : Int) : Co := (c.upd h { c.hd h with p := (c.hd h).p - k, u := (c.hd h).u + 1 }).put (rLet h o k)
def Co.wake (c : Co) (a : D) (b : Nat) (k : Int) : D × Co :=
  let c1 := c.upd b { c.hd b with p := (c.hd b).p + k }
  if b = 0 ∨ isN (c.hd b).w = false then (rAns b a 0, c1.put (rAns b a 0))
  else (rWok b a, c.upd b { c.hd b with p := (c.hd b).p + k, w := a })
def Co.gath (c : Co) (b : Nat) (k : Int) : Co := c.upd b { c.hd b with u := (c.hd b).u - 1, t := (c.hd b).t + k }
theorem Co.freed_m (c : Co) (h : Nat) : (c.freed h).2.m = c.m := by
  unfold Co.freed
  split
  · split <;> rfl
  · rfl
theorem Co.wake_m (c : Co) (a : D) (b : Nat) (k : Int) : (c.wake a b k).2.m = c.m := by unfold Co.wake; simp only; split <;> rfl
end
end DebtJ

set_option Elab.async false
set_option linter.all false
set_option maxRecDepth 100000
set_option maxHeartbeats 1000000
/-! Alike: two values of the same form; rows are flat. -/
namespace DebtJ
open PySem L2

def scB : D → Bool
  | .non | .bl _ | .int _ | .str _ => true
  | _ => false
/-- flat: a scalar, or a short tuple of scalars -/
def fsB : D → Bool
  | .tup xs => xs.all scB && decide (xs.length ≤ 1000)
  | d => scB d
def Alk (S : Store) : Nat → D → D → Prop
  | 0, _, _ => False
  | k + 1, a, b => match a, b with
    | .non, .non => True
    | .bl x, .bl y => x = y
    | .int x, .int y => x = y
    | .str x, .str y => x = y
    | .tup xs, .tup ys => xs.length = ys.length ∧ ys.length ≤ 16777216 ∧ ∀ (i : Nat) x y, xs[i]? = some x → ys[i]? = some y → Alk S k x y
    | .ref m, .ref n => ∃ xs ys, lget S m = some xs ∧ lget S n = some ys ∧ xs.length = ys.length ∧ ys.length ≤ 16777216 ∧ ∀ (i : Nat) x y, xs[i]? = some x → ys[i]? = some y → Alk S k x y
    | _, _ => False
section
variable {S T : Store} {d : D} {k m n : Nat} {xs ys : List D}
theorem Alk_sc (h : scB d = true) : Alk S (k + 1) d d := by
  cases d <;> first | exact trivial | rfl | cases h
theorem Alk_fs (h : fsB d = true) : Alk S (k + 2) d d := by
  cases d with
  | tup xs =>
    simp only [fsB, Bool.and_eq_true, List.all_eq_true, decide_eq_true_eq] at h
    refine ⟨rfl, by omega, fun i x y hx hy => ?_⟩
    rw [hx] at hy; cases hy
    exact Alk_sc (h.1 x (List.mem_of_getElem? hx))
  | _ => exact Alk_sc h
theorem Alk_lst (h1 : lget S m = some xs) (h2 : lget S n = some xs) (hl : xs.length ≤ 16777216) (h : ∀ x ∈ xs, fsB x = true) : Alk S (k + 3) (.ref m) (.ref n) := by
  refine ⟨xs, xs, h1, h2, rfl, hl, fun i x y hx hy => ?_⟩
  rw [hx] at hy; cases hy
  exact Alk_fs (h x (List.mem_of_getElem? hx))
theorem Alk_refs {f : D → D → Prop} (h1 : lget S m = some xs) (h2 : lget S n = some ys) (he : xs.length = ys.length) (hl : ys.length ≤ 16777216) (h : ∀ (i : Nat) x y, xs[i]? = some x → ys[i]? = some y → Alk S k x y) : Alk S (k + 1) (.ref m) (.ref n) := ⟨xs, ys, h1, h2, he, hl, h⟩
theorem mixed_small (a b : Int) : (-18446744073709551616 < a % 2147483647 ∧ a % 2147483647 < 18446744073709551616) := by omega
/-! ### rows are flat -/
theorem Fl_tup {x : PyData} {xs : List D} (h : ∀ d ∈ xs, (scl d).isSome = true) : Fl (.tup xs) := by
  obtain ⟨ys, e⟩ := mapM_some h
  show ((xs.mapM scl).map PyData.tuple).isSome = true
  rw [e]; rfl
theorem scl_str {s : Str} (h : PyData.strOk s = true) : (scl (.str s)).isSome = true := by
  have : scl (.str s) = some (.str s) := by
    rw [scl, PyData.canLay0]
    exact if_pos h
  rw [this]; rfl
theorem str_letter : (scl (.str "letter")).isSome = true := scl_str (by first | rfl | decide +kernel)
theorem str_answer : (scl (.str "answer")).isSome = true := scl_str (by first | rfl | decide +kernel)
theorem str_woken : (scl (.str "woken")).isSome = true := scl_str (by first | rfl | decide +kernel)
theorem str_end : (scl (.str "end")).isSome = true := scl_str (by first | rfl | decide +kernel)
theorem str_begun : (scl (.str "begun")).isSome = true := scl_str (by first | rfl | decide +kernel)
/-- none or a number -/
def ni : D → Bool
  | .non | .int _ => true
  | _ => false
theorem scl_ni {d : D} (h : ni d = true) : (scl d).isSome = true := by cases d <;> first | rfl | cases h
theorem fs_ni {d : D} (h : ni d = true) : scB d = true := by cases d <;> first | rfl | cases h
theorem fl4 {s : Str} {a b c : D} (hs : (scl (.str s)).isSome = true) (ha : ni a = true) (hb : ni b = true) (hc : ni c = true) : Fl (.tup [.str s, a, b, c]) :=
  Fl_tup (x := .none) (by simp [hs, scl_ni ha, scl_ni hb, scl_ni hc])
theorem fl2 {s : Str} {a : D} (hs : (scl (.str s)).isSome = true) (ha : ni a = true) : Fl (.tup [.str s, a]) := Fl_tup (x := .none) (by simp [hs, scl_ni ha])
theorem fl3 {s : Str} {a b : D} (hs : (scl (.str s)).isSome = true) (ha : ni a = true) (hb : ni b = true) : Fl (.tup [.str s, a, b]) := Fl_tup (x := .none) (by simp [hs, scl_ni ha, scl_ni hb])
theorem Fl_let (a b k : Int) : Fl (rLet a b k) := fl4 str_letter rfl rfl rfl
theorem Fl_ans (a : Int) {b : D} (k : Int) (h : ni b = true) : Fl (rAns a b k) := fl4 str_answer rfl h rfl
theorem fs_let (a b k : Int) : fsB (rLet a b k) = true := rfl
theorem fs_ans (a : Int) {b : D} (k : Int) (h : ni b = true) : fsB (rAns a b k) = true := by cases b <;> first | rfl | cases h
theorem fs_wok (a : Int) {b : D} (h : ni b = true) : fsB (rWok a b) = true := by cases b <;> first | rfl | cases h
theorem fs_end (k : Int) : fsB (rEnd k) = true := rfl
theorem fs_beg (k : Int) : fsB (rBeg k) = true := rfl
theorem fs_hd {h : Hd} (hw : ni h.w = true) : fsB h.d = true := by
  unfold Hd.d
  cases e : h.w <;> rw [e] at hw <;> first | rfl | cases hw
/-! ### lists by place -/
theorem range_same {α : Type} (f g : Nat → α) (h : ∀ j, f j = g j) {m : Nat} : (List.range m).map f = (List.range m).map g := by
  have : f = g := funext h
  rw [this]
theorem range_set {α : Type} (f : Nat → α) {g : Nat → α} {m i : Nat} (v : α) (h : ∀ j, g j = if j = i then v else f j) : ((List.range m).map f).set i v = (List.range m).map g := by
  apply List.ext_getElem?
  intro j
  rw [List.getElem?_set, List.getElem?_map, List.getElem?_map]
  by_cases hj : j < m
  · rw [List.getElem?_range hj]
    by_cases e : i = j
    · subst e
      simp [h, hj]
    · rw [if_neg e]
      simp [h, Ne.symm e]
  · rw [List.getElem?_eq_none (by simpa using hj)]
    by_cases e : i = j
    · subst e
      simp [hj]
    · simp [e]
theorem atI_range {α : Type} (f : Nat → α) {m : Nat} {k : Int} (h0 : 0 ≤ k) (h1 : k < m) : atI ((List.range m).map f) k = some (f k.toNat) := by
  rw [atI_nn h0, List.getElem?_map, List.getElem?_range (by omega)]
  rfl
theorem lset_of {n : Nat} {k : Int} (h : lget S n = some xs) (h0 : 0 ≤ k) (h1 : k < xs.length) : lset S n k d = some (S.set n (.lst (xs.set k.toNat d))) := by
  unfold lset
  rw [h]
  have e : ixN xs.length k = some k.toNat := by
    unfold ixN
    rw [if_pos h0, if_pos h1]
  simp only [e]
  rfl
/-! ### a loop's first turn -/
theorem St_forN {j m i : Nat} {t : ItS} {body : SS} {φ : Fr} {X : Nat → Fr → Store → Prop} {Qn : Fr → Store → Prop} {Qr : D → Store → Prop} {d : D} (e : t.get i S = some d)
    (h : St X (body (φ.set j (some d)) S) (fun φ' S' => St X (forS j t body m (i + 1) φ' S') Qn Qr) Qr) : St X (forS j t body (m + 1) i φ S) Qn Qr := by
  unfold forS
  rw [e]
  simp only
  cases eb : body (φ.set j (some d)) S with
  | nx φ' S' => rw [eb] at h; exact h
  | rt d S' => rw [eb] at h; exact h
  | exc c φ' S' => rw [eb] at h; exact h
  | bk φ' S' => rw [eb] at h; exact h.elim
  | ct φ' S' => rw [eb] at h; exact h.elim
  | no => rw [eb] at h; exact h.elim
theorem St_for0 {j i : Nat} {t : ItS} {body : SS} {φ : Fr} {X : Nat → Fr → Store → Prop} {Qn : Fr → Store → Prop} {Qr : D → Store → Prop} (e : t.fin S = true) (h : Qn φ S) : St X (forS j t body 0 i φ S) Qn Qr := by
  unfold forS
  rw [if_pos e]
  exact h
theorem hd_get {m i : Nat} {k : Nat} (h : lget S m = some xs) : (hdI m k).get i S = xs[i]? := by
  show (match lget S m with
    | some xs => xs[i]?
    | none => none) = _
  rw [h]
theorem hd_fin {m : Nat} {k : Nat} (h : lget S m = some xs) (hk : xs.length ≤ k) : (hdI m k).fin S = true := by
  show (match lget S m with
    | some xs => decide (xs.length ≤ k)
    | none => false) = true
  rw [h]
  exact decide_eq_true hk
theorem let_ne_ans {x y z x' y' z' : D} (h : D.tup [.str "letter", x, y, z] = D.tup [.str "answer", x', y', z']) : False := by
  simp only [D.tup.injEq, List.cons.injEq, D.str.injEq] at h
  exact absurd h.1 (by decide)
theorem lget_off (S B : Store) (k : Nat) : lget (S ++ B) (S.length + k) = lget B k := by
  unfold lget
  rw [List.getElem?_append_right (by omega), show S.length + k - S.length = k by omega]
theorem set_off (S B : Store) (k : Nat) (o : O) : (S ++ B).set (S.length + k) o = S ++ B.set k o := by
  rw [List.set_append_right _ _ (by omega), show S.length + k - S.length = k by omega]
theorem Ok_lstRg1 {φ : Fr} {E : Nat → Store → Prop} {Q : D → Store → Prop} (f : SE) : Ok E (eLstRg1 f φ S) Q = Ok E (f φ S) fun d S1 => match d with
  | .int j => rgok 0 j = true ∧ Q (.ref S1.length) (S1 ++ [.lst (rgD 0 j)])
  | _ => False := by
  unfold eLstRg1
  rw [Ok_bind]
  congr 1
  funext d S1
  cases d with
  | int j => show Ok E (if rgok 0 j = true then _ else _) Q = _; by_cases h : rgok 0 j = true <;> simp [h, Ok]
  | _ => rfl
theorem Ok_lstRg2 {φ : Fr} {E : Nat → Store → Prop} {Q : D → Store → Prop} (f g : SE) : Ok E (eLstRg2 f g φ S) Q = Ok E (f φ S) fun d S1 => Ok E (g φ S1) fun d2 S2 => match d, d2 with
  | .int i, .int j => rgok i j = true ∧ Q (.ref S2.length) (S2 ++ [.lst (rgD i j)])
  | _, _ => False := by
  unfold eLstRg2
  rw [Ok_bind]
  congr 1
  funext d S1
  rw [Ok_bind]
  congr 1
  funext d2 S2
  cases d with
  | int i => cases d2 with
    | int j => show Ok E (if rgok i j = true then _ else _) Q = _; by_cases h : rgok i j = true <;> simp [h, Ok]
    | _ => rfl
  | _ => cases d2 <;> rfl
theorem rgok_of {a b : Int} (h : -1000000 ≤ a ∧ a ≤ 1000000 ∧ -1000000 ≤ b ∧ b ≤ 1000000) : rgok a b = true := by
  unfold rgok smallI
  simp
  omega
/-! ### a comprehension over range that changes nothing -/
theorem lc_rg {j m : Nat} {tst : ST} {elt : SE} {φ : Fr} (P : D → Prop) (hm : m < 16777216)
    (step : ∀ i acc, i < m → Ok NoE (tst (φ.set j (some (.int (0 + (i : Int))))) (S ++ [.lst acc])) fun b S1 => S1 = S ++ [.lst acc] ∧ (b = true → Ok NoE (elt (φ.set j (some (.int (0 + (i : Int))))) (S ++ [.lst acc])) fun y S2 => S2 = S ++ [.lst acc] ∧ P y)) :
    ∃ acc, lcS j S.length (rgI 0 m) tst elt (rgI 0 m).n 0 φ (S ++ [.lst []]) = some (S ++ [.lst acc]) ∧ acc.length ≤ m ∧ ∀ y ∈ acc, P y := by
  have key : ∀ {o : Option Store}, (match o with
      | some S' => ∃ acc, S' = S ++ [.lst acc] ∧ acc.length ≤ m ∧ ∀ y ∈ acc, P y
      | none => False) → ∃ acc, o = some (S ++ [.lst acc]) ∧ acc.length ≤ m ∧ ∀ y ∈ acc, P y := by
    intro o h
    cases o with
    | none => exact h.elim
    | some S' =>
      obtain ⟨acc, rfl, h1, h2⟩ := h
      exact ⟨acc, rfl, h1, h2⟩
  refine key (lc_inv (t := rgI 0 m) (fun i acc S' => S' = S ++ [.lst acc] ∧ acc.length ≤ i ∧ ∀ y ∈ acc, P y) ?_ hm ?_ ?_ _ 0 [] _ (Nat.zero_add _) ⟨rfl, Nat.le_refl _, by simp⟩)
  · rintro i acc S' ⟨rfl, h1, h2⟩
    exact ⟨lget_new, h1⟩
  · rintro i acc S' hi ⟨rfl, h1, h2⟩
    refine ⟨_, rfl, ?_⟩
    refine Ok.imp (step i acc hi) ?_
    rintro b S1 ⟨rfl, hb⟩
    split
    · rename_i e
      refine Ok.imp (hb e) ?_
      rintro y S2 ⟨rfl, hy⟩
      refine ⟨lget_new, set_new _ _, by simp; omega, ?_⟩
      intro z hz
      rcases List.mem_append.mp hz with hz | hz
      · exact h2 z hz
      · cases List.mem_singleton.mp hz
        exact hy
    · exact ⟨rfl, by omega, h2⟩
  · rintro acc S' ⟨rfl, h1, h2⟩
    exact ⟨rfl, acc, rfl, h1, h2⟩
/-! ### held lists -/
def PairIn (lo : Nat) (S : Store) (h : D) : Prop := ∃ m a b zs, h = .ref m ∧ lo ≤ m ∧ lo ≤ a ∧ lo ≤ b ∧ lget S m = some [.ref a, .ref b] ∧ lget S a = some zs ∧ lget S b = some zs ∧ ∀ z ∈ zs, Fl z
theorem PairIn.mono {lo : Nat} {h : D} (p : PairIn lo S h) (k : ∀ r xs, lo ≤ r → lget S r = some xs → lget T r = some xs) : PairIn lo T h := by
  obtain ⟨m, a, b, zs, e, l1, l2, l3, h1, h2, h3, h4⟩ := p
  exact ⟨m, a, b, zs, e, l1, l2, l3, k _ _ l1 h1, k _ _ l2 h2, k _ _ l3 h3, h4⟩
theorem all_pairs {lo m j : Nat} {hs : List D} {φ : Fr} {E : Nat → Store → Prop} {Q : D → Store → Prop} (ns : List Int) (hl : lget S m = some hs) (hp : ∀ h ∈ hs, PairIn lo S h) (hn : hs.length ≤ 100000) (hj : j < φ.length) (q : ∀ S', Q (.bl true) S') :
    match lcS j S.length (hdI m hs.length) tYes' (eOp gEq (eOp (gIx ns) (eVar j) (eC (.int 0))) (eOp (gIx ns) (eVar j) (eC (.int 1)))) (hdI m hs.length).n 0 φ (S ++ [.lst []]) with
      | some S2 => Ok E (R.of (gAll [.ref S.length] S2)) Q
      | none => False := by
  have key : ∀ {o : Option Store} {Q : Store → Prop}, (match o with
      | some S' => ∃ bs, lget S' S.length = some bs ∧ ∀ b ∈ bs, b = .bl true
      | none => False) → (∀ S' bs, lget S' S.length = some bs → (∀ b ∈ bs, b = .bl true) → Q S') → match o with
      | some S => Q S
      | none => False := by
    intro o Q h q
    cases o with
    | none => exact h
    | some S => obtain ⟨bs, h1, h2⟩ := h; exact q S bs h1 h2
  refine key (lc_inv (t := hdI m hs.length) (fun i acc S' => S' = S ++ [.lst acc] ∧ acc.length ≤ i ∧ ∀ b ∈ acc, b = .bl true) ?_ ?_ ?_ ?_ _ 0 [] _ (Nat.zero_add _) ⟨rfl, Nat.le_refl _, by simp⟩) ?_
  · rintro i acc S' ⟨rfl, h1, h2⟩
    exact ⟨lget_new, h1⟩
  · show hs.length < 16777216
    omega
  · rintro i acc S' hi ⟨rfl, h1, h2⟩
    have hi' : i < hs.length := hi
    have h3 := List.getElem?_eq_getElem hi'
    obtain ⟨m', a', b', zs, h4, _, _, _, h6, h7, h8, h9⟩ := hp _ (List.getElem_mem hi')
    refine ⟨hs[i], ?_, ?_⟩
    · show (match lget (S ++ [.lst acc]) m with
        | some xs => xs[i]?
        | none => none) = some hs[i]
      rw [lget_app hl]
      exact h3
    · rw [h4]
      show Ok NoE (eOp gEq _ _ _ _) _
      simp only [Ok_op, Ok_var, Ok_c, List.getElem?_set_self hj, k_ixL, lget_app h6, Option.bind_some, atI_c0, atI_c1, k_eqR]
      refine EqD_same (lget_app h7) (lget_app h8) h9 ?_
      refine ⟨lget_new, set_new _ _, by simp; omega, ?_⟩
      intro b hb
      rcases List.mem_append.mp hb with hb | hb
      · exact h2 b hb
      · exact List.mem_singleton.mp hb
  · rintro acc S' ⟨rfl, h1, h2⟩
    refine ⟨?_, acc, lget_new, h2⟩
    show (match lget (S ++ [.lst acc]) m with
        | some ys => decide (ys.length ≤ hs.length)
        | none => false) = true
    rw [lget_app hl]
    simp
  · intro S' bs h1 h2
    rw [k_all, h1]
    have e : ((bs.map fun _ => true).all fun b => b) = true := by simp
    simp only [blsOf_true h2, Option.bind_some, e]
    exact q _
theorem atI_in {α : Type} {xs : List α} {k : Int} (h0 : 0 ≤ k) (h1 : k < xs.length) : ∃ x, atI xs k = some x ∧ x ∈ xs := by
  rw [atI_nn h0, List.getElem?_eq_getElem (by omega)]
  exact ⟨_, rfl, List.getElem_mem _⟩
end
end DebtJ

set_option Elab.async false
set_option linter.all false
set_option maxRecDepth 100000
set_option maxHeartbeats 1000000
/-! The tree of wakers: debts are counted, ranks fall towards the first hand. -/
namespace DebtJ
open PySem L2

/-- does the row hold a debt of h: a letter of its sender, an answer of the one it goes to -/
def debt (r : D) (h : Nat) : Nat := match r with
  | .tup [.str s, .int a, .int b, _] => if s = "letter" then (if a = h then 1 else 0) else (if b = h then 1 else 0)
  | _ => 0
def isW (d : D) (h : Nat) : Nat := match d with
  | .int a => if a = h then 1 else 0
  | _ => 0
def dsum (rows : List D) (h : Nat) : Nat := (rows.map fun r => debt r h).sum
def kids (c : Co) (h : Nat) : Nat := ((List.range c.m).map fun j => isW (c.hd j).w h).sum
theorem debt_let (a b : Nat) (k : Int) (h : Nat) : debt (rLet a b k) h = if a = h then 1 else 0 := by
  show (if (Str.ofString "letter") = "letter" then (if (a : Int) = h then 1 else 0) else (if (b : Int) = h then 1 else 0)) = _
  rw [if_pos rfl]
  by_cases e : a = h
  · rw [if_pos e, if_pos (by omega)]
  · rw [if_neg e, if_neg (by omega)]
theorem debt_ans (a b : Nat) (k : Int) (h : Nat) : debt (rAns a (.int b) k) h = if b = h then 1 else 0 := by
  show (if (Str.ofString "answer") = "letter" then (if (a : Int) = h then 1 else 0) else (if (b : Int) = h then 1 else 0)) = _
  rw [if_neg (by decide)]
  by_cases e : b = h
  · rw [if_pos e, if_pos (by omega)]
  · rw [if_neg e, if_neg (by omega)]
theorem isW_int (b h : Nat) : isW (.int b) h = if b = h then 1 else 0 := by
  show (if (b : Int) = h then 1 else 0) = _
  by_cases e : b = h
  · rw [if_pos e, if_pos (by omega)]
  · rw [if_neg e, if_neg (by omega)]
theorem isW_non (h : Nat) : isW .non h = 0 := rfl
theorem dsum_app (xs : List D) (r : D) (h : Nat) : dsum (xs ++ [r]) h = dsum xs h + debt r h := by simp [dsum]
theorem dsum_cut : ∀ {xs : List D} {pl : Nat} {r : D} (h : Nat), xs[pl]? = some r → dsum xs h = dsum (xs.eraseIdx pl) h + debt r h
  | [], pl, r, h, e => by simp at e
  | x :: xs, 0, r, h, e => by
    simp at e
    subst e
    simp [dsum]
    omega
  | x :: xs, pl + 1, r, h, e => by
    have := dsum_cut (xs := xs) (pl := pl) (r := r) h (by simpa using e)
    simp only [dsum, List.eraseIdx_cons_succ, List.map_cons, List.sum_cons] at this ⊢
    omega
theorem dsum_mem {xs : List D} {r : D} {h : Nat} (hr : r ∈ xs) (hd : 1 ≤ debt r h) : 1 ≤ dsum xs h := by
  obtain ⟨pl, hp⟩ := List.getElem?_of_mem hr
  have := dsum_cut h hp
  omega
theorem sum_upd {f g : Nat → Nat} {b : Nat} (he : ∀ j, j ≠ b → g j = f j) : ∀ {m : Nat}, b < m → ((List.range m).map g).sum + f b = ((List.range m).map f).sum + g b
  | 0, h => by omega
  | m + 1, h => by
    rw [List.range_succ, List.map_append, List.map_append, List.sum_append, List.sum_append]
    simp only [List.map_cons, List.map_nil, List.sum_cons, List.sum_nil]
    by_cases e : b = m
    · subst e
      have : (List.range b).map g = (List.range b).map f := by
        apply List.map_congr_left
        intro j hj
        exact he j (by have := List.mem_range.mp hj; omega)
      rw [this]
      omega
    · have := sum_upd he (m := m) (by omega)
      rw [he m (Ne.symm e)]
      omega
theorem sum_same {f g : Nat → Nat} {m : Nat} (he : ∀ j, j < m → g j = f j) : ((List.range m).map g).sum = ((List.range m).map f).sum := by
  have : (List.range m).map g = (List.range m).map f := List.map_congr_left fun j hj => he j (List.mem_range.mp hj)
  rw [this]
theorem sum_one {f : Nat → Nat} {m j : Nat} (hj : j < m) (h : 1 ≤ f j) : 1 ≤ ((List.range m).map f).sum := by
  have := sum_upd (f := f) (g := fun i => if i = j then 0 else f i) (b := j) (fun i hi => by simp [hi]) hj
  simp at this
  omega
def Row (m : Nat) (r : D) : Prop := (∃ (a b : Nat) (k : Int), a < m ∧ b < m ∧ 1 ≤ k ∧ r = rLet a b k) ∨ (∃ (a b : Nat) (k : Int), a < m ∧ b < m ∧ 0 ≤ k ∧ r = rAns a (.int b) k)
/-- the tree; hand x alone may be free though it is engaged -/
structure DS (x : Nat) (c : Co) : Prop where
  m : 1 ≤ c.m
  p : ∀ i, i < c.m → 0 ≤ (c.hd i).p
  t : ∀ i, i < c.m → 0 ≤ (c.hd i).t
  w : ∀ i, i < c.m → (c.hd i).w = .non ∨ ∃ b : Nat, b < c.m ∧ (c.hd i).w = .int b
  r : ∀ r ∈ c.rows, Row c.m r
  u : ∀ i, i < c.m → (c.hd i).u = dsum c.rows i + kids c i
  w0 : (c.hd 0).w = .non
  idle : ∀ i, 0 < i → i < c.m → (c.hd i).w = .non → (c.hd i).p = 0 ∧ (c.hd i).u = 0 ∧ (c.hd i).t = 0
  busy : ∀ i, 0 < i → i < c.m → i ≠ x → (c.hd i).w ≠ .non → ¬ c.free i
  run1 : c.run = true → 0 ≠ x → ¬ c.free 0
  rest : c.run = false → c.free 0 ∧ (c.hd 0).t = 0
  rk : ∃ rk : Nat → Nat, ∀ i, i < c.m → ∀ b : Nat, (c.hd i).w = .int b → rk b < rk i
theorem kid_u {x : Nat} {c : Co} (d : DS x c) {i b : Nat} (hi : i < c.m) (hb : b < c.m) (h : (c.hd i).w = .int b) : 1 ≤ (c.hd b).u := by
  have h1 : 1 ≤ kids c b := sum_one (f := fun j => isW (c.hd j).w b) hi (by simp only [h, isW_int, if_true]; exact Nat.le_refl 1)
  have := d.u b hb
  omega
theorem row_u {x : Nat} {c : Co} (d : DS x c) {r : D} {b : Nat} (hb : b < c.m) (h : r ∈ c.rows) (hd : 1 ≤ debt r b) : 1 ≤ (c.hd b).u := by
  have h1 := dsum_mem h hd
  have := d.u b hb
  omega
/-- the first hand free: nobody is engaged, nothing is under way -/
theorem DS.quiet {x : Nat} {c : Co} (d : DS x c) (hf : c.free 0) : c.rows = [] ∧ ∀ i, i < c.m → (c.hd i).w = .non := by
  obtain ⟨rk, hrk⟩ := d.rk
  have key : ∀ n i, rk i = n → i < c.m → (c.hd i).w = .non := by
    intro n
    induction n using Nat.strongRecOn with
    | ind n ih =>
      intro i e hi
      rcases d.w i hi with h | ⟨b, hb, h⟩
      · exact h
      · exfalso
        have h1 := kid_u d hi hb h
        have h2 := hrk i hi b h
        by_cases h0 : b = 0
        · subst h0
          have := hf.2
          omega
        · have h3 := ih (rk b) (by omega) b rfl hb
          have := (d.idle b (by omega) hb h3).2.1
          omega
  have hall : ∀ i, i < c.m → (c.hd i).w = .non := fun i hi => key _ i rfl hi
  refine ⟨?_, hall⟩
  have hu : ∀ i, i < c.m → (c.hd i).u = 0 := by
    intro i hi
    by_cases h0 : i = 0
    · subst h0; exact hf.2
    · exact (d.idle i (by omega) hi (hall i hi)).2.1
  cases hr : c.rows with
  | nil => rfl
  | cons r rs =>
    exfalso
    have hm : r ∈ c.rows := by rw [hr]; exact List.mem_cons_self
    rcases d.r r hm with ⟨a, b, k, ha, hb, hk, rfl⟩ | ⟨a, b, k, ha, hb, hk, rfl⟩
    · have := row_u d ha hm (by rw [debt_let, if_pos rfl]; exact Nat.le_refl 1)
      have := hu a ha
      omega
    · have := row_u d hb hm (by rw [debt_ans, if_pos rfl]; exact Nat.le_refl 1)
      have := hu b hb
      omega
theorem DS.zero {x : Nat} {c : Co} (d : DS x c) (hf : c.free 0) {i : Nat} (h0 : 0 < i) (hi : i < c.m) : (c.hd i).p = 0 ∧ (c.hd i).u = 0 ∧ (c.hd i).t = 0 := d.idle i h0 hi ((d.quiet hf).2 i hi)
theorem DS.run_of_p {x : Nat} {c : Co} (d : DS x c) {i : Nat} (hi : i < c.m) (h : 1 ≤ (c.hd i).p) : c.run = true := by
  cases hr : c.run with
  | true => rfl
  | false =>
    exfalso
    have hf := (d.rest hr).1
    by_cases h0 : i = 0
    · subst h0
      have := hf.1
      omega
    · have := (d.zero hf (by omega) hi).1
      omega
theorem DS.run_of_row {x : Nat} {c : Co} (d : DS x c) {r : D} (h : r ∈ c.rows) : c.run = true := by
  cases hr : c.run with
  | true => rfl
  | false =>
    exfalso
    rw [(d.quiet (d.rest hr).1).1] at h
    cases h
theorem DS.eng {x : Nat} {c : Co} (d : DS x c) {i : Nat} (hi : i < c.m) (h : 1 ≤ (c.hd i).p ∨ 1 ≤ (c.hd i).u) : i = 0 ∨ (c.hd i).w ≠ .non := by
  by_cases h0 : i = 0
  · exact .inl h0
  · right
    intro e
    have := d.idle i (by omega) hi e
    omega
/-- all hands told -/
theorem ds_start {m : Nat} (hm : 1 ≤ m) (L : List D) : DS m ⟨m, fun _ => ⟨0, 0, .non, 0⟩, [], false, L⟩ := by
  refine ⟨hm, fun _ _ => Int.le_refl 0, fun _ _ => Int.le_refl 0, fun _ _ => .inl rfl, by simp, fun i _ => ?_, rfl, fun _ _ _ _ => ⟨rfl, rfl, rfl⟩, fun _ _ _ _ h => absurd rfl h, fun h => (by cases h), fun _ => ⟨⟨rfl, rfl⟩, rfl⟩, ⟨fun _ => 0, fun _ _ _ h => (by cases h)⟩⟩
  have : kids ⟨m, fun _ => ⟨0, 0, .non, 0⟩, [], false, L⟩ i = 0 := by
    show ((List.range m).map fun j => isW .non i).sum = 0
    have : ((List.range m).map fun j => isW .non i) = List.replicate m 0 := by
      apply List.ext_getElem <;> simp [isW_non]
    rw [this]
    simp
  rw [this]
  rfl
section
variable {x : Nat} {c : Co}
theorem upd_w_same {c : Co} {h : Nat} {y : Hd} (e : y.w = (c.hd h).w) (i : Nat) : ((c.upd h y).hd i).w = (c.hd i).w := by
  by_cases hi : i = h
  · subst hi; rw [Co.upd_hd]; exact e
  · rw [Co.upd_ne c y hi]
theorem kids_same {c c' : Co} (hm : c'.m = c.m) (e : ∀ i, i < c.m → (c'.hd i).w = (c.hd i).w) (b : Nat) : kids c' b = kids c b := by
  unfold kids
  rw [hm]
  exact sum_same fun j hj => by rw [e j hj]
/-- told rows change nothing of the tree -/
theorem DS.told (d : DS x c) (rs : List D) : DS x (c.told rs) := ⟨d.m, d.p, d.t, d.w, d.r, d.u, d.w0, d.idle, d.busy, d.run1, d.rest, d.rk⟩
theorem DS.begin (d : DS c.m c) {k : Int} (hr : c.run = false) (hk : 1 ≤ k) : DS c.m (({ c with run := true } : Co).upd 0 { c.hd 0 with p := k }) := by
  have hf := (d.rest hr).1
  have hq := d.quiet hf
  have hw : ∀ i, ((({ c with run := true } : Co).upd 0 { c.hd 0 with p := k }).hd i).w = (c.hd i).w := fun i => upd_w_same (c := { c with run := true }) (h := 0) (y := { c.hd 0 with p := k }) rfl i
  have hn : ∀ i, i ≠ 0 → ((({ c with run := true } : Co).upd 0 { c.hd 0 with p := k }).hd i) = c.hd i := fun i hi => Co.upd_ne ({ c with run := true } : Co) _ hi
  have h0 : ((({ c with run := true } : Co).upd 0 { c.hd 0 with p := k }).hd 0) = { c.hd 0 with p := k } := Co.upd_hd ({ c with run := true } : Co) 0 _
  refine ⟨d.m, fun i hi => ?_, fun i hi => ?_, fun i hi => ?_, d.r, fun i hi => ?_, by rw [hw]; exact d.w0, fun i h1 hi h => ?_, fun i h1 hi _ h => ?_, fun _ _ h => ?_, (fun h => by cases h), ?_⟩
  · by_cases e : i = 0
    · subst e; rw [h0]; show 0 ≤ k; omega
    · rw [hn i e]; exact d.p i hi
  · by_cases e : i = 0
    · subst e; rw [h0]; exact d.t 0 hi
    · rw [hn i e]; exact d.t i hi
  · rw [hw]; exact d.w i hi
  · have hkid : ∀ b, kids (({ c with run := true } : Co).upd 0 { c.hd 0 with p := k }) b = kids c b := kids_same rfl fun i _ => hw i
    rw [hkid]
    by_cases e : i = 0
    · subst e; rw [h0]; exact d.u 0 hi
    · rw [hn i e]; exact d.u i hi
  · rw [hn i (by omega)]; rw [hw] at h; exact d.idle i h1 hi h
  · rw [hw] at h
    exact absurd (hq.2 i hi) h
  · have := h.1
    rw [h0] at this
    have : k = 0 := this
    omega
  · obtain ⟨rk, hrk⟩ := d.rk
    exact ⟨rk, fun i hi b h => hrk i hi b (by rw [hw] at h; exact h)⟩
theorem DS.send (d : DS c.m c) {a b : Nat} {k : Int} (ha : a < c.m) (hb : b < c.m) (hk : 1 ≤ k) (hp : k ≤ (c.hd a).p) : DS c.m (c.send a b k) := by
  have hrun := d.run_of_p ha (by omega)
  have hw : ∀ i, ((c.send a b k).hd i).w = (c.hd i).w := fun i => upd_w_same (c := c) (h := a) (y := { c.hd a with p := (c.hd a).p - k, u := (c.hd a).u + 1 }) rfl i
  have hn : ∀ i, i ≠ a → (c.send a b k).hd i = c.hd i := fun i hi => Co.upd_ne c _ hi
  have h0 : (c.send a b k).hd a = { c.hd a with p := (c.hd a).p - k, u := (c.hd a).u + 1 } := Co.upd_hd c a _
  have hkid : ∀ i, kids (c.send a b k) i = kids c i := kids_same rfl fun i _ => hw i
  have hu : 0 ≤ (c.hd a).u := by rw [d.u a ha]; omega
  have hnf : ¬ (c.send a b k).free a := by
    intro h
    have := h.2
    rw [h0] at this
    have : (c.hd a).u + 1 = 0 := this
    omega
  have heng := d.eng ha (.inl (by omega))
  refine ⟨d.m, fun i hi => ?_, fun i hi => ?_, fun i hi => ?_, fun r hr => ?_, fun i hi => ?_, by rw [hw]; exact d.w0, fun i h1 hi h => ?_, fun i h1 hi hx h => ?_, fun _ hx h => ?_, (fun h => by rw [show (c.send a b k).run = c.run from rfl, hrun] at h; cases h), ?_⟩
  · by_cases e : i = a
    · subst e; rw [h0]; show 0 ≤ (c.hd i).p - k; omega
    · rw [hn i e]; exact d.p i hi
  · by_cases e : i = a
    · subst e; rw [h0]; exact d.t i hi
    · rw [hn i e]; exact d.t i hi
  · rw [hw]; exact d.w i hi
  · rcases List.mem_append.mp (show r ∈ c.rows ++ [rLet a b k] from hr) with hr | hr
    · exact d.r r hr
    · cases List.mem_singleton.mp hr
      exact .inl ⟨a, b, k, ha, hb, hk, rfl⟩
  · rw [hkid, show (c.send a b k).rows = c.rows ++ [rLet a b k] from rfl, dsum_app, debt_let]
    by_cases e : i = a
    · subst e
      rw [h0, if_pos rfl]
      show (c.hd i).u + 1 = _
      rw [d.u i hi]
      omega
    · rw [hn i e, if_neg (Ne.symm e), d.u i hi]
      omega
  · rw [hw] at h
    have e : i ≠ a := by
      intro e
      subst e
      rcases heng with h2 | h2
      · omega
      · exact h2 h
    rw [hn i e]
    exact d.idle i h1 hi h
  · rw [hw] at h
    by_cases e : i = a
    · subst e; exact hnf
    · intro h2
      exact d.busy i h1 hi hx h (by unfold Co.free at h2 ⊢; rw [hn i e] at h2; exact h2)
  · by_cases e : 0 = a
    · subst e; exact hnf h
    · exact d.run1 hrun hx (by unfold Co.free at h ⊢; rw [hn 0 e] at h; exact h)
  · obtain ⟨rk, hrk⟩ := d.rk
    exact ⟨rk, fun i hi b h => hrk i hi b (by rw [hw] at h; exact h)⟩
/-- a hand works; it may be free now -/
theorem DS.work (d : DS c.m c) {a : Nat} (ha : a < c.m) (hp : 1 ≤ (c.hd a).p) : DS a (c.work a) ∧ (c.work a).run = true ∧ (a = 0 ∨ ((c.work a).hd a).w ≠ .non) := by
  have hrun := d.run_of_p ha hp
  have hw : ∀ i, ((c.work a).hd i).w = (c.hd i).w := fun i => upd_w_same (c := c) (h := a) (y := { c.hd a with p := (c.hd a).p - 1, t := (c.hd a).t + 1 }) rfl i
  have hn : ∀ i, i ≠ a → (c.work a).hd i = c.hd i := fun i hi => Co.upd_ne c _ hi
  have h0 : (c.work a).hd a = { c.hd a with p := (c.hd a).p - 1, t := (c.hd a).t + 1 } := Co.upd_hd c a _
  have hkid : ∀ i, kids (c.work a) i = kids c i := kids_same rfl fun i _ => hw i
  have heng := d.eng ha (.inl hp)
  refine ⟨⟨d.m, fun i hi => ?_, fun i hi => ?_, fun i hi => ?_, d.r, fun i hi => ?_, by rw [hw]; exact d.w0, fun i h1 hi h => ?_, fun i h1 hi hx h => ?_, fun _ hx h => ?_, (fun h => by rw [show (c.work a).run = c.run from rfl, hrun] at h; cases h), ?_⟩, hrun, ?_⟩
  · by_cases e : i = a
    · subst e; rw [h0]; show 0 ≤ (c.hd i).p - 1; omega
    · rw [hn i e]; exact d.p i hi
  · by_cases e : i = a
    · subst e; rw [h0]; show 0 ≤ (c.hd i).t + 1; have := d.t i hi; omega
    · rw [hn i e]; exact d.t i hi
  · rw [hw]; exact d.w i hi
  · rw [hkid]
    by_cases e : i = a
    · subst e; rw [h0]; exact d.u i hi
    · rw [hn i e]; exact d.u i hi
  · rw [hw] at h
    have e : i ≠ a := by
      intro e
      subst e
      rcases heng with h2 | h2
      · omega
      · exact h2 h
    rw [hn i e]
    exact d.idle i h1 hi h
  · rw [hw] at h
    intro h2
    exact d.busy i h1 hi (by have : i < c.m := hi; omega) h (by unfold Co.free at h2 ⊢; rw [hn i hx] at h2; exact h2)
  · exact d.run1 hrun (by have := d.m; omega) (by unfold Co.free at h ⊢; rw [hn 0 hx] at h; exact h)
  · obtain ⟨rk, hrk⟩ := d.rk
    exact ⟨rk, fun i hi b h => hrk i hi b (by rw [hw] at h; exact h)⟩
  · rcases heng with h2 | h2
    · exact .inl h2
    · exact .inr (by rw [hw]; exact h2)
/-- the row is taken; an answer is gathered -/
theorem DS.gath (d : DS c.m c) {pl a b : Nat} {k : Int} (hp : c.rows[pl]? = some (rAns a (.int b) k)) : b < c.m ∧ DS b (Co.gath { c with rows := c.rows.eraseIdx pl } b k) ∧ (Co.gath { c with rows := c.rows.eraseIdx pl } b k).run = true ∧ (b = 0 ∨ ((Co.gath { c with rows := c.rows.eraseIdx pl } b k).hd b).w ≠ .non) := by
  have hmem := List.mem_of_getElem? hp
  have hrow : b < c.m ∧ 0 ≤ k := by
    rcases d.r _ hmem with ⟨a', b', k', h1, h2, h3, e⟩ | ⟨a', b', k', h1, h2, h3, e⟩
    · exact (let_ne_ans e.symm).elim
    · simp only [rAns, D.tup.injEq, List.cons.injEq, D.int.injEq, and_true, true_and] at e
      obtain ⟨e1, e2, e3⟩ := e
      have e2 : b = b' := by omega
      subst e2 e3
      exact ⟨h2, h3⟩
  obtain ⟨hb, hk⟩ := hrow
  have hrun := d.run_of_row hmem
  have hub := row_u d hb hmem (by rw [debt_ans, if_pos rfl]; exact Nat.le_refl 1)
  have heng := d.eng hb (.inr hub)
  have hw : ∀ i, ((Co.gath { c with rows := c.rows.eraseIdx pl } b k).hd i).w = (c.hd i).w := fun i => upd_w_same (c := { c with rows := c.rows.eraseIdx pl }) (h := b) (y := { c.hd b with u := (c.hd b).u - 1, t := (c.hd b).t + k }) rfl i
  have hn : ∀ i, i ≠ b → (Co.gath { c with rows := c.rows.eraseIdx pl } b k).hd i = c.hd i := fun i hi => Co.upd_ne ({ c with rows := c.rows.eraseIdx pl } : Co) _ hi
  have h0 : (Co.gath { c with rows := c.rows.eraseIdx pl } b k).hd b = { c.hd b with u := (c.hd b).u - 1, t := (c.hd b).t + k } := Co.upd_hd ({ c with rows := c.rows.eraseIdx pl } : Co) b _
  have hkid : ∀ i, kids (Co.gath { c with rows := c.rows.eraseIdx pl } b k) i = kids c i := kids_same rfl fun i _ => hw i
  refine ⟨hb, ⟨d.m, fun i hi => ?_, fun i hi => ?_, fun i hi => ?_, fun r hr => d.r r (List.mem_of_mem_eraseIdx hr), fun i hi => ?_, by rw [hw]; exact d.w0, fun i h1 hi h => ?_, fun i h1 hi hx h => ?_, fun _ hx h => ?_, (fun h => by rw [show (Co.gath { c with rows := c.rows.eraseIdx pl } b k).run = c.run from rfl, hrun] at h; cases h), ?_⟩, hrun, ?_⟩
  · by_cases e : i = b
    · subst e; rw [h0]; exact d.p i hi
    · rw [hn i e]; exact d.p i hi
  · by_cases e : i = b
    · subst e; rw [h0]; show 0 ≤ (c.hd i).t + k; have := d.t i hi; omega
    · rw [hn i e]; exact d.t i hi
  · rw [hw]; exact d.w i hi
  · rw [hkid]
    have hd := dsum_cut i hp
    rw [debt_ans] at hd
    have hu := d.u i hi
    show _ = ((dsum (c.rows.eraseIdx pl) i : Nat) : Int) + _
    by_cases e : i = b
    · subst e
      rw [h0]
      rw [if_pos rfl] at hd
      show (c.hd i).u - 1 = _
      omega
    · rw [hn i e]
      rw [if_neg (Ne.symm e)] at hd
      omega
  · rw [hw] at h
    have e : i ≠ b := by
      intro e
      subst e
      rcases heng with h2 | h2
      · omega
      · exact h2 h
    rw [hn i e]
    exact d.idle i h1 hi h
  · rw [hw] at h
    intro h2
    exact d.busy i h1 hi (by have : i < c.m := hi; omega) h (by unfold Co.free at h2 ⊢; rw [hn i hx] at h2; exact h2)
  · exact d.run1 hrun (by have := d.m; omega) (by unfold Co.free at h ⊢; rw [hn 0 hx] at h; exact h)
  · obtain ⟨rk, hrk⟩ := d.rk
    exact ⟨rk, fun i hi b h => hrk i hi b (by rw [hw] at h; exact h)⟩
  · rcases heng with h2 | h2
    · exact .inl h2
    · exact .inr (by rw [hw]; exact h2)
/-- a hand that may be free answers, if it is; the first one ends the round -/
theorem DS.freed {a : Nat} (d : DS a c) (ha : a < c.m) (hrun : c.run = true) (heng : a = 0 ∨ (c.hd a).w ≠ .non) : DS c.m (c.freed a).2 := by
  unfold Co.freed
  by_cases hf : c.free a
  · rw [if_pos hf]
    have hlw : ∀ i, i ≠ a → ((c.left a).hd i) = c.hd i := fun i hi => Co.upd_ne c _ hi
    have hl0 : (c.left a).hd a = { c.hd a with w := .non, t := 0 } := Co.upd_hd c a _
    by_cases h0 : a = 0
    · subst h0
      rw [if_pos rfl]
      have hq := d.quiet hf
      have hw : ∀ i, ((c.left 0).hd i).w = (c.hd i).w := by
        intro i
        by_cases e : i = 0
        · subst e; rw [hl0, d.w0]
        · rw [hlw i e]
      have hkid : ∀ i, kids (c.left 0) i = kids c i := kids_same rfl fun i _ => hw i
      show DS c.m { c.left 0 with run := false }
      refine ⟨d.m, fun i hi => ?_, fun i hi => ?_, fun i hi => ?_, d.r, fun i hi => ?_, ?_, fun i h1 hi h => ?_, fun i h1 hi _ h => ?_, (fun h => by cases h), fun _ => ⟨?_, ?_⟩, ?_⟩
      · show 0 ≤ ((c.left 0).hd i).p
        by_cases e : i = 0
        · subst e; rw [hl0]; exact d.p 0 hi
        · rw [hlw i e]; exact d.p i hi
      · show 0 ≤ ((c.left 0).hd i).t
        by_cases e : i = 0
        · subst e; rw [hl0]; exact Int.le_refl 0
        · rw [hlw i e]; exact d.t i hi
      · show ((c.left 0).hd i).w = .non ∨ ∃ b : Nat, b < c.m ∧ ((c.left 0).hd i).w = .int b
        rw [hw]; exact d.w i hi
      · show ((c.left 0).hd i).u = ((dsum c.rows i : Nat) : Int) + ((kids (c.left 0) i : Nat) : Int)
        rw [hkid]
        by_cases e : i = 0
        · subst e; rw [hl0]; exact d.u 0 hi
        · rw [hlw i e]; exact d.u i hi
      · show ((c.left 0).hd 0).w = .non
        rw [hw]; exact d.w0
      · show ((c.left 0).hd i).p = 0 ∧ ((c.left 0).hd i).u = 0 ∧ ((c.left 0).hd i).t = 0
        rw [hlw i (by omega)]
        exact d.idle i h1 hi (hq.2 i hi)
      · have h : ((c.left 0).hd i).w ≠ .non := h
        rw [hw] at h
        exact absurd (hq.2 i hi) h
      · show ((c.left 0).hd 0).p = 0 ∧ ((c.left 0).hd 0).u = 0
        rw [hl0]; exact hf
      · show ((c.left 0).hd 0).t = 0
        rw [hl0]
      · obtain ⟨rk, hrk⟩ := d.rk
        exact ⟨rk, fun i hi b h => hrk i hi b (by rw [← hw]; exact h)⟩
    · rw [if_neg h0]
      have hwa : (c.hd a).w ≠ .non := by
        rcases heng with h | h
        · exact absurd h h0
        · exact h
      obtain ⟨b, hb, hwb⟩ : ∃ b : Nat, b < c.m ∧ (c.hd a).w = .int b := by
        rcases d.w a ha with h | h
        · exact absurd h hwa
        · exact h
      obtain ⟨rk, hrk⟩ := d.rk
      have hab : a ≠ b := by
        intro e
        have := hrk a ha b hwb
        subst e
        omega
      have hkid : ∀ i, kids (c.left a) i + (if b = i then 1 else 0) = kids c i := by
        intro i
        have h := sum_upd (f := fun j => isW (c.hd j).w i) (g := fun j => isW ((c.left a).hd j).w i) (b := a) (fun j hj => by rw [hlw j hj]) (m := c.m) ha
        simp only [hl0, hwb, isW_int, isW_non] at h
        exact h
      show DS c.m ((c.left a).put (rAns a (c.hd a).w (c.hd a).t))
      rw [hwb]
      refine ⟨d.m, fun i hi => ?_, fun i hi => ?_, fun i hi => ?_, fun r hr => ?_, fun i hi => ?_, ?_, fun i h1 hi h => ?_, fun i h1 hi _ h => ?_, fun _ hx => ?_, (fun h => by rw [show ((c.left a).put (rAns a (.int b) (c.hd a).t)).run = c.run from rfl, hrun] at h; cases h), ?_⟩
      · show 0 ≤ ((c.left a).hd i).p
        by_cases e : i = a
        · subst e; rw [hl0]; exact d.p i hi
        · rw [hlw i e]; exact d.p i hi
      · show 0 ≤ ((c.left a).hd i).t
        by_cases e : i = a
        · subst e; rw [hl0]; exact Int.le_refl 0
        · rw [hlw i e]; exact d.t i hi
      · show ((c.left a).hd i).w = .non ∨ ∃ b : Nat, b < c.m ∧ ((c.left a).hd i).w = .int b
        by_cases e : i = a
        · subst e; rw [hl0]; exact .inl rfl
        · rw [hlw i e]; exact d.w i hi
      · rcases List.mem_append.mp (show r ∈ c.rows ++ [rAns a (.int b) (c.hd a).t] from hr) with hr | hr
        · exact d.r r hr
        · cases List.mem_singleton.mp hr
          exact .inr ⟨a, b, _, ha, hb, d.t a ha, rfl⟩
      · show ((c.left a).hd i).u = ((dsum (c.rows ++ [rAns a (.int b) (c.hd a).t]) i : Nat) : Int) + ((kids (c.left a) i : Nat) : Int)
        rw [dsum_app, debt_ans]
        have h1 := hkid i
        have hu := d.u i hi
        have e2 : ((c.left a).hd i).u = (c.hd i).u := by
          by_cases e : i = a
          · subst e; rw [hl0]
          · rw [hlw i e]
        rw [e2]
        omega
      · show ((c.left a).hd 0).w = .non
        rw [hlw 0 (Ne.symm h0)]; exact d.w0
      · show ((c.left a).hd i).p = 0 ∧ ((c.left a).hd i).u = 0 ∧ ((c.left a).hd i).t = 0
        by_cases e : i = a
        · subst e; rw [hl0]; exact ⟨hf.1, hf.2, rfl⟩
        · have h : ((c.left a).hd i).w = .non := h
          rw [hlw i e] at h ⊢
          exact d.idle i h1 hi h
      · have e : i ≠ a := by
          intro e
          subst e
          have h : ((c.left i).hd i).w ≠ .non := h
          rw [hl0] at h
          exact h rfl
        have h : ((c.left a).hd i).w ≠ .non := h
        rw [hlw i e] at h
        intro h2
        have h2 : ((c.left a).hd i).p = 0 ∧ ((c.left a).hd i).u = 0 := h2
        rw [hlw i e] at h2
        exact d.busy i h1 hi e h h2
      · intro h2
        have h2 : ((c.left a).hd 0).p = 0 ∧ ((c.left a).hd 0).u = 0 := h2
        rw [hlw 0 (Ne.symm h0)] at h2
        exact d.run1 hrun (Ne.symm h0) h2
      · refine ⟨rk, fun i hi b' h => ?_⟩
        have h : ((c.left a).hd i).w = .int b' := h
        by_cases e : i = a
        · subst e; rw [hl0] at h; cases h
        · rw [hlw i e] at h
          exact hrk i hi b' h
  · rw [if_neg hf]
    refine ⟨d.m, d.p, d.t, d.w, d.r, d.u, d.w0, d.idle, fun i h1 hi _ h => ?_, fun hr _ => ?_, d.rest, d.rk⟩
    · by_cases e : i = a
      · subst e; exact hf
      · exact d.busy i h1 hi e h
    · by_cases e : 0 = a
      · subst e; exact hf
      · exact d.run1 hr e
/-- the row is taken; a letter arrives -/
theorem DS.wake (d : DS c.m c) {pl a b : Nat} {k : Int} (hp : c.rows[pl]? = some (rLet a b k)) : a < c.m ∧ b < c.m ∧ 1 ≤ k ∧ DS c.m (Co.wake { c with rows := c.rows.eraseIdx pl } (.int a) b k).2 := by
  have hmem := List.mem_of_getElem? hp
  have hrow : a < c.m ∧ b < c.m ∧ 1 ≤ k := by
    rcases d.r _ hmem with ⟨a', b', k', h1, h2, h3, e⟩ | ⟨a', b', k', h1, h2, h3, e⟩
    · simp only [rLet, D.tup.injEq, List.cons.injEq, D.int.injEq, and_true, true_and] at e
      obtain ⟨e1, e2, e3⟩ := e
      have e1 : a = a' := by omega
      have e2 : b = b' := by omega
      subst e1 e2 e3
      exact ⟨h1, h2, h3⟩
    · exact (let_ne_ans e).elim
  obtain ⟨ha, hb, hk⟩ := hrow
  refine ⟨ha, hb, hk, ?_⟩
  have hrun := d.run_of_row hmem
  have hua := row_u d ha hmem (by rw [debt_let, if_pos rfl]; exact Nat.le_refl 1)
  have hdc := fun i => dsum_cut i hp
  simp only [debt_let] at hdc
  unfold Co.wake
  simp only
  split
  · rename_i hc
    have hbe : b = 0 ∨ (c.hd b).w ≠ .non := by
      rcases hc with h | h
      · exact .inl h
      · right
        intro e
        rw [e] at h
        cases h
    have hw : ∀ i, ((Co.upd { c with rows := c.rows.eraseIdx pl } b { c.hd b with p := (c.hd b).p + k }).hd i).w = (c.hd i).w := fun i => upd_w_same (c := { c with rows := c.rows.eraseIdx pl }) (h := b) (y := { c.hd b with p := (c.hd b).p + k }) rfl i
    have hn : ∀ i, i ≠ b → (Co.upd { c with rows := c.rows.eraseIdx pl } b { c.hd b with p := (c.hd b).p + k }).hd i = c.hd i := fun i hi => Co.upd_ne ({ c with rows := c.rows.eraseIdx pl } : Co) _ hi
    have h0 : (Co.upd { c with rows := c.rows.eraseIdx pl } b { c.hd b with p := (c.hd b).p + k }).hd b = { c.hd b with p := (c.hd b).p + k } := Co.upd_hd ({ c with rows := c.rows.eraseIdx pl } : Co) b _
    have hkid : ∀ i, kids (Co.upd { c with rows := c.rows.eraseIdx pl } b { c.hd b with p := (c.hd b).p + k }) i = kids c i := kids_same rfl fun i _ => hw i
    have hpb := d.p b hb
    generalize hY : Co.upd { c with rows := c.rows.eraseIdx pl } b { c.hd b with p := (c.hd b).p + k } = Y at hw hn h0 hkid
    have hYm : Y.m = c.m := by rw [← hY]; rfl
    have hYr : Y.rows = c.rows.eraseIdx pl := by rw [← hY]; rfl
    have hYn : Y.run = c.run := by rw [← hY]; rfl
    have hPm : (Y.put (rAns b (.int a) 0)).m = c.m := hYm
    have hPh : ∀ i, (Y.put (rAns b (.int a) 0)).hd i = Y.hd i := fun _ => rfl
    refine ⟨by rw [hPm]; exact d.m, fun i hi => ?_, fun i hi => ?_, fun i hi => ?_, fun r hr => ?_, fun i hi => ?_, by rw [hPh, hw]; exact d.w0, fun i h1 hi h => ?_, fun i h1 hi hx h => ?_, fun _ hx => ?_, (fun h => by rw [show (Y.put (rAns b (.int a) 0)).run = Y.run from rfl, hYn, hrun] at h; cases h), ?_⟩
    · rw [hPm] at hi
      rw [hPh]
      by_cases e : i = b
      · subst e; rw [h0]; show 0 ≤ (c.hd i).p + k; omega
      · rw [hn i e]; exact d.p i hi
    · rw [hPm] at hi
      rw [hPh]
      by_cases e : i = b
      · subst e; rw [h0]; exact d.t i hi
      · rw [hn i e]; exact d.t i hi
    · rw [hPm] at hi
      rw [hPh, hw, hPm]; exact d.w i hi
    · rw [hPm]
      rcases List.mem_append.mp (show r ∈ Y.rows ++ [rAns b (.int a) 0] from hr) with hr | hr
      · rw [hYr] at hr
        exact d.r r (List.mem_of_mem_eraseIdx hr)
      · cases List.mem_singleton.mp hr
        exact .inr ⟨b, a, 0, hb, ha, Int.le_refl 0, rfl⟩
    · rw [hPm] at hi
      have e1 : ((Y.put (rAns b (.int a) 0)).hd i).u = (c.hd i).u := by
        rw [hPh]
        by_cases e : i = b
        · subst e; rw [h0]
        · rw [hn i e]
      have e2 : kids (Y.put (rAns b (.int a) 0)) i = kids c i := by rw [← hkid]; rfl
      have e3 : dsum (Y.put (rAns b (.int a) 0)).rows i = dsum c.rows i := by
        show dsum (Y.rows ++ [rAns b (.int a) 0]) i = _
        rw [dsum_app, debt_ans, hYr, hdc i]
      rw [e1, e2, e3]
      exact d.u i hi
    · rw [hPm] at hi
      rw [hPh, hw] at h
      have e : i ≠ b := by
        intro e
        subst e
        rcases hbe with h2 | h2
        · omega
        · exact h2 h
      rw [hPh, hn i e]
      exact d.idle i h1 hi h
    · rw [hPm] at hi
      rw [hPh, hw] at h
      intro h2
      have h9 : (Y.hd i).p = 0 ∧ (Y.hd i).u = 0 := h2
      by_cases e : i = b
      · subst e
        rw [h0] at h9
        have : (c.hd i).p + k = 0 := h9.1
        omega
      · rw [hn i e] at h9
        exact d.busy i h1 hi (by omega) h h9
    · intro h2
      have h9 : (Y.hd 0).p = 0 ∧ (Y.hd 0).u = 0 := h2
      by_cases e : 0 = b
      · subst e
        rw [h0] at h9
        have : (c.hd 0).p + k = 0 := h9.1
        omega
      · rw [hn 0 e] at h9
        exact d.run1 hrun (by have := d.m; omega) h9
    · obtain ⟨rk, hrk⟩ := d.rk
      exact ⟨rk, fun i hi b h => hrk i (by rw [hPm] at hi; exact hi) b (by rw [hPh, hw] at h; exact h)⟩
  · rename_i hc
    have hb0 : b ≠ 0 := fun h => hc (.inl h)
    have hwb : (c.hd b).w = .non := by
      rcases d.w b hb with h | ⟨b', _, h⟩
      · exact h
      · exact absurd (.inr (by rw [h]; rfl)) hc
    have hib := d.idle b (by omega) hb hwb
    have hab : a ≠ b := by
      intro e
      subst e
      omega
    have hn : ∀ i, i ≠ b → (Co.upd { c with rows := c.rows.eraseIdx pl } b { c.hd b with p := (c.hd b).p + k, w := .int a }).hd i = c.hd i := fun i hi => Co.upd_ne ({ c with rows := c.rows.eraseIdx pl } : Co) _ hi
    have h0 : (Co.upd { c with rows := c.rows.eraseIdx pl } b { c.hd b with p := (c.hd b).p + k, w := .int a }).hd b = { c.hd b with p := (c.hd b).p + k, w := .int a } := Co.upd_hd ({ c with rows := c.rows.eraseIdx pl } : Co) b _
    generalize hY : Co.upd { c with rows := c.rows.eraseIdx pl } b { c.hd b with p := (c.hd b).p + k, w := .int a } = Y at hn h0
    have hYm : Y.m = c.m := by rw [← hY]; rfl
    have hYr : Y.rows = c.rows.eraseIdx pl := by rw [← hY]; rfl
    have hYn : Y.run = c.run := by rw [← hY]; rfl
    have hkid : ∀ i, kids Y i = kids c i + (if a = i then 1 else 0) := by
      intro i
      unfold kids
      rw [hYm]
      have h := sum_upd (f := fun j => isW (c.hd j).w i) (g := fun j => isW (Y.hd j).w i) (b := b) (fun j hj => by rw [hn j hj]) (m := c.m) hb
      simp only [h0, hwb, isW_int, isW_non] at h
      exact h
    refine ⟨by rw [hYm]; exact d.m, fun i hi => ?_, fun i hi => ?_, fun i hi => ?_, fun r hr => ?_, fun i hi => ?_, by rw [hn 0 (Ne.symm hb0)]; exact d.w0, fun i h1 hi h => ?_, fun i h1 hi hx h => ?_, fun _ hx => ?_, (fun h => by rw [hYn, hrun] at h; cases h), ?_⟩
    · rw [hYm] at hi
      by_cases e : i = b
      · subst e; rw [h0]; show 0 ≤ (c.hd i).p + k; omega
      · rw [hn i e]; exact d.p i hi
    · rw [hYm] at hi
      by_cases e : i = b
      · subst e; rw [h0]; exact d.t i hi
      · rw [hn i e]; exact d.t i hi
    · rw [hYm] at hi ⊢
      by_cases e : i = b
      · subst e; rw [h0]; exact .inr ⟨a, ha, rfl⟩
      · rw [hn i e]; exact d.w i hi
    · rw [hYm]
      rw [hYr] at hr
      exact d.r r (List.mem_of_mem_eraseIdx hr)
    · rw [hYm] at hi
      have e1 : (Y.hd i).u = (c.hd i).u := by
        by_cases e : i = b
        · subst e; rw [h0]
        · rw [hn i e]
      rw [e1, hkid, hYr, d.u i hi]
      have := hdc i
      omega
    · rw [hYm] at hi
      have e : i ≠ b := by
        intro e
        subst e
        rw [h0] at h
        cases h
      rw [hn i e] at h ⊢
      exact d.idle i h1 hi h
    · rw [hYm] at hi
      intro h2
      have h9 : (Y.hd i).p = 0 ∧ (Y.hd i).u = 0 := h2
      by_cases e : i = b
      · subst e
        rw [h0] at h9
        have : (c.hd i).p + k = 0 := h9.1
        omega
      · rw [hn i e] at h h9
        exact d.busy i h1 hi (by omega) h h9
    · intro h2
      have h9 : (Y.hd 0).p = 0 ∧ (Y.hd 0).u = 0 := h2
      rw [hn 0 (Ne.symm hb0)] at h9
      exact d.run1 hrun (by have := d.m; omega) h9
    · obtain ⟨rk, hrk⟩ := d.rk
      refine ⟨fun j => if j = b then rk a + 1 else rk j, fun i hi b' h => ?_⟩
      rw [hYm] at hi
      by_cases e : i = b
      · subst e
        rw [h0] at h
        have hb' : a = b' := by
          have : (a : Int) = b' := by injection h
          omega
        subst hb'
        simp [hab]
      · rw [hn i e] at h
        have hbb : b' ≠ b := by
          intro e2
          subst e2
          have := kid_u d hi hb h
          omega
        simp only [e, hbb, if_false]
        exact hrk i hi b' h
end
end DebtJ

set_option Elab.async false
set_option linter.all false
set_option maxRecDepth 100000
set_option maxHeartbeats 1000000
/-! What is left; there is always a deed while a round runs. -/
namespace DebtJ
open PySem L2

def lrow (r : D) : Int := match r with
  | .tup [.str s, _, _, .int k] => if s = "letter" then k + 1 else 0
  | _ => 0
def lsum (rows : List D) : Int := (rows.map lrow).sum
def hsum (c : Co) : Int := ((List.range c.m).map fun i => (c.hd i).p + (c.hd i).u).sum
def LV (c : Co) : Int := lsum c.rows + hsum c
theorem lrow_let (a b k : Int) : lrow (rLet a b k) = k + 1 := by
  show (if (Str.ofString "letter") = "letter" then k + 1 else 0) = _
  rw [if_pos rfl]
theorem lrow_ans (a : Int) (b : D) (k : Int) : lrow (rAns a b k) = 0 := by
  show (if (Str.ofString "answer") = "letter" then k + 1 else 0) = _
  rw [if_neg (by decide)]
theorem lsum_app (xs : List D) (r : D) : lsum (xs ++ [r]) = lsum xs + lrow r := by simp [lsum]
theorem lsum_cut : ∀ {xs : List D} {pl : Nat} {r : D}, xs[pl]? = some r → lsum xs = lsum (xs.eraseIdx pl) + lrow r
  | [], pl, r, e => by simp at e
  | x :: xs, 0, r, e => by
    simp at e
    subst e
    simp [lsum]
    omega
  | x :: xs, pl + 1, r, e => by
    have := lsum_cut (xs := xs) (pl := pl) (r := r) (by simpa using e)
    simp only [lsum, List.eraseIdx_cons_succ, List.map_cons, List.sum_cons] at this ⊢
    omega
theorem isum_upd {f g : Nat → Int} {b : Nat} (he : ∀ j, j ≠ b → g j = f j) : ∀ {m : Nat}, b < m → ((List.range m).map g).sum + f b = ((List.range m).map f).sum + g b
  | 0, h => by omega
  | m + 1, h => by
    rw [List.range_succ, List.map_append, List.map_append, List.sum_append, List.sum_append]
    simp only [List.map_cons, List.map_nil, List.sum_cons, List.sum_nil]
    by_cases e : b = m
    · subst e
      have : (List.range b).map g = (List.range b).map f := by
        apply List.map_congr_left
        intro j hj
        exact he j (by have := List.mem_range.mp hj; omega)
      rw [this]
      omega
    · have := isum_upd he (m := m) (by omega)
      rw [he m (Ne.symm e)]
      omega
theorem isum_same {f g : Nat → Int} {m : Nat} (he : ∀ j, j < m → g j = f j) : ((List.range m).map g).sum = ((List.range m).map f).sum := by
  have : (List.range m).map g = (List.range m).map f := List.map_congr_left fun j hj => he j (List.mem_range.mp hj)
  rw [this]
theorem isum_nn {f : Nat → Int} : ∀ {m : Nat}, (∀ j, j < m → 0 ≤ f j) → 0 ≤ ((List.range m).map f).sum
  | 0, _ => by simp
  | m + 1, h => by
    rw [List.range_succ, List.map_append, List.sum_append]
    simp only [List.map_cons, List.map_nil, List.sum_cons, List.sum_nil]
    have := isum_nn (m := m) fun j hj => h j (by omega)
    have := h m (by omega)
    omega
theorem isum_le {f : Nat → Int} {m i : Nat} (hi : i < m) (h : ∀ j, j < m → 0 ≤ f j) : f i ≤ ((List.range m).map f).sum := by
  have h1 := isum_upd (f := f) (g := fun j => if j = i then 0 else f j) (b := i) (fun j hj => by simp [hj]) hi
  simp at h1
  have h2 := isum_nn (f := fun j => if j = i then 0 else f j) (m := m) (fun j hj => by
    by_cases e : j = i
    · simp [e]
    · simp [e]; exact h j hj)
  omega
theorem hsum_upd (c : Co) {a : Nat} (ha : a < c.m) (y : Hd) : hsum (c.upd a y) = hsum c + (y.p + y.u) - ((c.hd a).p + (c.hd a).u) := by
  have h := isum_upd (f := fun i => (c.hd i).p + (c.hd i).u) (g := fun i => ((c.upd a y).hd i).p + ((c.upd a y).hd i).u) (b := a) (fun j hj => by rw [Co.upd_ne c y hj]) (m := c.m) ha
  simp only [Co.upd_hd] at h
  unfold hsum
  rw [Co.upd_m]
  omega
theorem LV_told (c : Co) (rs : List D) : LV (c.told rs) = LV c := rfl
theorem LV_freed (c : Co) {a : Nat} (ha : a < c.m) : LV (c.freed a).2 = LV c := by
  have hl : hsum (c.left a) = hsum c := by
    unfold Co.left
    rw [hsum_upd c ha]
    simp only
    omega
  unfold Co.freed
  split
  · split
    · show lsum c.rows + hsum (c.left a) = _
      rw [hl]; rfl
    · show lsum (c.rows ++ [rAns a (c.hd a).w (c.hd a).t]) + hsum (c.left a) = _
      rw [hl, lsum_app, lrow_ans]
      unfold LV
      omega
  · rfl
theorem LV_work (c : Co) {a : Nat} (ha : a < c.m) : LV (c.work a) = LV c - 1 := by
  unfold LV Co.work
  rw [hsum_upd c ha]
  show lsum c.rows + _ = _
  simp only
  omega
theorem LV_send (c : Co) {a : Nat} (b : Nat) (k : Int) (ha : a < c.m) : LV (c.send a b k) = LV c + 2 := by
  show lsum (c.rows ++ [rLet a b k]) + hsum (c.upd a _) = _
  rw [lsum_app, lrow_let, hsum_upd c ha]
  unfold LV
  simp only
  omega
theorem LV_wake (c : Co) {pl a b : Nat} {k : Int} (hb : b < c.m) (hp : c.rows[pl]? = some (rLet a b k)) : LV (Co.wake { c with rows := c.rows.eraseIdx pl } (.int a) b k).2 = LV c - 1 := by
  have h1 := lsum_cut hp
  rw [lrow_let] at h1
  unfold Co.wake
  simp only
  split
  · show lsum (c.rows.eraseIdx pl ++ [rAns b (.int a) 0]) + hsum (Co.upd { c with rows := c.rows.eraseIdx pl } b _) = _
    rw [lsum_app, lrow_ans, hsum_upd { c with rows := c.rows.eraseIdx pl } hb]
    unfold LV
    show _ + (hsum c + _ - _) = _
    simp only
    omega
  · show lsum (c.rows.eraseIdx pl) + hsum (Co.upd { c with rows := c.rows.eraseIdx pl } b _) = _
    rw [hsum_upd { c with rows := c.rows.eraseIdx pl } hb]
    unfold LV
    show _ + (hsum c + _ - _) = _
    simp only
    omega
theorem LV_gath (c : Co) {pl a b : Nat} {k : Int} (hb : b < c.m) (hp : c.rows[pl]? = some (rAns a (.int b) k)) : LV (Co.gath { c with rows := c.rows.eraseIdx pl } b k) = LV c - 1 := by
  have h1 := lsum_cut hp
  rw [lrow_ans] at h1
  show lsum (c.rows.eraseIdx pl) + hsum (Co.upd { c with rows := c.rows.eraseIdx pl } b _) = _
  rw [hsum_upd { c with rows := c.rows.eraseIdx pl } hb]
  unfold LV
  show _ + (hsum c + _ - _) = _
  simp only
  omega
theorem lsum_nn {c : Co} {x : Nat} (d : DS x c) : 0 ≤ lsum c.rows := by
  have : ∀ r ∈ c.rows, 0 ≤ lrow r := by
    intro r hr
    rcases d.r r hr with ⟨a, b, k, _, _, hk, rfl⟩ | ⟨a, b, k, _, _, _, rfl⟩
    · rw [lrow_let]; omega
    · rw [lrow_ans]; exact Int.le_refl 0
  unfold lsum
  generalize c.rows = xs at this
  induction xs with
  | nil => exact Int.le_refl 0
  | cons y ys ih =>
    have h1 := this y List.mem_cons_self
    have h2 := ih fun r hr => this r (List.mem_cons_of_mem _ hr)
    simp only [List.map_cons, List.sum_cons]
    omega
theorem LV_run {c : Co} (d : DS c.m c) (h : c.run = true) : 1 ≤ LV c := by
  have h0 := d.run1 h (by have := d.m; omega)
  have h1 := lsum_nn d
  have hu : ∀ i, i < c.m → 0 ≤ (c.hd i).u := fun i hi => by rw [d.u i hi]; omega
  have h2 := isum_le (f := fun i => (c.hd i).p + (c.hd i).u) (i := 0) (m := c.m) d.m (fun j hj => by have := d.p j hj; have := hu j hj; omega)
  have h3 := d.p 0 d.m
  have h4 := hu 0 d.m
  have h5 : ¬ ((c.hd 0).p = 0 ∧ (c.hd 0).u = 0) := h0
  unfold LV hsum
  omega
theorem LV_rest {c : Co} (d : DS c.m c) (h : c.run = false) : LV c = 0 := by
  have hf := (d.rest h).1
  have hq := d.quiet hf
  unfold LV hsum
  rw [hq.1]
  have : ((List.range c.m).map fun i => (c.hd i).p + (c.hd i).u).sum = ((List.range c.m).map fun _ => (0 : Int)).sum := by
    apply isum_same
    intro j hj
    by_cases e : j = 0
    · subst e
      have h1 : (c.hd 0).p = 0 := hf.1
      have h2 : (c.hd 0).u = 0 := hf.2
      omega
    · have := d.zero hf (by omega) hj
      omega
  rw [this]
  have h0 : ∀ m : Nat, ((List.range m).map fun _ => (0 : Int)).sum = 0 := by
    intro m
    induction m with
    | zero => rfl
    | succ m ih => rw [List.range_succ, List.map_append, List.sum_append, ih]; rfl
  rw [h0]
  rfl
theorem sum_pos {f : Nat → Nat} : ∀ {m : Nat}, 1 ≤ ((List.range m).map f).sum → ∃ j, j < m ∧ 1 ≤ f j
  | 0, h => by simp at h
  | m + 1, h => by
    rw [List.range_succ, List.map_append, List.sum_append] at h
    simp only [List.map_cons, List.map_nil, List.sum_cons, List.sum_nil] at h
    by_cases e : 1 ≤ f m
    · exact ⟨m, by omega, e⟩
    · obtain ⟨j, hj, h2⟩ := sum_pos (m := m) (f := f) (by omega)
      exact ⟨j, by omega, h2⟩
theorem sum_ge {f : Nat → Nat} {m i : Nat} (hi : i < m) : f i ≤ ((List.range m).map f).sum := by
  have := sum_upd (f := f) (g := fun j => if j = i then 0 else f j) (b := i) (fun j hj => by simp [hj]) hi
  simp at this
  omega
/-- while a round runs somebody has pieces, or something is under way -/
theorem DS.progress {c : Co} (d : DS c.m c) (h : c.run = true) : c.rows ≠ [] ∨ ∃ i, i < c.m ∧ 1 ≤ (c.hd i).p := by
  by_cases hr : c.rows = []
  · right
    by_cases hp : ∃ i, i < c.m ∧ 1 ≤ (c.hd i).p
    · exact hp
    · exfalso
      have hp0 : ∀ i, i < c.m → (c.hd i).p = 0 := by
        intro i hi
        have h1 := d.p i hi
        by_cases e : 1 ≤ (c.hd i).p
        · exact absurd ⟨i, hi, e⟩ hp
        · omega
      obtain ⟨rk, hrk⟩ := d.rk
      have key : ∀ n, ∃ i, i < c.m ∧ (i = 0 ∨ (c.hd i).w ≠ .non) ∧ n ≤ rk i := by
        intro n
        induction n with
        | zero => exact ⟨0, d.m, .inl rfl, Nat.zero_le _⟩
        | succ n ih =>
          obtain ⟨i, hi, he, hn⟩ := ih
          have hnf : ¬ c.free i := by
            by_cases e : i = 0
            · subst e; exact d.run1 h (by have := d.m; omega)
            · rcases he with he | he
              · exact absurd he e
              · exact d.busy i (by omega) hi (by omega) he
          have hu : 1 ≤ (c.hd i).u := by
            have h1 := d.u i hi
            have h2 : ¬ ((c.hd i).p = 0 ∧ (c.hd i).u = 0) := hnf
            have h3 := hp0 i hi
            omega
          have hk : 1 ≤ kids c i := by
            have h1 := d.u i hi
            rw [hr] at h1
            have : dsum [] i = 0 := rfl
            omega
          obtain ⟨j, hj, hw⟩ := sum_pos hk
          have hwj : (c.hd j).w = .int i := by
            rcases d.w j hj with e | ⟨b, hb, e⟩
            · simp only [e, isW_non] at hw
              omega
            · simp only [e, isW_int] at hw
              by_cases hbi : b = i
              · rw [e, hbi]
              · rw [if_neg hbi] at hw
                omega
          exact ⟨j, hj, .inr (by rw [hwj]; exact D.noConfusion), by have := hrk j hj i hwj; omega⟩
      obtain ⟨i, hi, _, hn⟩ := key (((List.range c.m).map rk).sum + 1)
      have := sum_ge (f := rk) hi
      omega
  · exact .inl hr
end DebtJ

set_option Elab.async false
set_option linter.all false
set_option maxRecDepth 100000
set_option maxHeartbeats 1000000
/-! Deeds as data, one step of a company. -/
namespace DebtJ
open PySem L2

/-! ### deeds -/
inductive Dd where
  | beg (k : Int) | dow (h : Int) | han (a b k : Int) | car (pl : Int)
def Dd.d : Dd → D
  | .beg k => .tup [.str "begin", .int k]
  | .dow h => .tup [.str "do", .int h]
  | .han a b k => .tup [.str "hand", .int a, .int b, .int k]
  | .car pl => .tup [.str "carry", .int pl]
inductive Res where
  | no (s : Str) | rs (xs : List D)
def stepC (c : Co) : Dd → Res × Co
  | .beg k => if c.run = true then (.no "begun", c) else if k < 1 ∨ 999999 < k then (.no "work", c) else (.rs [rBeg k], (({ c with run := true } : Co).upd 0 { c.hd 0 with p := k }).told [rBeg k])
  | .dow k => if k < 0 ∨ (c.m : Int) ≤ k then (.no "hand", c) else if (c.hd k.toNat).p < 1 then (.no "work", c) else (.rs ((c.work k.toNat).freed k.toNat).1, Co.done ((c.work k.toNat).freed k.toNat))
  | .han a b k => if a < 0 ∨ (c.m : Int) ≤ a ∨ b < 0 ∨ (c.m : Int) ≤ b then (.no "hand", c) else if k < 1 ∨ (c.hd a.toNat).p < k then (.no "work", c) else (.rs [rLet a b k], (c.send a.toNat b.toNat k).told [rLet a b k])
  | .car pl => if pl < 0 ∨ (c.rows.length : Int) ≤ pl then (.no "place", c) else match c.rows[pl.toNat]? with
    | some (.tup [.str s, a, .int b, .int k]) => if s = "letter" then (.rs [({ c with rows := c.rows.eraseIdx pl.toNat }.wake a b.toNat k).1], ({ c with rows := c.rows.eraseIdx pl.toNat }.wake a b.toNat k).2.told [({ c with rows := c.rows.eraseIdx pl.toNat }.wake a b.toNat k).1])
      else (.rs (({ c with rows := c.rows.eraseIdx pl.toNat }.gath b.toNat k).freed b.toNat).1, Co.done (({ c with rows := c.rows.eraseIdx pl.toNat }.gath b.toNat k).freed b.toNat))
    | _ => (.no "", c)
theorem freed_len (c : Co) (a : Nat) : (c.freed a).1.length ≤ 1 ∧ (c.freed a).2.log = c.log ∧ (c.freed a).2.rows.length ≤ c.rows.length + 1 ∧ (c.freed a).2.m = c.m := by
  unfold Co.freed
  split
  · split
    · exact ⟨Nat.le_refl _, rfl, Nat.le_succ _, rfl⟩
    · exact ⟨Nat.le_refl _, rfl, by show (c.rows ++ [_]).length ≤ _; simp, rfl⟩
  · exact ⟨Nat.zero_le _, rfl, Nat.le_succ _, rfl⟩
theorem freed_fs {c : Co} {a : Nat} (hw : ni (c.hd a).w = true) : ∀ r ∈ (c.freed a).1, fsB r = true := by
  unfold Co.freed
  split
  · split
    · intro r hr; cases List.mem_singleton.mp hr; rfl
    · intro r hr; cases List.mem_singleton.mp hr; exact fs_ans _ _ hw
  · intro r hr; cases hr
theorem ds_ni {x : Nat} {c : Co} (d : DS x c) {i : Nat} (hi : i < c.m) : DebtJ.ni (c.hd i).w = true := by
  rcases d.w i hi with h | ⟨b, _, h⟩ <;> rw [h] <;> rfl
def ResOk (c c' : Co) : Res → Prop
  | .no _ => c' = c
  | .rs rs => rs.length ≤ 1 ∧ ∀ r ∈ rs, fsB r = true
theorem step_beg (c : Co) (k : Int) : stepC c (.beg k) = if c.run = true then (.no "begun", c) else if k < 1 ∨ 999999 < k then (.no "work", c) else (.rs [rBeg k], (({ c with run := true } : Co).upd 0 { c.hd 0 with p := k }).told [rBeg k]) := rfl
theorem step_dow (c : Co) (k : Int) : stepC c (.dow k) = if k < 0 ∨ (c.m : Int) ≤ k then (.no "hand", c) else if (c.hd k.toNat).p < 1 then (.no "work", c) else (.rs ((c.work k.toNat).freed k.toNat).1, Co.done ((c.work k.toNat).freed k.toNat)) := rfl
theorem step_han (c : Co) (a b k : Int) : stepC c (.han a b k) = if a < 0 ∨ (c.m : Int) ≤ a ∨ b < 0 ∨ (c.m : Int) ≤ b then (.no "hand", c) else if k < 1 ∨ (c.hd a.toNat).p < k then (.no "work", c) else (.rs [rLet a b k], (c.send a.toNat b.toNat k).told [rLet a b k]) := rfl
theorem step_car (c : Co) (pl : Int) : stepC c (.car pl) = if pl < 0 ∨ (c.rows.length : Int) ≤ pl then (.no "place", c) else match c.rows[pl.toNat]? with
    | some (.tup [.str s, a, .int b, .int k]) => if s = "letter" then (.rs [({ c with rows := c.rows.eraseIdx pl.toNat }.wake a b.toNat k).1], ({ c with rows := c.rows.eraseIdx pl.toNat }.wake a b.toNat k).2.told [({ c with rows := c.rows.eraseIdx pl.toNat }.wake a b.toNat k).1])
      else (.rs (({ c with rows := c.rows.eraseIdx pl.toNat }.gath b.toNat k).freed b.toNat).1, Co.done (({ c with rows := c.rows.eraseIdx pl.toNat }.gath b.toNat k).freed b.toNat))
    | _ => (.no "", c) := rfl
/-- what one deed keeps -/
theorem step_ok {c c' : Co} {dd : Dd} {x : Res} (d : DS c.m c) (h : stepC c dd = (x, c')) : DS c'.m c' ∧ c'.m = c.m ∧ c'.rows.length ≤ c.rows.length + 1 ∧ c'.log.length ≤ c.log.length + 1 ∧ ResOk c c' x := by
  have same : c' = c → (∃ s, x = .no s) → DS c'.m c' ∧ c'.m = c.m ∧ c'.rows.length ≤ c.rows.length + 1 ∧ c'.log.length ≤ c.log.length + 1 ∧ ResOk c c' x := by
    rintro rfl ⟨s, rfl⟩
    exact ⟨d, rfl, Nat.le_succ _, Nat.le_succ _, rfl⟩
  cases dd with
  | beg k =>
    rw [step_beg] at h
    split at h
    · cases h; exact same rfl ⟨_, rfl⟩
    · rename_i hr
      split at h
      · cases h; exact same rfl ⟨_, rfl⟩
      · cases h
        have hr' : c.run = false := by simpa using hr
        exact ⟨(d.begin hr' (by omega)).told _, rfl, Nat.le_succ _, by show (c.log ++ [_]).length ≤ _; simp, Nat.le_refl _, by simp [fs_beg]⟩
  | dow k =>
    rw [step_dow] at h
    split at h
    · cases h; exact same rfl ⟨_, rfl⟩
    · split at h
      · cases h; exact same rfl ⟨_, rfl⟩
      · cases h
        have hk : k.toNat < c.m := by omega
        obtain ⟨dw, hr, he⟩ := d.work hk (by omega)
        have df := dw.freed hk hr he
        have fl := freed_len (c.work k.toNat) k.toNat
        refine ⟨?_, fl.2.2.2, ?_, ?_, fl.1, freed_fs (ds_ni dw hk)⟩
        · have hm : (Co.done ((c.work k.toNat).freed k.toNat)).m = c.m := fl.2.2.2
          rw [hm]
          exact df.told _
        · exact fl.2.2.1
        · show (((c.work k.toNat).freed k.toNat).2.log ++ _).length ≤ _
          rw [fl.2.1, List.length_append]
          show c.log.length + _ ≤ _
          omega
  | han a b k =>
    rw [step_han] at h
    split at h
    · cases h; exact same rfl ⟨_, rfl⟩
    · split at h
      · cases h; exact same rfl ⟨_, rfl⟩
      · cases h
        refine ⟨(d.send (a := a.toNat) (b := b.toNat) (k := k) (by omega) (by omega) (by omega) (by omega)).told _, rfl, by show (c.rows ++ [_]).length ≤ _; simp, by show (c.log ++ [_]).length ≤ _; simp, Nat.le_refl _, by simp [fs_let]⟩
  | car pl =>
    rw [step_car] at h
    split at h
    · cases h; exact same rfl ⟨_, rfl⟩
    · have hpl : pl.toNat < c.rows.length := by omega
      have hy := List.getElem?_eq_getElem hpl
      have hle : (c.rows.eraseIdx pl.toNat).length + 1 ≤ c.rows.length + 1 := by rw [List.length_eraseIdx]; split <;> omega
      rcases d.r _ (List.getElem_mem hpl) with ⟨a, b, k, ha, hb, hk, er⟩ | ⟨a, b, k, ha, hb, hk, er⟩
      · rw [er] at hy
        simp only [hy, rLet, Int.toNat_natCast, if_true] at h
        cases h
        obtain ⟨_, _, _, dw⟩ := d.wake hy
        have hmm := Co.wake_m { c with rows := c.rows.eraseIdx pl.toNat } (.int a) b k
        have hrl : ({ c with rows := c.rows.eraseIdx pl.toNat }.wake (.int a) b k).2.rows.length ≤ c.rows.length + 1 ∧ ({ c with rows := c.rows.eraseIdx pl.toNat }.wake (.int a) b k).2.log = c.log ∧ fsB ({ c with rows := c.rows.eraseIdx pl.toNat }.wake (.int a) b k).1 = true := by
          unfold Co.wake
          simp only
          split
          · refine ⟨?_, rfl, rfl⟩
            show (c.rows.eraseIdx pl.toNat ++ [_]).length ≤ _
            rw [List.length_append]; exact hle
          · exact ⟨by show (c.rows.eraseIdx pl.toNat).length ≤ _; omega, rfl, rfl⟩
        refine ⟨?_, hmm, hrl.1, ?_, Nat.le_refl _, ?_⟩
        · have hm : (({ c with rows := c.rows.eraseIdx pl.toNat }.wake (.int a) b k).2.told [({ c with rows := c.rows.eraseIdx pl.toNat }.wake (.int a) b k).1]).m = c.m := hmm
          rw [hm]
          exact dw.told _
        · show (({ c with rows := c.rows.eraseIdx pl.toNat }.wake (.int a) b k).2.log ++ [_]).length ≤ _
          rw [hrl.2.1, List.length_append]
          exact Nat.le_refl _
        · intro r hr
          cases List.mem_singleton.mp hr
          exact hrl.2.2
      · rw [er] at hy
        simp only [hy, rAns, Int.toNat_natCast] at h
        rw [if_neg (by decide)] at h
        cases h
        obtain ⟨_, dg, hr, he⟩ := d.gath hy
        have df := dg.freed hb hr he
        have fl := freed_len (Co.gath { c with rows := c.rows.eraseIdx pl.toNat } b k) b
        refine ⟨?_, fl.2.2.2, ?_, ?_, fl.1, freed_fs (ds_ni dg hb)⟩
        · have hm : (Co.done ((Co.gath { c with rows := c.rows.eraseIdx pl.toNat } b k).freed b)).m = c.m := fl.2.2.2
          rw [hm]
          exact df.told _
        · exact Nat.le_trans fl.2.2.1 hle
        · show (((Co.gath { c with rows := c.rows.eraseIdx pl.toNat } b k).freed b).2.log ++ _).length ≤ _
          rw [fl.2.1, List.length_append]
          show c.log.length + _ ≤ _
          omega
def c00 (m : Nat) : Co := ⟨m, fun _ => ⟨0, 0, .non, 0⟩, [], false, []⟩
theorem ds00 {m : Nat} (hm : 1 ≤ m) : DS (c00 m).m (c00 m) := ds_start hm []
def Dd.hand : Dd → Bool
  | .han _ _ _ => true
  | _ => false
def Dd.good : Dd → Bool
  | .beg _ => false
  | _ => true
/-- is it the row of an end -/
def isEnd : D → Bool
  | .tup [.str s, .int _] => decide (s = "end")
  | _ => false
theorem freed_run {c : Co} {a : Nat} (ha : a < c.m) (hr : c.run = true) : (c.freed a).2.run = !((c.freed a).1.any isEnd) := by
  unfold Co.freed
  split
  · split
    · rfl
    · show c.run = !(isEnd (rAns a (c.hd a).w (c.hd a).t) || false)
      rw [hr]; rfl
  · exact hr
/-- what a deed of a running round does: what is left, and when it ends -/
theorem step_left {c c' : Co} {dd : Dd} {rs : List D} (d : DS c.m c) (hg : dd.good = true) (h : stepC c dd = (.rs rs, c')) : LV c' = LV c + (if dd.hand = true then 2 else -1) ∧ c.run = true ∧ c'.run = !(rs.any isEnd) := by
  cases dd with
  | beg k => cases hg
  | dow k =>
    rw [step_dow] at h
    split at h
    · cases h
    · split at h
      · cases h
      · cases h
        have hk : k.toNat < c.m := by omega
        have hrun := d.run_of_p hk (by omega)
        refine ⟨?_, hrun, freed_run (c := c.work k.toNat) hk hrun⟩
        show LV ((c.work k.toNat).freed k.toNat).2 = _
        rw [LV_freed _ (by exact hk), LV_work c hk]
        show _ = LV c + (-1)
        omega
  | han a b k =>
    rw [step_han] at h
    split at h
    · cases h
    · split at h
      · cases h
      · cases h
        have ha : a.toNat < c.m := by omega
        have hrun := d.run_of_p ha (by omega)
        refine ⟨?_, hrun, hrun⟩
        show LV (c.send a.toNat b.toNat k) = _
        rw [LV_send c _ _ ha]
        rfl
  | car pl =>
    rw [step_car] at h
    split at h
    · cases h
    · have hpl : pl.toNat < c.rows.length := by omega
      have hy := List.getElem?_eq_getElem hpl
      rcases d.r _ (List.getElem_mem hpl) with ⟨a, b, k, ha, hb, hk, er⟩ | ⟨a, b, k, ha, hb, hk, er⟩
      · rw [er] at hy
        simp only [hy, rLet, Int.toNat_natCast, if_true] at h
        cases h
        have hrun := d.run_of_row (List.mem_of_getElem? hy)
        have hrl : ({ c with rows := c.rows.eraseIdx pl.toNat }.wake (.int a) b k).2.run = c.run ∧ isEnd ({ c with rows := c.rows.eraseIdx pl.toNat }.wake (.int a) b k).1 = false := by
          unfold Co.wake
          simp only
          split <;> exact ⟨rfl, rfl⟩
        refine ⟨?_, hrun, ?_⟩
        · show LV ({ c with rows := c.rows.eraseIdx pl.toNat }.wake (.int a) b k).2 = _
          rw [LV_wake c hb hy]
          show _ = LV c + (-1)
          omega
        · show ({ c with rows := c.rows.eraseIdx pl.toNat }.wake (.int a) b k).2.run = _
          rw [hrl.1]
          show c.run = !(isEnd ({ c with rows := c.rows.eraseIdx pl.toNat }.wake (.int a) b k).1 || false)
          rw [hrl.2]
          exact hrun
      · rw [er] at hy
        simp only [hy, rAns, Int.toNat_natCast] at h
        rw [if_neg (by decide)] at h
        cases h
        have hrun := d.run_of_row (List.mem_of_getElem? hy)
        refine ⟨?_, hrun, freed_run (c := Co.gath { c with rows := c.rows.eraseIdx pl.toNat } b k) hb hrun⟩
        show LV ((Co.gath { c with rows := c.rows.eraseIdx pl.toNat } b k).freed b).2 = _
        rw [LV_freed _ (by exact hb), LV_gath c hb hy]
        show _ = LV c + (-1)
        omega
/-! ### comprehensions that change nothing: what they give -/
theorem lc_pure {S : Store} {j : Nat} {t : ItS} {tst : ST} {elt : SE} {φ : Fr} (es : List D) (f : D → Bool) (g : D → D) (hn : t.n = es.length) (hm : es.length < 16777216)
    (hget : ∀ i acc, i < es.length → t.get i (S ++ [.lst acc]) = es[i]?) (hfin : ∀ acc, t.fin (S ++ [.lst acc]) = true)
    (step : ∀ e acc, e ∈ es → Ok NoE (tst (φ.set j (some e)) (S ++ [.lst acc])) fun b S1 => S1 = S ++ [.lst acc] ∧ b = f e ∧ (f e = true → Ok NoE (elt (φ.set j (some e)) (S ++ [.lst acc])) fun y S2 => S2 = S ++ [.lst acc] ∧ y = g e)) :
    lcS j S.length t tst elt t.n 0 φ (S ++ [.lst []]) = some (S ++ [.lst ((es.filter f).map g)]) := by
  have key : ∀ {o : Option Store}, (match o with
      | some S' => S' = S ++ [.lst ((es.filter f).map g)]
      | none => False) → o = some (S ++ [.lst ((es.filter f).map g)]) := by
    intro o h
    cases o with
    | none => exact h.elim
    | some S' => rw [show S' = _ from h]
  refine key (lc_inv (t := t) (fun i acc S' => S' = S ++ [.lst acc] ∧ acc = ((es.take i).filter f).map g ∧ acc.length ≤ i) ?_ (by omega) ?_ ?_ _ 0 [] _ (Nat.zero_add _) ⟨rfl, by simp, Nat.le_refl _⟩)
  · rintro i acc S' ⟨rfl, h1, h2⟩
    exact ⟨lget_new, h2⟩
  · rintro i acc S' hi ⟨rfl, h1, h2⟩
    have hi' : i < es.length := by omega
    have he := List.getElem?_eq_getElem hi'
    have htk : es.take (i + 1) = es.take i ++ [es[i]] := by rw [List.take_succ, he]; rfl
    refine ⟨es[i], by rw [hget _ _ hi', he], ?_⟩
    refine Ok.imp (step es[i] acc (List.getElem_mem hi')) ?_
    rintro b S1 ⟨rfl, rfl, hb⟩
    split
    · rename_i e
      refine Ok.imp (hb e) ?_
      rintro y S2 ⟨rfl, rfl⟩
      refine ⟨lget_new, set_new _ _, ?_, by simp; omega⟩
      rw [htk, List.filter_append, List.map_append, h1]
      simp [e]
    · rename_i e
      refine ⟨rfl, ?_, by omega⟩
      rw [htk, List.filter_append, List.map_append, h1]
      have : f es[i] = false := by simpa using e
      simp [this]
  · rintro acc S' ⟨rfl, h1, h2⟩
    refine ⟨hfin acc, ?_⟩
    rw [h1, hn, List.take_of_length_le (Nat.le_refl _)]
/-- over range -/
theorem lc_rgP {S : Store} {j m : Nat} {tst : ST} {elt : SE} {φ : Fr} (f : Nat → Bool) (g : Nat → D) (hm : m < 16777216)
    (step : ∀ i acc, i < m → Ok NoE (tst (φ.set j (some (.int i))) (S ++ [.lst acc])) fun b S1 => S1 = S ++ [.lst acc] ∧ b = f i ∧ (f i = true → Ok NoE (elt (φ.set j (some (.int i))) (S ++ [.lst acc])) fun y S2 => S2 = S ++ [.lst acc] ∧ y = g i)) :
    lcS j S.length (rgI 0 m) tst elt (rgI 0 m).n 0 φ (S ++ [.lst []]) = some (S ++ [.lst (((List.range m).filter f).map g)]) := by
  let f' : D → Bool := fun d => match d with
    | .int i => f i.toNat
    | _ => false
  let g' : D → D := fun d => match d with
    | .int i => g i.toNat
    | _ => .non
  have h := lc_pure (S := S) (j := j) (t := rgI 0 m) (tst := tst) (elt := elt) (φ := φ) ((List.range m).map fun (i : Nat) => D.int i) f' g' (by simp [rgI]) (by simpa using hm)
    (fun i acc hi => by
      have hi : i < m := by simpa using hi
      rw [List.getElem?_map, List.getElem?_range hi]
      show some (D.int (0 + (i : Int))) = _
      rw [Int.zero_add]
      rfl)
    (fun acc => rfl)
    (fun e acc he => by
      obtain ⟨i, hi, rfl⟩ := List.mem_map.mp he
      exact step i acc (List.mem_range.mp hi))
  rw [h, List.filter_map, List.map_map]
  rfl
end DebtJ

set_option Elab.async false
set_option linter.all false
set_option maxRecDepth 100000
set_option maxHeartbeats 1000000
/-! Rows that a deed tells, hands that have work. -/
namespace DebtJ
open PySem L2

/-- a row that begins with its word -/
def Rw (r : D) : Prop := ∃ s xs, r = .tup (.str s :: xs) ∧ isEnd r = decide (s = "end")
theorem Rw_let (a b k : Int) : Rw (rLet a b k) := ⟨_, _, rfl, rfl⟩
theorem Rw_ans (a : Int) (b : D) (k : Int) : Rw (rAns a b k) := ⟨_, _, rfl, rfl⟩
theorem Rw_wok (a : Int) (b : D) : Rw (rWok a b) := ⟨_, _, rfl, rfl⟩
theorem Rw_end (k : Int) : Rw (rEnd k) := ⟨_, _, rfl, rfl⟩
theorem Rw_beg (k : Int) : Rw (rBeg k) := ⟨_, _, rfl, rfl⟩
theorem freed_rw (c : Co) (a : Nat) : ∀ r ∈ (c.freed a).1, Rw r := by
  unfold Co.freed
  split
  · split
    · intro r hr; cases List.mem_singleton.mp hr; exact Rw_end _
    · intro r hr; cases List.mem_singleton.mp hr; exact Rw_ans _ _ _
  · intro r hr; cases hr
theorem wake_rw (c : Co) (a : D) (b : Nat) (k : Int) : Rw (c.wake a b k).1 := by
  unfold Co.wake
  simp only
  split
  · exact Rw_ans _ _ _
  · exact Rw_wok _ _
theorem step_rw {c c' : Co} {dd : Dd} {rs : List D} (h : stepC c dd = (.rs rs, c')) : ∀ r ∈ rs, Rw r := by
  cases dd with
  | beg k =>
    rw [step_beg] at h
    split at h
    · cases h
    · split at h
      · cases h
      · cases h; intro r hr; cases List.mem_singleton.mp hr; exact Rw_beg _
  | dow k =>
    rw [step_dow] at h
    split at h
    · cases h
    · split at h
      · cases h
      · cases h; exact freed_rw _ _
  | han a b k =>
    rw [step_han] at h
    split at h
    · cases h
    · split at h
      · cases h
      · cases h; intro r hr; cases List.mem_singleton.mp hr; exact Rw_let _ _ _
  | car pl =>
    rw [step_car] at h
    split at h
    · cases h
    · split at h
      · split at h
        · cases h; intro r hr; cases List.mem_singleton.mp hr; exact wake_rw _ _ _ _
        · cases h; exact freed_rw _ _
      · cases h
/-- the hands that have pieces, as a list -/
def wk (c : Co) : List D := ((List.range c.m).filter fun i => decide (0 < (c.hd i).p)).map fun (i : Nat) => D.int i
theorem wk_len (c : Co) : (wk c).length ≤ c.m := by
  unfold wk
  rw [List.length_map]
  exact Nat.le_trans (List.length_filter_le _ _) (by simp)
theorem wk_mem {c : Co} {d : D} (h : d ∈ wk c) : ∃ i : Nat, i < c.m ∧ d = .int i ∧ 0 < (c.hd i).p := by
  obtain ⟨i, hi, rfl⟩ := List.mem_map.mp h
  rw [List.mem_filter] at hi
  exact ⟨i, List.mem_range.mp hi.1, rfl, by simpa using hi.2⟩
theorem wk_nil {c : Co} (h : (wk c).length = 0) : ∀ i, i < c.m → (c.hd i).p ≤ 0 := by
  intro i hi
  by_cases hp : 0 < (c.hd i).p
  · have : D.int (i : Int) ∈ wk c := List.mem_map.mpr ⟨i, List.mem_filter.mpr ⟨List.mem_range.mpr hi, by simpa using hp⟩, rfl⟩
    rw [List.length_eq_zero_iff.mp h] at this
    cases this
  · omega
/-- a deed that is done -/
def Gd (c : Co) (dd : Dd) : Prop := dd.good = true ∧ ∃ rs, (stepC c dd).1 = .rs rs
theorem Gd.dow {c : Co} {i : Nat} (hi : i < c.m) (h : 0 < (c.hd i).p) : Gd c (.dow i) := by
  refine ⟨rfl, ?_⟩
  rw [step_dow, if_neg (by omega), if_neg (by rw [Int.toNat_natCast]; omega)]
  exact ⟨_, rfl⟩
theorem Gd.han {c : Co} {i : Nat} {b k : Int} (hi : i < c.m) (hb : 0 ≤ b ∧ b < c.m) (hk : 1 ≤ k ∧ k ≤ (c.hd i).p) : Gd c (.han i b k) := by
  refine ⟨rfl, ?_⟩
  rw [step_han, if_neg (by omega), if_neg (by rw [Int.toNat_natCast]; omega)]
  exact ⟨_, rfl⟩
theorem Gd.car {c : Co} {pl : Int} (d : DS c.m c) (h0 : 0 ≤ pl) (h1 : pl < c.rows.length) : Gd c (.car pl) := by
  refine ⟨rfl, ?_⟩
  rw [step_car, if_neg (by omega)]
  have hpl : pl.toNat < c.rows.length := by omega
  have hy := List.getElem?_eq_getElem hpl
  rcases d.r _ (List.getElem_mem hpl) with ⟨a, b, k, ha, hb, hk, er⟩ | ⟨a, b, k, ha, hb, hk, er⟩
  · rw [er] at hy
    simp only [hy, rLet, if_true]
    exact ⟨_, rfl⟩
  · rw [er] at hy
    simp only [hy, rAns]
    rw [if_neg (by decide)]
    exact ⟨_, rfl⟩
theorem Gd.get {c : Co} {dd : Dd} (h : Gd c dd) : ∃ rs, stepC c dd = (.rs rs, (stepC c dd).2) := by
  obtain ⟨rs, h⟩ := h.2
  exact ⟨rs, Prod.ext h rfl⟩
/-- no hand has a piece, nothing is under way: no round runs -/
theorem DS.none_left {c : Co} (d : DS c.m c) (hr : c.rows = []) (hp : ∀ i, i < c.m → (c.hd i).p ≤ 0) : c.run = false := by
  cases h : c.run with
  | false => rfl
  | true =>
    rcases d.progress h with h | ⟨i, hi, h⟩
    · exact absurd hr h
    · have := hp i hi
      omega
theorem Dd.d_at (dd : Dd) : ∃ s xs, dd.d = .tup (.str s :: xs) ∧ decide (s = "hand") = dd.hand := by
  cases dd with
  | beg k => exact ⟨_, _, rfl, rfl⟩
  | dow k => exact ⟨_, _, rfl, rfl⟩
  | han a b k => exact ⟨_, _, rfl, rfl⟩
  | car k => exact ⟨_, _, rfl, rfl⟩
theorem isN_d (dd : Dd) : isN dd.d = false := by cases dd <;> rfl
end DebtJ

set_option Elab.async false
set_option linter.all false
set_option maxRecDepth 100000
set_option maxHeartbeats 1000000
/-! Sums over a round: pieces and tallies; letters and answers. -/
namespace DebtJ
open PySem L2

theorem Fl_wok (a : Int) {b : D} (h : ni b = true) : Fl (rWok a b) := fl3 str_woken rfl h
theorem Fl_end (k : Int) : Fl (rEnd k) := fl2 str_end rfl
theorem Fl_beg (k : Int) : Fl (rBeg k) := fl2 str_begun rfl
/-- a told row: begins with its word, flat -/
def RF2 (r : D) : Prop := Rw r ∧ Fl r ∧ fsB r = true
theorem freed_rf {c : Co} {a : Nat} (hw : ni (c.hd a).w = true) : ∀ r ∈ (c.freed a).1, RF2 r := by
  unfold Co.freed
  split
  · split
    · intro r hr; cases List.mem_singleton.mp hr; exact ⟨Rw_end _, Fl_end _, fs_end _⟩
    · intro r hr; cases List.mem_singleton.mp hr; exact ⟨Rw_ans _ _ _, Fl_ans _ _ hw, fs_ans _ _ hw⟩
  · intro r hr; cases hr
theorem wake_rf (c : Co) {a : D} (b : Nat) (k : Int) (ha : ni a = true) : RF2 (c.wake a b k).1 := by
  unfold Co.wake
  simp only
  split
  · exact ⟨Rw_ans _ _ _, Fl_ans _ _ ha, fs_ans _ _ ha⟩
  · exact ⟨Rw_wok _ _, Fl_wok _ ha, fs_wok _ ha⟩
/-- the number of a row under way -/
def rowK (r : D) : Int := match r with
  | .tup [_, _, _, .int k] => k
  | _ => 0
def ksum (rows : List D) : Int := (rows.map rowK).sum
theorem ksum_app (xs : List D) (r : D) : ksum (xs ++ [r]) = ksum xs + rowK r := by simp [ksum]
theorem ksum_cut : ∀ {xs : List D} {pl : Nat} {r : D}, xs[pl]? = some r → ksum xs = ksum (xs.eraseIdx pl) + rowK r
  | [], pl, r, e => by simp at e
  | x :: xs, 0, r, e => by
    simp at e
    subst e
    simp [ksum]
    omega
  | x :: xs, pl + 1, r, e => by
    have := ksum_cut (xs := xs) (pl := pl) (r := r) (by simpa using e)
    simp only [ksum, List.eraseIdx_cons_succ, List.map_cons, List.sum_cons] at this ⊢
    omega
/-- the row's word -/
def isS (w : Str) (r : D) : Bool := match r with
  | .tup (.str s :: _) => decide (s = w)
  | _ => false
def cnt (w : Str) (rs : List D) : Int := ((rs.filter (isS w)).length : Int)
theorem cnt_nil (w : Str) : cnt w [] = 0 := rfl
theorem cnt_cons (w : Str) (r : D) (rs : List D) : cnt w (r :: rs) = (if isS w r then 1 else 0) + cnt w rs := by
  unfold cnt
  rw [List.filter_cons]
  split
  · rw [List.length_cons]; omega
  · omega
theorem cnt_app (w : Str) (xs ys : List D) : cnt w (xs ++ ys) = cnt w xs + cnt w ys := by
  unfold cnt
  rw [List.filter_append, List.length_append]
  omega
theorem cnt_cut (w : Str) : ∀ {xs : List D} {pl : Nat} {r : D}, xs[pl]? = some r → cnt w xs = cnt w (xs.eraseIdx pl) + (if isS w r then 1 else 0)
  | [], pl, r, e => by simp at e
  | x :: xs, 0, r, e => by
    simp at e
    subst e
    rw [cnt_cons, List.eraseIdx_cons_zero]
    omega
  | x :: xs, pl + 1, r, e => by
    have := cnt_cut w (xs := xs) (pl := pl) (r := r) (by simpa using e)
    rw [cnt_cons, List.eraseIdx_cons_succ, cnt_cons]
    omega
def wN (d : D) : Int := if isN d then 0 else 1
def psum (c : Co) : Int := ((List.range c.m).map fun i => (c.hd i).p + (c.hd i).t).sum
def wsum (c : Co) : Int := ((List.range c.m).map fun i => wN (c.hd i).w).sum
/-- all pieces and all tallies -/
def PT (c : Co) : Int := ksum c.rows + psum c
/-- letters that are not answered yet -/
def WN (c : Co) : Int := cnt "letter" c.rows + wsum c
theorem psum_upd (c : Co) {a : Nat} (ha : a < c.m) (y : Hd) : psum (c.upd a y) = psum c + (y.p + y.t) - ((c.hd a).p + (c.hd a).t) := by
  have h := isum_upd (f := fun i => (c.hd i).p + (c.hd i).t) (g := fun i => ((c.upd a y).hd i).p + ((c.upd a y).hd i).t) (b := a) (fun j hj => by rw [Co.upd_ne c y hj]) (m := c.m) ha
  simp only [Co.upd_hd] at h
  unfold psum
  rw [Co.upd_m]
  omega
theorem wsum_upd (c : Co) {a : Nat} (ha : a < c.m) (y : Hd) : wsum (c.upd a y) = wsum c + wN y.w - wN (c.hd a).w := by
  have h := isum_upd (f := fun i => wN (c.hd i).w) (g := fun i => wN ((c.upd a y).hd i).w) (b := a) (fun j hj => by rw [Co.upd_ne c y hj]) (m := c.m) ha
  simp only [Co.upd_hd] at h
  unfold wsum
  rw [Co.upd_m]
  omega
theorem isum_zero {f : Nat → Int} {m : Nat} (h : ∀ i, i < m → f i = 0) : ((List.range m).map f).sum = 0 := by
  rw [isum_same (f := fun _ => 0) h]
  induction m with
  | zero => rfl
  | succ m ih => rw [List.range_succ, List.map_append, List.sum_append, ih fun i hi => h i (by omega)]; rfl
/-- nobody is engaged: all pieces and tallies are the first hand's -/
theorem PT_quiet {x : Nat} {c : Co} (d : DS x c) (hf : c.free 0) : PT c = (c.hd 0).t ∧ WN c = 0 := by
  have hq := d.quiet hf
  constructor
  · unfold PT psum
    rw [hq.1]
    have h := isum_upd (f := fun i => (c.hd i).p + (c.hd i).t) (g := fun _ => (0 : Int)) (b := 0) (m := c.m)
    have h1 : ((List.range c.m).map fun i => (c.hd i).p + (c.hd i).t).sum = ((List.range c.m).map fun i => if i = 0 then (c.hd 0).t else 0).sum := by
      apply isum_same
      intro j hj
      by_cases e : j = 0
      · subst e
        have : (c.hd 0).p = 0 := hf.1
        simp [this]
      · have := d.zero hf (by omega) hj
        simp [e]
        omega
    rw [h1]
    have h2 := isum_upd (f := fun _ => (0 : Int)) (g := fun i => if i = 0 then (c.hd 0).t else 0) (b := 0) (fun j hj => by simp [hj]) (m := c.m) d.m
    have h3 := isum_zero (f := fun _ => (0 : Int)) (m := c.m) fun _ _ => rfl
    simp only [if_true] at h2
    have h4 : ksum [] = 0 := rfl
    omega
  · unfold WN wsum
    rw [hq.1]
    have := isum_zero (f := fun i => wN (c.hd i).w) (m := c.m) fun i hi => by show wN (c.hd i).w = 0; rw [hq.2 i hi]; rfl
    rw [this]
    rfl
theorem rowK_let (a b k : Int) : rowK (rLet a b k) = k := rfl
theorem rowK_ans (a : Int) (b : D) (k : Int) : rowK (rAns a b k) = k := rfl
theorem PT_told (c : Co) (rs : List D) : PT (c.told rs) = PT c := rfl
theorem WN_told (c : Co) (rs : List D) : WN (c.told rs) = WN c := rfl
theorem s_let (w : Str) (a b k : Int) : isS w (rLet a b k) = decide ((Str.ofString "letter") = w) := rfl
theorem s_ans (w : Str) (a : Int) (b : D) (k : Int) : isS w (rAns a b k) = decide ((Str.ofString "answer") = w) := rfl
theorem s_wok (w : Str) (a : Int) (b : D) : isS w (rWok a b) = decide ((Str.ofString "woken") = w) := rfl
theorem s_end (w : Str) (k : Int) : isS w (rEnd k) = decide ((Str.ofString "end") = w) := rfl
theorem s_beg (w : Str) (k : Int) : isS w (rBeg k) = decide ((Str.ofString "begun") = w) := rfl
/-- what a deed's rows say of letters and answers -/
def bal (rs : List D) : Int := cnt "letter" rs - cnt "answer" rs
theorem bal_let (a b k : Int) : bal [rLet a b k] = 1 := by
  show cnt "letter" [_] - cnt "answer" [_] = _
  rw [cnt_cons, cnt_cons, s_let, s_let]; rfl
theorem bal_ans (a : Int) (b : D) (k : Int) : bal [rAns a b k] = -1 := by
  show cnt "letter" [_] - cnt "answer" [_] = _
  rw [cnt_cons, cnt_cons, s_ans, s_ans]; rfl
theorem bal_wok (a : Int) (b : D) : bal [rWok a b] = 0 := by
  show cnt "letter" [_] - cnt "answer" [_] = _
  rw [cnt_cons, cnt_cons, s_wok, s_wok]; rfl
theorem bal_end (k : Int) : bal [rEnd k] = 0 := by
  show cnt "letter" [_] - cnt "answer" [_] = _
  rw [cnt_cons, cnt_cons, s_end, s_end]; rfl
/-- a hand that may be free -/
theorem freed_sum {c : Co} {a : Nat} (d : DS a c) (ha : a < c.m) (heng : a = 0 ∨ (c.hd a).w ≠ .non) :
    ((c.freed a).1.any isEnd = false → PT (c.freed a).2 = PT c) ∧ ((c.freed a).1.any isEnd = true → (c.freed a).1 = [rEnd (PT c)] ∧ PT (c.freed a).2 = 0 ∧ WN c = 0) ∧ WN (c.freed a).2 = WN c + bal (c.freed a).1 ∧ ∀ r ∈ (c.freed a).1, isS "begun" r = false := by
  unfold Co.freed
  by_cases hf : c.free a
  · rw [if_pos hf]
    have hl : psum (c.left a) = psum c - (c.hd a).t := by
      unfold Co.left
      rw [psum_upd c ha]
      simp only
      omega
    have hl2 : wsum (c.left a) = wsum c - wN (c.hd a).w := by
      unfold Co.left
      rw [wsum_upd c ha]
      show wsum c + 0 - _ = _
      omega
    by_cases h0 : a = 0
    · subst h0
      rw [if_pos rfl]
      obtain ⟨q1, q2⟩ := PT_quiet d hf
      refine ⟨(fun h => by cases h), fun _ => ⟨by rw [q1], ?_, q2⟩, ?_, ?_⟩
      · show ksum c.rows + psum (c.left 0) = 0
        rw [hl]
        unfold PT at q1
        omega
      · rw [bal_end]
        show cnt "letter" c.rows + wsum (c.left 0) = _
        rw [hl2, d.w0]
        unfold WN
        show _ + (_ - 0) = _
        omega
      · intro r hr
        cases List.mem_singleton.mp hr
        rw [s_end]; rfl
    · rw [if_neg h0]
      have hw : (c.hd a).w ≠ .non := by
        rcases heng with h | h
        · exact absurd h h0
        · exact h
      have hwn : wN (c.hd a).w = 1 := by
        rcases d.w a ha with h | ⟨b, _, h⟩
        · exact absurd h hw
        · rw [h]; rfl
      refine ⟨fun _ => ?_, (fun h => by cases h), ?_, ?_⟩
      · show ksum (c.rows ++ [rAns a (c.hd a).w (c.hd a).t]) + psum (c.left a) = _
        rw [ksum_app, rowK_ans, hl]
        unfold PT
        omega
      · rw [bal_ans]
        show cnt "letter" (c.rows ++ [rAns a (c.hd a).w (c.hd a).t]) + wsum (c.left a) = _
        rw [cnt_app, hl2, hwn, cnt_cons, s_ans]
        unfold WN
        show _ + (0 + 0) + _ = _
        omega
      · intro r hr
        cases List.mem_singleton.mp hr
        rw [s_ans]; rfl
  · rw [if_neg hf]
    exact ⟨fun _ => rfl, (fun h => by cases h), by show WN c = WN c + (0 - 0); omega, by intro r hr; cases hr⟩
/-- what a deed of a running round does to the sums -/
structure SumOk (c c' : Co) (rs : List D) : Prop where
  rf : ∀ r ∈ rs, RF2 r
  nb : ∀ r ∈ rs, isS "begun" r = false
  wn : WN c' = WN c + bal rs
  go : rs.any isEnd = false → PT c' = PT c
  en : rs.any isEnd = true → rs = [rEnd (PT c)] ∧ WN c = 0
  lg : c'.log = c.log ++ rs
theorem work_sum (c : Co) {a : Nat} (ha : a < c.m) : PT (c.work a) = PT c ∧ WN (c.work a) = WN c := by
  constructor
  · unfold PT Co.work
    rw [psum_upd c ha]
    show ksum c.rows + _ = _
    simp only
    omega
  · unfold WN Co.work
    rw [wsum_upd c ha]
    show cnt "letter" c.rows + _ = _
    simp only
    omega
theorem send_sum (c : Co) {a : Nat} (b : Nat) (k : Int) (ha : a < c.m) : PT (c.send a b k) = PT c ∧ WN (c.send a b k) = WN c + 1 := by
  constructor
  · show ksum (c.rows ++ [rLet a b k]) + psum (c.upd a _) = _
    rw [ksum_app, rowK_let, psum_upd c ha]
    unfold PT
    simp only
    omega
  · show cnt "letter" (c.rows ++ [rLet a b k]) + wsum (c.upd a _) = _
    rw [cnt_app, cnt_cons, s_let, wsum_upd c ha]
    unfold WN
    show _ + (1 + 0) + _ = _
    simp only
    omega
theorem wake_sum {c : Co} (d : DS c.m c) {pl a b : Nat} {k : Int} (hb : b < c.m) (hp : c.rows[pl]? = some (rLet a b k)) : PT (Co.wake { c with rows := c.rows.eraseIdx pl } (.int a) b k).2 = PT c ∧ WN (Co.wake { c with rows := c.rows.eraseIdx pl } (.int a) b k).2 = WN c + bal [(Co.wake { c with rows := c.rows.eraseIdx pl } (.int a) b k).1] ∧ isS "begun" (Co.wake { c with rows := c.rows.eraseIdx pl } (.int a) b k).1 = false := by
  have h1 := ksum_cut hp
  have h2 := cnt_cut "letter" hp
  rw [rowK_let] at h1
  rw [s_let] at h2
  have h2 : cnt "letter" c.rows = cnt "letter" (c.rows.eraseIdx pl) + 1 := h2
  unfold Co.wake
  simp only
  split
  · refine ⟨?_, ?_, by rw [s_ans]; rfl⟩
    · show ksum (c.rows.eraseIdx pl ++ [rAns b (.int a) 0]) + psum (Co.upd { c with rows := c.rows.eraseIdx pl } b _) = _
      rw [ksum_app, rowK_ans, psum_upd { c with rows := c.rows.eraseIdx pl } hb]
      unfold PT
      show _ + (psum c + _ - _) = _
      simp only
      omega
    · rw [bal_ans]
      show cnt "letter" (c.rows.eraseIdx pl ++ [rAns b (.int a) 0]) + wsum (Co.upd { c with rows := c.rows.eraseIdx pl } b _) = _
      rw [cnt_app, cnt_cons, s_ans, wsum_upd { c with rows := c.rows.eraseIdx pl } hb]
      unfold WN
      show _ + (0 + 0) + (wsum c + _ - _) = _
      simp only
      omega
  · rename_i hc
    have hw : (c.hd b).w = .non := by
      rcases d.w b hb with h | ⟨b', _, h⟩
      · exact h
      · exact absurd (.inr (by rw [h]; rfl)) hc
    refine ⟨?_, ?_, by rw [s_wok]; rfl⟩
    · show ksum (c.rows.eraseIdx pl) + psum (Co.upd { c with rows := c.rows.eraseIdx pl } b _) = _
      rw [psum_upd { c with rows := c.rows.eraseIdx pl } hb]
      unfold PT
      show _ + (psum c + _ - _) = _
      simp only
      omega
    · rw [bal_wok]
      show cnt "letter" (c.rows.eraseIdx pl) + wsum (Co.upd { c with rows := c.rows.eraseIdx pl } b _) = _
      rw [wsum_upd { c with rows := c.rows.eraseIdx pl } hb, hw]
      unfold WN
      show _ + (wsum c + 1 - 0) = _
      omega
theorem gath_sum (c : Co) {pl a b : Nat} {k : Int} (hb : b < c.m) (hp : c.rows[pl]? = some (rAns a (.int b) k)) : PT (Co.gath { c with rows := c.rows.eraseIdx pl } b k) = PT c ∧ WN (Co.gath { c with rows := c.rows.eraseIdx pl } b k) = WN c := by
  have h1 := ksum_cut hp
  have h2 := cnt_cut "letter" hp
  rw [rowK_ans] at h1
  rw [s_ans] at h2
  have h2 : cnt "letter" c.rows = cnt "letter" (c.rows.eraseIdx pl) + 0 := h2
  constructor
  · show ksum (c.rows.eraseIdx pl) + psum (Co.upd { c with rows := c.rows.eraseIdx pl } b _) = _
    rw [psum_upd { c with rows := c.rows.eraseIdx pl } hb]
    unfold PT
    show _ + (psum c + _ - _) = _
    simp only
    omega
  · show cnt "letter" (c.rows.eraseIdx pl) + wsum (Co.upd { c with rows := c.rows.eraseIdx pl } b _) = _
    rw [wsum_upd { c with rows := c.rows.eraseIdx pl } hb]
    unfold WN
    show _ + (wsum c + _ - _) = _
    simp only
    omega
theorem wake_log (c : Co) (a : D) (b : Nat) (k : Int) : (c.wake a b k).2.log = c.log := by
  unfold Co.wake
  simp only
  split <;> rfl
theorem wake_end (c : Co) (a : D) (b : Nat) (k : Int) : isEnd (c.wake a b k).1 = false := by
  unfold Co.wake
  simp only
  split <;> rfl
theorem step_sum {c c' : Co} {dd : Dd} {rs : List D} (d : DS c.m c) (hg : dd.good = true) (h : stepC c dd = (.rs rs, c')) : SumOk c c' rs := by
  cases dd with
  | beg k => cases hg
  | dow k =>
    rw [step_dow] at h
    split at h
    · cases h
    · split at h
      · cases h
      · cases h
        have hk : k.toNat < c.m := by omega
        obtain ⟨dw, _, he⟩ := d.work hk (by omega)
        have hs := work_sum c hk
        have hf := freed_sum dw hk he
        refine ⟨freed_rf (ds_ni dw hk), hf.2.2.2, ?_, fun h => ?_, fun h => ?_, ?_⟩
        · rw [← hs.2]; exact hf.2.2.1
        · rw [← hs.1]; exact hf.1 h
        · rw [← hs.1, ← hs.2]; exact ⟨(hf.2.1 h).1, (hf.2.1 h).2.2⟩
        · show (((c.work k.toNat).freed k.toNat).2.log ++ _) = _
          rw [(freed_len _ _).2.1]; rfl
  | han a b k =>
    rw [step_han] at h
    split at h
    · cases h
    · split at h
      · cases h
      · cases h
        have ha : a.toNat < c.m := by omega
        have hs := send_sum c b.toNat k ha
        refine ⟨?_, ?_, ?_, fun _ => hs.1, (fun h => by cases h), rfl⟩
        · intro r hr; cases List.mem_singleton.mp hr; exact ⟨Rw_let _ _ _, Fl_let _ _ _, fs_let _ _ _⟩
        · intro r hr; cases List.mem_singleton.mp hr; rw [s_let]; rfl
        · rw [bal_let]; exact hs.2
  | car pl =>
    rw [step_car] at h
    split at h
    · cases h
    · have hpl : pl.toNat < c.rows.length := by omega
      have hy := List.getElem?_eq_getElem hpl
      rcases d.r _ (List.getElem_mem hpl) with ⟨a, b, k, ha, hb, hk, er⟩ | ⟨a, b, k, ha, hb, hk, er⟩
      · rw [er] at hy
        simp only [hy, rLet, Int.toNat_natCast, if_true] at h
        cases h
        have hs := wake_sum d hb hy
        refine ⟨?_, ?_, hs.2.1, fun _ => hs.1, fun h => ?_, ?_⟩
        · intro r hr; cases List.mem_singleton.mp hr; exact wake_rf _ _ _ rfl
        · intro r hr; cases List.mem_singleton.mp hr; exact hs.2.2
        · rw [List.any_cons, wake_end] at h
          cases h
        · show (Co.wake { c with rows := c.rows.eraseIdx pl.toNat } (.int a) b k).2.log ++ _ = _
          rw [wake_log]
      · rw [er] at hy
        simp only [hy, rAns, Int.toNat_natCast] at h
        rw [if_neg (by decide)] at h
        cases h
        obtain ⟨_, dg, _, he⟩ := d.gath hy
        have hs := gath_sum c hb hy
        have hf := freed_sum dg hb he
        refine ⟨freed_rf (ds_ni dg hb), hf.2.2.2, ?_, fun h => ?_, fun h => ?_, ?_⟩
        · rw [← hs.2]; exact hf.2.2.1
        · rw [← hs.1]; exact hf.1 h
        · rw [← hs.1, ← hs.2]; exact ⟨(hf.2.1 h).1, (hf.2.1 h).2.2⟩
        · show ((Co.freed _ b).2.log ++ _) = _
          rw [(freed_len _ _).2.1]; rfl
/-- the round so far: begun with so many pieces; letters and answers told -/
def RI (c : Co) : Prop := c.run = true → ∃ pre rest k, c.log = pre ++ rBeg k :: rest ∧ (∀ r ∈ rest, isS "begun" r = false) ∧ PT c = k ∧ bal rest = WN c
theorem bal_app (xs ys : List D) : bal (xs ++ ys) = bal xs + bal ys := by
  unfold bal
  rw [cnt_app, cnt_app]
  omega
theorem RI.step {c c' : Co} {rs : List D} (h : RI c) (s : SumOk c c' rs) (hr : c.run = true) (hr' : c'.run = !(rs.any isEnd)) : RI c' := by
  intro h2
  rw [h2] at hr'
  have he : rs.any isEnd = false := by
    cases e : rs.any isEnd with
    | true => rw [e] at hr'; cases hr'
    | false => rfl
  obtain ⟨pre, rest, k, h3, h4, h5, h6⟩ := h hr
  refine ⟨pre, rest ++ rs, k, by rw [s.lg, h3]; simp, fun r hr => ?_, by rw [s.go he, h5], by rw [bal_app, s.wn, h6]⟩
  rcases List.mem_append.mp hr with hr | hr
  · exact h4 r hr
  · exact s.nb r hr
/-- the end is told: all pieces of the round, as many answers as letters -/
theorem RI.fin {c c' : Co} {rs : List D} (h : RI c) (s : SumOk c c' rs) (hr : c.run = true) (he : rs.any isEnd = true) : ∃ pre rest k, c'.log = pre ++ rBeg k :: (rest ++ [rEnd k]) ∧ (∀ r ∈ rest, isS "begun" r = false) ∧ rs = [rEnd k] ∧ bal rest = 0 := by
  obtain ⟨pre, rest, k, h3, h4, h5, h6⟩ := h hr
  obtain ⟨e1, e2⟩ := s.en he
  rw [h5] at e1
  refine ⟨pre, rest, k, by rw [s.lg, h3, e1]; simp, h4, e1, by rw [h6, e2]⟩
theorem RI.begin {c : Co} (d : DS c.m c) (hr : c.run = false) (k : Int) : RI ((({ c with run := true } : Co).upd 0 { c.hd 0 with p := k }).told [rBeg k]) ∧ PT ((({ c with run := true } : Co).upd 0 { c.hd 0 with p := k }).told [rBeg k]) = k := by
  have hf := (d.rest hr).1
  have ht := (d.rest hr).2
  obtain ⟨q1, q2⟩ := PT_quiet d hf
  have hp : PT ((({ c with run := true } : Co).upd 0 { c.hd 0 with p := k }).told [rBeg k]) = k := by
    show ksum c.rows + psum (Co.upd { c with run := true } 0 { c.hd 0 with p := k }) = k
    rw [psum_upd { c with run := true } d.m]
    show ksum c.rows + (psum c + (k + (c.hd 0).t) - ((c.hd 0).p + (c.hd 0).t)) = k
    have h1 : (c.hd 0).p = 0 := hf.1
    unfold PT at q1
    omega
  refine ⟨fun _ => ⟨c.log, [], k, rfl, by simp, hp, ?_⟩, hp⟩
  show (0 : Int) - 0 = cnt "letter" c.rows + wsum (Co.upd { c with run := true } 0 { c.hd 0 with p := k })
  rw [wsum_upd { c with run := true } d.m]
  show _ = _ + (wsum c + wN (c.hd 0).w - wN (c.hd 0).w)
  unfold WN at q2
  omega
theorem PT_rest {c : Co} (d : DS c.m c) (hr : c.run = false) : PT c = 0 := by
  rw [(PT_quiet d (d.rest hr).1).1]
  exact (d.rest hr).2
end DebtJ

set_option Elab.async false
set_option linter.all false
set_option maxRecDepth 100000
set_option maxHeartbeats 1000000
/-! More rules of the plain calculus: range downwards, slices. -/
namespace DebtJ
open PySem L2

section
variable {S : Store} {φ : Fr} {E : Nat → Store → Prop}
theorem Ok_rgD {Q : ItS → Store → Prop} (r : SA) (h : Ok E (r φ S) fun ds S1 => ∃ i j, ds = [.int i, .int j, .int (-1)] ∧ smallI i = true ∧ smallI j = true ∧ Q (rgC i (-1) (i - j).toNat) S1) : Ok E (iRgD r φ S) Q := by
  unfold iRgD
  rw [Ok_bind]
  refine Ok.imp h ?_
  rintro ds S1 ⟨i, j, rfl, h1, h2, q⟩
  show Ok E (if (smallI i && smallI j) = true then _ else _) Q
  rw [h1, h2]
  exact q
/-- over range downwards: the turn's number is lo - i -/
theorem for_rgD {j : Nat} {lo : Int} {n : Nat} {body : SS} {X : Nat → Fr → Store → Prop} {Qn : Fr → Store → Prop} {Qr : D → Store → Prop} (I : Nat → Fr → Store → Prop) (h0 : I 0 φ S)
    (step : ∀ i φ S, i < n → I i φ S → St X (body (φ.set j (some (.int (lo + i * (-1))))) S) (I (i + 1)) Qr) (done : ∀ φ S, I n φ S → Qn φ S) : St X (forS j (rgC lo (-1) n) body (rgC lo (-1) n).n 0 φ S) Qn Qr :=
  for_inv (t := rgC lo (-1) n) I (fun i φ S hi h => ⟨_, rfl, step i φ S hi h⟩) (fun φ S h => ⟨rfl, done φ S h⟩) n 0 φ S (Nat.zero_add _) h0
end
theorem cut_to0 (xs : List D) : cutD xs none (some 0) = [] := by
  unfold cutD
  rw [HT.sIx_none, show (some (0 : Int)) = some ((0 : Nat) : Int) from rfl, HT.sIx_nat]
  simp
theorem cut_to1 (x : D) : cutD [x] none (some 1) = [x] := by
  unfold cutD
  rw [HT.sIx_none, show (some (1 : Int)) = some ((1 : Nat) : Int) from rfl, HT.sIx_nat]
  rfl
theorem cut_nil (o : Option Int) : cutD [] none o = [] := by
  unfold cutD
  simp
theorem cut_from {xs : List D} {i : Nat} (h : i ≤ xs.length) : cutD xs (some (i : Int)) none = xs.drop i := by
  unfold cutD
  rw [HT.sIx_nat, HT.sIx_none, Nat.min_eq_left h, List.take_of_length_le (by simp)]
theorem Ok_kin {E : Nat → Store → Prop} {S : Store} {φ : Fr} {Q : D → Store → Prop} (F : SX) (c : Nat) : Ok E (eKin F c φ S) Q = Ok E (F c S) Q := propext Iff.rfl
theorem Ok_mkE {E : Nat → Store → Prop} {S : Store} {Q : D → Store → Prop} (m c : Nat) (fb : Nat → SS) : Ok E (mkE m fb c S) Q = St (fun c _ S => E c S) (fb c (List.replicate m none) S) (fun _ S1 => Q .non S1) Q := by
  unfold mkE
  cases fb c (List.replicate m none) S <;> exact propext Iff.rfl
theorem Ok_mkH {E : Nat → Store → Prop} {S : Store} (n m : Nat) (fb : SS) (ds : List D) {Q : D → Store → Prop} (h : ds.length = n) : Ok E (mkH n m fb ds S) Q = St NoX (fb (ds.map some ++ List.replicate (m - n) none) S) (fun _ S1 => Q .non S1) Q := by
  unfold mkH
  rw [if_pos h]
  cases fb (ds.map some ++ List.replicate (m - n) none) S <;> exact propext Iff.rfl
theorem St_sNo {X : Nat → Fr → Store → Prop} {φ : Fr} {S : Store} {Qn : Fr → Store → Prop} {Qr : D → Store → Prop} : St X (sNo φ S) Qn Qr = False := propext Iff.rfl
theorem Ok_eNo {E : Nat → Store → Prop} {φ : Fr} {S : Store} {Q : D → Store → Prop} : Ok E (eNo φ S) Q = False := propext Iff.rfl
/-! ### == of nested lists -/
theorem list_pyk {S : Store} {n : Nat} {xs : List D} (h : lget S n = some xs) (hf : ∀ x ∈ xs, Fl x) (k : Nat) : ∃ ps, xs.mapM flat1 = some ps ∧ toPy S (k + 3) (.ref n) = some (.list ps) ∧ PyData.canLay0 (.list ps) = true ∧ PyData.depth (.list ps) ≤ 3 := by
  obtain ⟨ps, e⟩ := mapM_some hf
  refine ⟨ps, e, ?_, ?_⟩
  · show (match lget S n with
      | some xs => (xs.mapM (toPy S (k + 2))).map PyData.list
      | none => none) = _
    rw [h]
    simp only
    rw [mapM_imp (fun a b hab => flat_py hab k) e]
    rfl
  · have h1 := mapM_all (P := fun p => p.canLay0 = true ∧ p.depth ≤ 2) (fun a b hab => flat_ok hab) e
    refine ⟨by rw [PyData.canLay0]; exact lay_all fun p hp => (h1 p hp).1, ?_⟩
    rw [PyData.depth]
    have := depth_all (n := 2) fun p hp => (h1 p hp).2
    omega
theorem EqD_py {S : Store} {a b : D} {p : PyData} {Q : Bool → Prop} (h1 : toPy S 8 a = some p) (h2 : toPy S 8 b = some p) (h3 : SeqAt.shaped p = true) (q : Q true) : EqD S a b Q := by
  unfold EqD eqDD
  rw [h1, h2]
  simp only [h3, Bool.and_self, if_true]
  rw [SeqAt.eqv_refl _ (SeqAt.canLay_of_shaped h3)]
  exact q
end DebtJ

set_option Elab.async false
set_option linter.all false
set_option maxRecDepth 100000
set_option maxHeartbeats 1000000
/-! plain laws of texts -/
namespace DebtJ
open PySem L2

/-! ### rules -/
section
variable {E : Nat → Store → Prop} {S : Store} {φ : Fr} {Q : D → Store → Prop}
theorem k_notS (c : Nat) (x : Str) (z : Str) (hx : x.cps.toList = [c]) : Ok E (R.of (gNotS (.str x) (.str z) S)) Q = Q (.bl (!decide (c ∈ z.cps.toList))) S := by
  unfold gNotS
  simp only [hx]
  exact propext Iff.rfl
theorem k_split (a b : Str) : Ok E (R.of (gSplit (.str a) [.str b] S)) Q = (b.length ≠ 0 ∧ a.length + 2 ≤ 16777216 ∧ Q (.ref S.length) (S ++ [.lst ((Txt.split a b).map .str)])) := by
  unfold gSplit
  by_cases h1 : b.length = 0
  · simp [h1, Ok_none]
  · by_cases h2 : a.length + 2 ≤ 16777216
    · simp [h1, small, h2, Ok_some]
    · simp [h1, small, h2, Ok_none]
theorem k_join (a : Str) (n : Nat) : Ok E (R.of (gJoin (.str a) [.ref n] S)) Q = match (lget S n).bind strsOf with
    | some ys => (ys.map (·.length)).sum + ys.length * a.length ≤ 16777216 ∧ Q (.str (Txt.join a ys)) S
    | none => False := by
  unfold gJoin
  simp only
  cases e : (lget S n).bind strsOf with
  | none => exact Ok_none
  | some ys =>
    by_cases h : (ys.map (·.length)).sum + ys.length * a.length ≤ 16777216
    · simp [h, Ok_some]
    · simp [h, Ok_none]
theorem k_rfind (a b : Str) : Ok E (R.of (gRfind (.str a) [.str b] S)) Q = Q (.int (Txt.rfind a b)) S := propext Iff.rfl
theorem k_intS (a : Str) : Ok E (R.of (gIntS [.str a] S)) Q = match PySem.intText? a with
    | some n => a.length ≤ 640 ∧ Q (.int n) S
    | none => False := by
  unfold gIntS
  simp only
  cases e : PySem.intText? a with
  | none => exact Ok_none
  | some n =>
    by_cases h : a.length ≤ 640
    · simp [h, Ok_some]
    · simp [h, Ok_none]
theorem k_strI (i : Int) : Ok E (R.of (gStrI [.int i] S)) Q = (i.natAbs.log2 < 1920 ∧ Q (.str (toString i)) S) := by
  unfold gStrI
  simp only
  by_cases h : i.natAbs.log2 < 1920
  · simp [h, Ok_some]
  · simp [h, Ok_none]
theorem k_strAI (i : Int) : Ok E (R.of (gStrA [.int i] S)) Q = (i.natAbs.log2 < 1920 ∧ Q (.str (toString i)) S) := by
  unfold gStrA gStrI gStrT
  simp only
  by_cases h : i.natAbs.log2 < 1920
  · simp [h, Ok_some]
  · simp [h, Ok_none]
theorem k_strAS (i : Str) : Ok E (R.of (gStrA [.str i] S)) Q = Q (.str i) S := propext Iff.rfl
theorem k_slS (z : Str) (lo hi : Option Int) : Ok E (R.of (gSl (.str z) lo hi S)) Q = (z.length ≤ 16777216 ∧ Q (.str (cutS z lo hi)) S) := by
  unfold gSl gSlL gSlT gSlS
  by_cases h : z.length ≤ 16777216
  · simp [small, h, Ok_some]
  · simp [small, h, Ok_none]
theorem k_slT (xs : List D) (lo hi : Option Int) : Ok E (R.of (gSl (.tup xs) lo hi S)) Q = (¬ (HT.sIx xs.length 0 lo = 0 ∧ HT.sIx xs.length xs.length hi = xs.length) ∧ Q (.tup (cutD xs lo hi)) S) := by
  unfold gSl gSlL gSlT gSlS
  by_cases h : HT.sIx xs.length 0 lo = 0 ∧ HT.sIx xs.length xs.length hi = xs.length
  · simp [h, Ok_none]
  · simp [h, Ok_some]
theorem k_ixS (ns : List Int) (z : Str) (i : Int) : Ok E (R.of (gIx ns (.str z) (.int i) S)) Q = (z.length ≤ 16777216 ∧ match atI z.cps.toList i with
    | some c => Q (.str ⟨#[c]⟩) S
    | none => False) := by
  unfold gIx gIxL gIxC gIxT gIxS
  by_cases h : z.length ≤ 16777216
  · simp only [small, h, decide_true, if_true]
    cases atI z.cps.toList i <;> simp [Ok_some, Ok_none]
  · simp [small, h, Ok_none]
theorem Ok_istr {Q : ItS → Store → Prop} (f : SE) : Ok E (iStrJ f φ S) Q = Ok E (f φ S) fun d S1 => match d with
    | .str x => Q (stI x) S1
    | _ => False := by
  unfold iStrJ
  rw [Ok_bind]
  congr 1
  funext d S1
  cases d <;> rfl
theorem Ok_disp (qs : List (Str × Int)) : Ok E (eDisp qs φ S) Q = Q (.ref S.length) (S ++ [.dic (kvD qs)]) := propext Iff.rfl
theorem Ok_dnot (f g : SE) : Ok E (eDNot f g φ S) Q = Ok E (f φ S) fun x S1 => Ok E (g φ S1) fun y S2 => match keyD x, y with
    | some k, .ref n => match dget S2 n with
      | some kvs => Q (.bl (!(valD kvs k).isSome)) S2
      | none => False
    | _, _ => False := by
  unfold eDNot
  rw [Ok_bind]
  congr 1
  funext x S1
  rw [Ok_bind]
  congr 1
  funext y S2
  cases keyD x with
  | none => cases y <;> rfl
  | some k => cases y with
    | ref n => simp only; cases dget S2 n <;> rfl
    | _ => rfl
theorem Ok_dget (f g : SE) : Ok E (eDGet f g φ S) Q = Ok E (f φ S) fun x S1 => Ok E (g φ S1) fun y S2 => match x, keyD y with
    | .ref n, some k => match (dget S2 n).bind fun kvs => valD kvs k with
      | some d => Q d S2
      | none => False
    | _, _ => False := by
  unfold eDGet
  rw [Ok_bind]
  congr 1
  funext x S1
  rw [Ok_bind]
  congr 1
  funext y S2
  cases x with
  | ref n => cases keyD y with
    | none => rfl
    | some k => simp only; cases (dget S2 n).bind fun kvs => valD kvs k <;> rfl
  | _ => cases keyD y <;> rfl
theorem Ok_kdNot (kvs : List (Str × Int)) (f : SE) : Ok E (tKdNot kvs f φ S) Q = Ok E (f φ S) fun x S1 => match x with
    | .str z => Q (.bl (kvs.lookup z).isNone) S1
    | _ => False := by
  unfold tKdNot
  rw [Ok_bind]
  congr 1
  funext x S1
  cases x <;> rfl
theorem Ok_kdGet (kvs : List (Str × Int)) (f : SE) : Ok E (eKdGet kvs f φ S) Q = Ok E (f φ S) fun x S1 => match x with
    | .str z => match kvs.lookup z with
      | some i => Q (.int i) S1
      | none => False
    | _ => False := by
  unfold eKdGet
  rw [Ok_bind]
  congr 1
  funext x S1
  cases x with
  | str z => simp only; cases kvs.lookup z <;> rfl
  | _ => rfl
theorem Ok_lcX (j : Nat) (it : SI) (tst : ST) (elt : SE) : Ok E (eLcX j it tst elt φ S) Q = Ok E (it φ S) fun t S1 => Ok E (lcX j S1.length t tst elt t.n 0 (φ.set j none) (S1 ++ [.lst []])) fun _ S2 => Q (.ref S1.length) S2 := by
  unfold eLcX
  rw [Ok_bind]
  congr 1
  funext t S1
  rw [Ok_bind]
  rfl
end

/-! ### loops -/
/-- over a text -/
theorem for_st {j : Nat} {x : Str} {body : SS} {φ : Fr} {S : Store} {X : Nat → Fr → Store → Prop} {Qn : Fr → Store → Prop} {Qr : D → Store → Prop} (I : Nat → Fr → Store → Prop) (h0 : I 0 φ S)
    (step : ∀ i φ S c, x.cps.toList[i]? = some c → I i φ S → St X (body (φ.set j (some (.str ⟨#[c]⟩))) S) (I (i + 1)) Qr) (done : ∀ φ S, I x.cps.toList.length φ S → Qn φ S) : St X (forS j (stI x) body (stI x).n 0 φ S) Qn Qr := by
  have hl : x.cps.toList.length = x.cps.size := Array.length_toList
  refine for_inv (t := stI x) I (fun i φ S hi h => ?_) (fun φ S h => ⟨rfl, done φ S (by rw [hl]; exact h)⟩) x.cps.size 0 φ S (Nat.zero_add _) h0
  have hi : i < x.cps.size := hi
  have e : x.cps[i]? = some x.cps[i] := Array.getElem?_eq_getElem hi
  refine ⟨.str ⟨#[x.cps[i]]⟩, by show (x.cps[i]?).map _ = _; rw [e]; rfl, step i φ S _ ?_ h⟩
  rw [Array.getElem?_toList]
  exact e
/-- a comprehension whose parts only add to the store -/
theorem lc_gr {S : Store} {j : Nat} {t : ItS} {tst : ST} {elt : SE} {φ : Fr} {Q : Store → Prop} (xs : List D) (f : D → Bool) (g : D → D) (hn : t.n = xs.length) (hm : xs.length < 16777216)
    (hget : ∀ i T, i < xs.length → t.get i (S ++ T) = xs[i]?) (hfin : ∀ T, t.fin (S ++ T) = true)
    (htst : ∀ d T, d ∈ xs → Ok NoE (tst (φ.set j (some d)) (S ++ T)) fun b S1 => b = f d ∧ ∃ T', S1 = S ++ (T ++ T'))
    (helt : ∀ d T, d ∈ xs → f d = true → Ok NoE (elt (φ.set j (some d)) (S ++ T)) fun y S1 => y = g d ∧ ∃ T', S1 = S ++ (T ++ T'))
    (q : ∀ T, Q (S ++ .lst ((xs.filter f).map g) :: T)) : match lcS j S.length t tst elt t.n 0 φ (S ++ [.lst []]) with
      | some S2 => Q S2
      | none => False := by
  have hnew : ∀ (acc : List D) T, lget (S ++ .lst acc :: T) S.length = some acc := fun acc T => lget_iff.mpr (by simp)
  have hset : ∀ (acc acc' : List D) T, (S ++ .lst acc :: T).set S.length (.lst acc') = S ++ .lst acc' :: T := fun acc acc' T => by simp
  refine lc_inv (t := t) (fun i acc S' => acc = ((xs.take i).filter f).map g ∧ ∃ T, S' = S ++ .lst acc :: T) ?_ (by rw [hn]; exact hm) ?_ ?_ _ 0 [] _ (Nat.zero_add _) ⟨by simp, [], rfl⟩
  · rintro i acc S' ⟨rfl, T, rfl⟩
    refine ⟨hnew _ _, ?_⟩
    rw [List.length_map]
    exact Nat.le_trans (List.length_filter_le _ _) (by rw [List.length_take]; omega)
  · rintro i acc S' hi ⟨rfl, T, rfl⟩
    rw [hn] at hi
    have hd : xs[i]? = some xs[i] := List.getElem?_eq_getElem hi
    have hmem : xs[i] ∈ xs := List.getElem_mem hi
    have htk : xs.take (i + 1) = xs.take i ++ [xs[i]] := by rw [List.take_succ, hd]; rfl
    refine ⟨xs[i], by rw [hget i _ hi]; exact hd, ?_⟩
    refine Ok.imp (htst xs[i] _ hmem) ?_
    rintro b S1 ⟨rfl, T1, rfl⟩
    split
    · rename_i e
      refine Ok.imp (helt xs[i] _ hmem e) ?_
      rintro y S2 ⟨rfl, T2, rfl⟩
      simp only [List.cons_append]
      refine ⟨hnew _ _, ?_, T ++ T1 ++ T2, hset _ _ _⟩
      rw [htk, List.filter_append, List.map_append]
      simp [e]
    · rename_i e
      refine ⟨?_, T ++ T1, rfl⟩
      have e : f xs[i] = false := by simpa using e
      rw [htk, List.filter_append, List.map_append]
      simp [e]
  · rintro acc S' ⟨rfl, T, rfl⟩
    refine ⟨hfin _, ?_⟩
    rw [hn, List.take_of_length_le (Nat.le_refl _)]
    exact q T
/-- one whose item may raise: the first bad one does -/
theorem lcX_gr {S : Store} {j : Nat} {t : ItS} {elt : SE} {φ : Fr} {E : Nat → Store → Prop} {Q : Unit → Store → Prop} (xs : List D) (f : D → Bool) (g : D → D) (c : Nat) (hn : t.n = xs.length) (hm : xs.length < 16777216)
    (hget : ∀ i T, i < xs.length → t.get i (S ++ T) = xs[i]?) (hfin : ∀ T, t.fin (S ++ T) = true)
    (helt : ∀ d T, d ∈ xs → Ok (fun c' S1 => c' = c ∧ f d = false ∧ ∃ T', S1 = S ++ (T ++ T')) (elt (φ.set j (some d)) (S ++ T)) fun y S1 => f d = true ∧ y = g d ∧ ∃ T', S1 = S ++ (T ++ T'))
    (q1 : xs.all f = true → ∀ T, Q () (S ++ .lst (xs.map g) :: T)) (q2 : xs.all f = false → ∀ T, E c (S ++ T)) : Ok E (lcX j S.length t tYes' elt t.n 0 φ (S ++ [.lst []])) Q := by
  have hnew : ∀ (acc : List D) T, lget (S ++ .lst acc :: T) S.length = some acc := fun acc T => lget_iff.mpr (by simp)
  have hset : ∀ (acc acc' : List D) T, (S ++ .lst acc :: T).set S.length (.lst acc') = S ++ .lst acc' :: T := fun acc acc' T => by simp
  have key : ∀ (m i : Nat) (T : Store), i + m = xs.length → (xs.take i).all f = true → Ok E (lcX j S.length t tYes' elt m i φ (S ++ .lst ((xs.take i).map g) :: T)) Q := by
    intro m
    induction m with
    | zero =>
      intro i T e ha
      have e : i = xs.length := by omega
      subst e
      rw [List.take_of_length_le (Nat.le_refl _)] at ha ⊢
      unfold lcX
      rw [if_pos (hfin _)]
      exact q1 ha T
    | succ m ih =>
      intro i T e ha
      have hi : i < xs.length := by omega
      have hd : xs[i]? = some xs[i] := List.getElem?_eq_getElem hi
      have hmem : xs[i] ∈ xs := List.getElem_mem hi
      have htk : xs.take (i + 1) = xs.take i ++ [xs[i]] := by rw [List.take_succ, hd]; rfl
      have h := helt xs[i] (.lst ((xs.take i).map g) :: T) hmem
      unfold lcX
      rw [hget i _ hi, hd]
      simp only [tYes']
      cases er : elt (φ.set j (some xs[i])) (S ++ .lst ((xs.take i).map g) :: T) with
      | no => rw [er] at h; exact h.elim
      | exc c' S1 =>
        rw [er] at h
        obtain ⟨rfl, h1, T', rfl⟩ := h
        refine q2 ?_ _
        cases ea : xs.all f with
        | false => rfl
        | true =>
          rw [List.all_eq_true] at ea
          rw [ea _ hmem] at h1
          cases h1
      | ok y S1 =>
        rw [er] at h
        obtain ⟨h1, rfl, T', rfl⟩ := h
        simp only [List.cons_append]
        rw [hnew]
        have hs : small (((xs.take i).map g).length + 1) = true := decide_eq_true (by rw [List.length_map, List.length_take]; omega)
        simp only [hs, if_true]
        rw [hset]
        have := ih (i + 1) (T ++ T') (by omega) (by rw [htk, List.all_append, ha]; simp [h1])
        rw [htk, List.map_append] at this
        exact this
  have := key xs.length 0 [] (Nat.zero_add _) (by simp)
  rw [hn]
  simpa using this
end DebtJ

set_option Elab.async false
set_option linter.all false
set_option maxRecDepth 100000
set_option maxHeartbeats 1000000
/-! Plain rules: dicts that are built, locked dicts, len(set(..)), while; == of lists of pairs with lists. -/
namespace DebtJ
open PySem L2
section
variable {E : Nat → Store → Prop} {S : Store} {φ : Fr} {Q : D → Store → Prop} {X : Nat → Fr → Store → Prop} {Qn : Fr → Store → Prop} {Qr : D → Store → Prop}
theorem Ok_dnew : Ok E (eDNew φ S) Q = Q (.ref S.length) (S ++ [.dic []]) := propext Iff.rfl
theorem Ok_items (f : SE) : Ok E (eItems f φ S) Q = Ok E (f φ S) fun d S1 => match d with
  | .ref n => match dget S1 n with
    | some kvs => Q (.ref S1.length) (S1 ++ [.lst (itemsD kvs)])
    | none => False
  | _ => False := by
  unfold eItems
  rw [Ok_bind]
  congr 1
  funext d S1
  cases d with
  | ref n => simp only; cases dget S1 n <;> rfl
  | _ => rfl
theorem Ok_lenSet (f : SE) : Ok E (eLenSet f φ S) Q = Ok E (f φ S) fun d S1 => match d with
  | .ref n => match (lget S1 n).bind intsOf with
    | some ns => (ns.Nodup ∧ ns.length ≤ 4000) ∧ Q (.int ns.length) S1
    | none => False
  | _ => False := by
  unfold eLenSet
  rw [Ok_bind]
  congr 1
  funext d S1
  cases d with
  | ref n =>
    simp only
    cases (lget S1 n).bind intsOf with
    | none => rfl
    | some ns => by_cases h1 : ns.Nodup <;> by_cases h2 : ns.length ≤ 4000 <;> simp [h1, h2, Ok]
  | _ => rfl
theorem Ok_dgetR (f g : SE) : Ok E (eDGetR f g φ S) Q = Ok E (f φ S) fun x S1 => Ok E (g φ S1) fun y S2 => match x, keyD y with
  | .ref n, some k => match (dgetR S2 n).bind fun kvs => valD kvs k with
    | some d => Q d S2
    | none => False
  | _, _ => False := by
  unfold eDGetR
  rw [Ok_bind]
  congr 1
  funext x S1
  rw [Ok_bind]
  congr 1
  funext y S2
  cases x with
  | ref n => cases keyD y with
    | none => rfl
    | some k => simp only; cases (dgetR S2 n).bind fun kvs => valD kvs k <;> rfl
  | _ => cases keyD y <;> rfl
theorem St_dput (fd fk fv : SE) : St X (sDPutJ fd fk fv φ S) Qn Qr = Ok (fun c S => X c φ S) (fv φ S) fun v S1 => Ok (fun c S => X c φ S) (fd φ S1) fun x S2 => Ok (fun c S => X c φ S) (fk φ S2) fun y S3 => match x, keyD y with
  | .ref n, some k => match dget S3 n with
    | some kvs => (kvs.length < 1000 ∧ valD kvs k = none) ∧ Qn φ (S3.set n (.dic (kvs ++ [(k, v)])))
    | none => False
  | _, _ => False := by
  unfold sDPutJ
  rw [St_toS]
  congr 1
  funext v S1
  rw [St_toS]
  congr 1
  funext x S2
  rw [St_toS]
  congr 1
  funext y S3
  cases x with
  | ref n => cases keyD y with
    | none => rfl
    | some k =>
      simp only
      cases dget S3 n with
      | none => rfl
      | some kvs => by_cases h1 : kvs.length < 1000 <;> cases h2 : valD kvs k <;> simp [h1, h2, St]
  | _ => cases keyD y <;> rfl
theorem Ok_keysJ {Q : ItS → Store → Prop} (f : SE) : Ok E (iKeysJ f φ S) Q = Ok E (f φ S) fun d S1 => match d with
  | .ref n => match S1[n]? with
    | some (.frd kvs) => Q (kyI kvs) S1
    | _ => False
  | _ => False := by
  unfold iKeysJ
  rw [Ok_bind]
  congr 1
  funext d S1
  cases d with
  | ref n =>
    simp only
    cases S1[n]? with
    | none => rfl
    | some o => cases o <;> rfl
  | _ => rfl
theorem lockE_in {i n : Nat} {f : SE} {kvs : List (Key × D)} (h : φ[i]? = some (some (.ref n))) (hd : dget S n = some kvs) (q : Ok NoE (f φ (S.set n (.frd kvs))) fun d S' => (∃ k2, S'[n]? = some (.frd k2)) ∧ Q d (S'.set n (.dic kvs))) : Ok E (lockE i f φ S) Q := by
  unfold lockE
  rw [h]
  simp only [hd]
  cases e : f φ (S.set n (.frd kvs)) with
  | ok d S' =>
    rw [e] at q
    obtain ⟨⟨k2, h2⟩, q⟩ := q
    show Ok E (match unlO n kvs S' with
      | some S' => .ok d S'
      | none => .no) Q
    unfold unlO
    rw [h2]
    exact q
  | exc c S' => rw [e] at q; exact q.elim
  | no => rw [e] at q; exact q.elim
theorem lockS_in {i n : Nat} {f : SS} {kvs : List (Key × D)} (h : φ[i]? = some (some (.ref n))) (hd : dget S n = some kvs) (q : St NoX (f φ (S.set n (.frd kvs))) (fun φ' S' => (∃ k2, S'[n]? = some (.frd k2)) ∧ Qn φ' (S'.set n (.dic kvs))) (fun _ _ => False)) : St X (lockS i f φ S) Qn Qr := by
  unfold lockS
  rw [h]
  simp only [hd]
  cases e : f φ (S.set n (.frd kvs)) with
  | nx φ' S' =>
    rw [e] at q
    obtain ⟨⟨k2, h2⟩, q⟩ := q
    show St X (match unlO n kvs S' with
      | some S' => .nx φ' S'
      | none => .no) Qn Qr
    unfold unlO
    rw [h2]
    exact q
  | rt d S' => rw [e] at q; exact q.elim
  | bk _ _ => rw [e] at q; exact q.elim
  | ct _ _ => rw [e] at q; exact q.elim
  | exc c _ S' => rw [e] at q; exact q.elim
  | no => rw [e] at q; exact q.elim
theorem wh_in {c : ST} {body : SS} {m : Nat} (h : Ok (fun k S => X k φ S) (c φ S) fun b S1 => if b = true then St X (body φ S1) (fun φ' S' => St X (whS c body m φ' S') Qn Qr) Qr else Qn φ S1) : St X (whS c body (m + 1) φ S) Qn Qr := by
  show St X ((c φ S).toS φ fun b S1 => if b then (match body φ S1 with
    | .nx φ' S' => whS c body m φ' S'
    | .ct φ' S' => whS c body m φ' S'
    | .bk φ' S' => .nx φ' S'
    | r => r) else .nx φ S1) Qn Qr
  rw [St_toS]
  refine Ok.imp h fun b S1 hb => ?_
  cases b with
  | false => exact hb
  | true =>
    rw [if_pos rfl] at hb ⊢
    cases e : body φ S1 with
    | nx φ' S' => rw [e] at hb; exact hb
    | rt d S' => rw [e] at hb; exact hb
    | bk φ' S' => rw [e] at hb; exact hb.elim
    | ct φ' S' => rw [e] at hb; exact hb.elim
    | exc k φ' S' => rw [e] at hb; exact hb
    | no => rw [e] at hb; exact hb.elim
/-- a dict's keys, one after the other -/
theorem for_ky {j : Nat} {kvs : List (Key × D)} {body : SS} (I : Nat → Fr → Store → Prop) (h0 : I 0 φ S)
    (step : ∀ i φ S q, kvs[i]? = some q → I i φ S → St X (body (φ.set j (some (kD q.1))) S) (I (i + 1)) Qr) (done : ∀ φ S, I kvs.length φ S → Qn φ S) : St X (forS j (kyI kvs) body (kyI kvs).n 0 φ S) Qn Qr := by
  refine for_inv (t := kyI kvs) I (fun i φ S hi h => ?_) (fun φ S h => ⟨rfl, done φ S h⟩) kvs.length 0 φ S (Nat.zero_add _) h0
  have hi : i < kvs.length := hi
  have e := List.getElem?_eq_getElem hi
  exact ⟨kD kvs[i].1, by show (kvs[i]?).map _ = _; rw [e]; rfl, step i φ S _ e h⟩
theorem kb_dict_dict : kitB "dict" "dict" = some true := rfl
theorem ty_d {n : Nat} {kvs : List (Key × D)} (h : dget S n = some kvs) : tyN S (.ref n) = some "dict" := by
  unfold dget at h
  unfold tyN
  split at h
  · rename_i e; simp only [e]
  · cases h
theorem dget_iff {n : Nat} {kvs : List (Key × D)} : dget S n = some kvs ↔ S[n]? = some (.dic kvs) := by
  unfold dget
  constructor
  · intro h
    split at h
    · rename_i e; cases h; exact e
    · cases h
  · intro h
    rw [h]
end
/-! ### == of lists whose items are more than flat -/
theorem mapM_two {α β γ : Type} {f : α → Option β} {g : γ → Option β} {P : β → Prop} : ∀ {xs : List α} {ys : List γ}, xs.length = ys.length → (∀ (i : Nat) x y, xs[i]? = some x → ys[i]? = some y → ∃ p, f x = some p ∧ g y = some p ∧ P p) → ∃ ps, xs.mapM f = some ps ∧ ys.mapM g = some ps ∧ ∀ p ∈ ps, P p
  | [], [], _, _ => ⟨[], rfl, rfl, fun _ h => nomatch h⟩
  | [], _ :: _, h, _ => by cases h
  | _ :: _, [], h, _ => by cases h
  | x :: xs, y :: ys, h, hp => by
    obtain ⟨p, h1, h2, h3⟩ := hp 0 x y rfl rfl
    obtain ⟨ps, h4, h5, h6⟩ := mapM_two (f := f) (g := g) (P := P) (xs := xs) (ys := ys) (by simpa using h) fun i a b ha hb => hp (i + 1) a b (by simpa using ha) (by simpa using hb)
    refine ⟨p :: ps, by rw [List.mapM_cons, h1, h4]; rfl, by rw [List.mapM_cons, h2, h5]; rfl, fun q hq => ?_⟩
    rcases List.mem_cons.mp hq with rfl | hq
    · exact h3
    · exact h6 q hq
def OkP (p : PyData) : Prop := p.canLay0 = true ∧ p.depth ≤ 8
theorem list_shaped {ps : List PyData} (h : ∀ p ∈ ps, OkP p) : SeqAt.shaped (.list ps) = true := by
  refine shaped_of (by rw [PyData.canLay0]; exact lay_all fun p hp => (h p hp).1) ?_
  rw [PyData.depth]
  have := depth_all (n := 8) fun p hp => (h p hp).2
  omega
theorem EqD_deep {S : Store} {a b : Nat} {xs ys : List D} {Q : Bool → Prop} (ha : lget S a = some xs) (hb : lget S b = some ys) (hl : xs.length = ys.length) (hp : ∀ (i : Nat) x y, xs[i]? = some x → ys[i]? = some y → ∃ p, toPy S 7 x = some p ∧ toPy S 7 y = some p ∧ OkP p) (q : Q true) : EqD S (.ref a) (.ref b) Q := by
  obtain ⟨ps, h1, h2, h3⟩ := mapM_two hl hp
  have e1 : toPy S 8 (.ref a) = some (.list ps) := by
    show (match lget S a with
      | some xs => (xs.mapM (toPy S 7)).map PyData.list
      | none => none) = _
    rw [ha]
    simp only [h1]
    rfl
  have e2 : toPy S 8 (.ref b) = some (.list ps) := by
    show (match lget S b with
      | some xs => (xs.mapM (toPy S 7)).map PyData.list
      | none => none) = _
    rw [hb]
    simp only [h2]
    rfl
  have hs := list_shaped h3
  unfold EqD eqDD
  rw [e1, e2]
  simp only [hs, Bool.and_self, if_true]
  rw [SeqAt.eqv_refl _ (SeqAt.canLay_of_shaped hs)]
  exact q
/-- a list that holds something against the empty list -/
theorem EqD_ne {S : Store} {a b : Nat} {x : D} {xs : List D} {Q : Bool → Prop} (ha : lget S a = some (x :: xs)) (hb : lget S b = some []) (hp : ∀ y ∈ x :: xs, ∃ p, toPy S 7 y = some p ∧ OkP p) (q : Q false) : EqD S (.ref a) (.ref b) Q := by
  obtain ⟨ps, h1, _, h3⟩ := mapM_two (f := toPy S 7) (g := toPy S 7) (P := OkP) (xs := x :: xs) (ys := x :: xs) rfl (fun i y z h1 h2 => by
    rw [h1] at h2; cases h2
    obtain ⟨p, e, o⟩ := hp y (List.mem_of_getElem? h1)
    exact ⟨p, e, e, o⟩)
  have hs := list_shaped h3
  have e1 : toPy S 8 (.ref a) = some (.list ps) := by
    show (match lget S a with
      | some xs => (xs.mapM (toPy S 7)).map PyData.list
      | none => none) = _
    rw [ha]
    simp only [h1]
    rfl
  have e2 : toPy S 8 (.ref b) = some (.list []) := by
    show (match lget S b with
      | some xs => (xs.mapM (toPy S 7)).map PyData.list
      | none => none) = _
    rw [hb]
    rfl
  obtain ⟨p, ps', rfl⟩ : ∃ p ps', ps = p :: ps' := by
    cases ps with
    | nil =>
      rw [List.mapM_cons] at h1
      obtain ⟨p, e, _⟩ := hp x (List.mem_cons_self ..)
      rw [e] at h1
      cases h2 : xs.mapM (toPy S 7) with
      | none => rw [h2] at h1; cases h1
      | some zs => rw [h2] at h1; cases h1
    | cons p ps' => exact ⟨p, ps', rfl⟩
  have hs0 : SeqAt.shaped (.list []) = true := list_shaped (fun _ h => nomatch h)
  unfold EqD eqDD
  rw [e1, e2]
  simp only [hs, hs0, Bool.and_self, if_true]
  have : PyData.eqv (.list (p :: ps')) (.list []) = false := by
    rw [PyData.eqv]
    rfl
  rw [this]
  exact q
/-- a list of ints -/
theorem ints_py {S : Store} {r : Nat} {zs : List Nat} (h : lget S r = some (zs.map fun (z : Nat) => D.int z)) (k : Nat) : toPy S (k + 2) (.ref r) = some (.list (zs.map fun (z : Nat) => PyData.int z)) := by
  show (match lget S r with
      | some xs => (xs.mapM (toPy S (k + 1))).map PyData.list
      | none => none) = _
  rw [h]
  simp only
  have : ∀ l : List Nat, (l.map fun (z : Nat) => D.int z).mapM (toPy S (k + 1)) = some (l.map fun (z : Nat) => PyData.int z) := by
    intro l
    induction l with
    | nil => rfl
    | cons z r ih => rw [List.map_cons, List.mapM_cons, ih]; rfl
  rw [this]
  rfl
theorem ints_ok (zs : List Nat) : (PyData.list (zs.map fun (z : Nat) => PyData.int z)).canLay0 = true ∧ (PyData.list (zs.map fun (z : Nat) => PyData.int z)).depth ≤ 2 := by
  refine ⟨?_, ?_⟩
  · rw [PyData.canLay0]
    exact lay_all fun p hp => by obtain ⟨z, _, rfl⟩ := List.mem_map.mp hp; rfl
  · rw [PyData.depth]
    have := depth_all (n := 1) (ps := zs.map fun (z : Nat) => PyData.int z) fun p hp => by obtain ⟨z, _, rfl⟩ := List.mem_map.mp hp; exact Nat.zero_le _
    omega
/-- (k, a list of ints) -/
theorem pair_py {S : Store} {r k : Nat} {zs : List Nat} (h : lget S r = some (zs.map fun (z : Nat) => D.int z)) : toPy S 7 (.tup [.int k, .ref r]) = some (.tuple [.int k, .list (zs.map fun (z : Nat) => PyData.int z)]) := by
  show (([D.int k, .ref r]).mapM (toPy S 6)).map PyData.tuple = _
  rw [List.mapM_cons, List.mapM_cons, ints_py h 4]
  rfl
theorem pair_ok (k : Nat) (zs : List Nat) : OkP (.tuple [.int k, .list (zs.map fun (z : Nat) => PyData.int z)]) := by
  obtain ⟨h1, h2⟩ := ints_ok zs
  have hall : ∀ p ∈ [PyData.int (k : Int), .list (zs.map fun (z : Nat) => PyData.int z)], p.canLay0 = true ∧ p.depth ≤ 2 := by
    intro p hp
    simp only [List.mem_cons, List.not_mem_nil, or_false] at hp
    rcases hp with rfl | rfl
    · exact ⟨rfl, Nat.zero_le _⟩
    · exact ⟨h1, h2⟩
  refine ⟨?_, ?_⟩
  · rw [PyData.canLay0]; exact lay_all fun p hp => (hall p hp).1
  · rw [PyData.depth]
    have := depth_all (n := 2) fun p hp => (hall p hp).2
    omega
end DebtJ

set_option Elab.async false
set_option linter.all false
set_option maxRecDepth 100000
set_option maxHeartbeats 4000000
namespace DebtJ.Law
open PySem PySem.Spec PyProof.Rows L2 DebtJ
def b_law_many_by (ns : List Int) : SS :=
  (sSeq (sIf (tOf (eOp gEq (eOp gMod (eVar 0) (eC (.int 8))) (eC (.int 5)))) (sRet (eOp gAdd (eC (.int 1)) (eOp gMod (eOp gFdiv (eVar 0) (eC (.int 8))) (eC (.int 60))))) sNext)
    (sRet (eOp gAdd (eC (.int 1)) (eOp gMod (eOp gFdiv (eVar 0) (eC (.int 8))) (eC (.int 6))))))
def F_law_many_by (ns : List Int) : SF := mkF 1 1 (b_law_many_by ns)
def b_Post_init (ns : List Int) : SS :=
  (sFld 0 "rows" (eVar 0) (eLst aNil))
def F_Post_init (ns : List Int) : SF := mkF 1 1 (b_Post_init ns)
def b_Hand_init (ns : List Int) : SS :=
  (sSeq (sFld 2 "pieces" (eVar 0) (eC (.int 0)))
    (sSeq (sFld 2 "unanswered" (eVar 0) (eC (.int 0)))
    (sSeq (sFld 2 "waker" (eVar 0) (eC .non))
    (sFld 2 "tally" (eVar 0) (eC (.int 0))))))
def F_Hand_init (ns : List Int) : SF := mkF 1 1 (b_Hand_init ns)
def b_Company_init (ns : List Int) : SS :=
  (sSeq (sIf (tOr' (tOf (eOp gLt (eVar 1) (eC (.int 1)))) (tOf (eOp gGt (eVar 1) (eC (.int 60))))) (sRaise 11) sNext)
    (sSeq (sFld 1 "crew" (eVar 0) (eLc 2 (iRg1 (aCons (eVar 1) aNil)) tYes' (eMake 2 (F_Hand_init ns) aNil)))
    (sSeq (sFld 1 "post" (eVar 0) (eMake 0 (F_Post_init ns) aNil))
    (sSeq (sFld 1 "running" (eVar 0) (eC (.bl false)))
    (sFld 1 "spoken" (eVar 0) (eLst aNil))))))
def F_Company_init (ns : List Int) : SF := mkF 2 3 (b_Company_init ns)
def b_law_cell_at (ns : List Int) : SS :=
  (sSeq (sIf (tOf (eOp gLt (eVar 1) (eCB (gLen ns.length) (aCons (eVar 0) aNil)))) (sRet (eOp (gIx ns) (eVar 0) (eVar 1))) sNext)
    (sRet (eC (.int 0))))
def F_law_cell_at (ns : List Int) : SF := mkF 2 2 (b_law_cell_at ns)
def b_Company_tell (ns : List Int) : SS :=
  (sSeq (sExpr (eBM "list" gExtend (eFld 1 "spoken" (eVar 0)) (aCons (eVar 1) aNil)))
    (sRet (eVar 1)))
def F_Company_tell (ns : List Int) : SF := mkF 2 2 (b_Company_tell ns)
def b_Company_begin (ns : List Int) : SS :=
  (sSeq (sIf (tOf (eFld 1 "running" (eVar 0))) (sRaise 15) sNext)
    (sSeq (sIf (tOr' (tOf (eOp gLt (eVar 1) (eC (.int 1)))) (tOf (eOp gGt (eVar 1) (eC (.int 999999))))) (sRaise 13) sNext)
    (sSeq (sFld 1 "running" (eVar 0) (eC (.bl true)))
    (sSeq (sFld 2 "pieces" (eOp (gIx ns) (eFld 1 "crew" (eVar 0)) (eC (.int 0))) (eVar 1))
    (sRet (eMeth 1 "tell" (F_Company_tell ns) (eVar 0) (aCons (eLst (aCons (eTup (aCons (eC (.str "begun")) (aCons (eVar 1) aNil))) aNil)) aNil)))))))
def F_Company_begin (ns : List Int) : SF := mkF 2 2 (b_Company_begin ns)
def b_law_mixed (ns : List Int) : SS :=
  (sSeq (sAsg 2 (eC (.int 0)))
    (sSeq (sIf (tOf (eOp gGt (eCB (gLen ns.length) (aCons (eVar 0) aNil)) (eC (.int 0)))) (sAsg 2 (eOp (gIx ns) (eVar 0) (eOp gMod (eVar 1) (eCB (gLen ns.length) (aCons (eVar 0) aNil))))) sNext)
    (sSeq (sAsg 3 (eOp gMod (eOp gMul (eOp gAdd (eVar 2) (eOp gMul (eC (.int 7919)) (eVar 1))) (eC (.int 48271))) (eC (.int 2147483647))))
    (sRet (eOp gMod (eOp gAdd (eOp gMul (eVar 3) (eVar 3)) (eOp gMul (eC (.int 69621)) (eVar 1))) (eC (.int 2147483647)))))))
def F_law_mixed (ns : List Int) : SF := mkF 2 4 (b_law_mixed ns)
def b_Post_under (ns : List Int) : SS :=
  (sRet (eCB gList (aCons (eFld 0 "rows" (eVar 0)) aNil)))
def F_Post_under (ns : List Int) : SF := mkF 1 1 (b_Post_under ns)
def b_Company_under (ns : List Int) : SS :=
  (sRet (eMeth 0 "under" (F_Post_under ns) (eFld 1 "post" (eVar 0)) aNil))
def F_Company_under (ns : List Int) : SF := mkF 1 1 (b_Company_under ns)
def b_Hand_told (ns : List Int) : SS :=
  (sRet (eTup (aCons (eFld 2 "pieces" (eVar 0)) (aCons (eFld 2 "unanswered" (eVar 0)) (aCons (eFld 2 "waker" (eVar 0)) (aCons (eFld 2 "tally" (eVar 0)) aNil))))))
def F_Hand_told (ns : List Int) : SF := mkF 1 1 (b_Hand_told ns)
def b_Company_one (ns : List Int) : SS :=
  (sSeq (sIf (tOr' (tOf (eOp gLt (eVar 1) (eC (.int 0)))) (tOf (eOp gGe (eVar 1) (eCB (gLen ns.length) (aCons (eFld 1 "crew" (eVar 0)) aNil))))) (sRaise 12) sNext)
    (sRet (eOp (gIx ns) (eFld 1 "crew" (eVar 0)) (eVar 1))))
def F_Company_one (ns : List Int) : SF := mkF 2 2 (b_Company_one ns)
def b_Company_hand (ns : List Int) : SS :=
  (sRet (eMeth 2 "told" (F_Hand_told ns) (eMeth 1 "one" (F_Company_one ns) (eVar 0) (aCons (eVar 1) aNil)) aNil))
def F_Company_hand (ns : List Int) : SF := mkF 2 2 (b_Company_hand ns)
def b_law_next (ns : List Int) : SS :=
  (sSeq (sAsg 3 (eLc 6 (iRg1 (aCons (eVar 1) aNil)) (tOf (eOp gGt (eOp (gIx ns) (eMeth 1 "hand" (F_Company_hand ns) (eVar 0) (aCons (eVar 6) aNil)) (eC (.int 0))) (eC (.int 0)))) (eVar 6)))
    (sSeq (sAsg 4 (eMeth 1 "under" (F_Company_under ns) (eVar 0) aNil))
    (sSeq (sIf (tAnd' (tOf (eOp gGt (eCB (gLen ns.length) (aCons (eVar 3) aNil)) (eC (.int 0)))) (tOr' (tOf (eOp gLt (eOp gMod (eVar 2) (eC (.int 8))) (eC (.int 5)))) (tOf (eOp gEq (eCB (gLen ns.length) (aCons (eVar 4) aNil)) (eC (.int 0)))))) (sSeq (sAsg 5 (eOp (gIx ns) (eVar 3) (eOp gMod (eOp gFdiv (eVar 2) (eC (.int 8))) (eCB (gLen ns.length) (aCons (eVar 3) aNil)))))
    (sSeq (sIf (tOf (eOp gLt (eOp gMod (eVar 2) (eC (.int 8))) (eC (.int 2)))) (sRet (eTup (aCons (eC (.str "hand")) (aCons (eVar 5) (aCons (eOp gMod (eOp gFdiv (eVar 2) (eC (.int 97))) (eVar 1)) (aCons (eOp gAdd (eC (.int 1)) (eOp gMod (eOp gFdiv (eVar 2) (eC (.int 5))) (eOp (gIx ns) (eMeth 1 "hand" (F_Company_hand ns) (eVar 0) (aCons (eVar 5) aNil)) (eC (.int 0))))) aNil)))))) sNext)
    (sRet (eTup (aCons (eC (.str "do")) (aCons (eVar 5) aNil)))))) sNext)
    (sSeq (sIf (tOf (eOp gEq (eCB (gLen ns.length) (aCons (eVar 4) aNil)) (eC (.int 0)))) (sRet (eC .non)) sNext)
    (sRet (eTup (aCons (eC (.str "carry")) (aCons (eOp gMod (eOp gFdiv (eVar 2) (eC (.int 8))) (eCB (gLen ns.length) (aCons (eVar 4) aNil))) aNil))))))))
def F_law_next (ns : List Int) : SF := mkF 3 7 (b_law_next ns)
def b_Company_runs (ns : List Int) : SS :=
  (sRet (eFld 1 "running" (eVar 0)))
def F_Company_runs (ns : List Int) : SF := mkF 1 1 (b_Company_runs ns)
def b_is_in (ns : List Int) : SS :=
  (sSeq (sAsg 2 (eOp (gIx ns) (eMeth 1 "hand" (F_Company_hand ns) (eVar 0) (aCons (eVar 1) aNil)) (eC (.int 2))))
    (sRet (eOr (eOp gIsNot (eVar 2) (eC .non)) (eAnd (eOp gEq (eVar 1) (eC (.int 0))) (eMeth 1 "runs" (F_Company_runs ns) (eVar 0) aNil)))))
def F_is_in (ns : List Int) : SF := mkF 2 3 (b_is_in ns)
def b_way (ns : List Int) : SS :=
  (sSeq (sIf (tNot' (tOf (eCall (F_is_in ns) (aCons (eVar 0) (aCons (eVar 1) aNil))))) (sRet (eLst aNil)) sNext)
    (sSeq (sAsg 2 (eLst (aCons (eVar 1) aNil)))
    (sSeq (whS (tOf (eOp gNe (eOp (gIx ns) (eVar 2) (eNeg (eC (.int 1)))) (eC (.int 0)))) (sExpr (eBM "list" gAppend (eVar 2) (aCons (eOp (gIx ns) (eMeth 1 "hand" (F_Company_hand ns) (eVar 0) (aCons (eOp (gIx ns) (eVar 2) (eNeg (eC (.int 1)))) aNil)) (eC (.int 2))) aNil))) 200)
    (sRet (eVar 2)))))
def F_way (ns : List Int) : SF := mkF 2 3 (b_way ns)
def b_debts (ns : List Int) : SS :=
  (sSeq (sAsg 1 (eLst aNil))
    (sSeq (sFor 2 (iRg1 (aCons (eCB (gLen ns.length) (aCons (eFld 1 "crew" (eVar 0)) aNil)) aNil)) (sSeq (sAsg 3 (eOp (gIx ns) (eMeth 1 "hand" (F_Company_hand ns) (eVar 0) (aCons (eVar 2) aNil)) (eC (.int 2))))
    (sIf (tOf (eOp gIsNot (eVar 3) (eC .non))) (sExpr (eBM "list" gAppend (eVar 1) (aCons (eTup (aCons (eVar 2) (aCons (eVar 3) aNil))) aNil))) sNext)))
    (sRet (eVar 1))))
def F_debts (ns : List Int) : SF := mkF 1 4 (b_debts ns)
def b_law_whole (ns : List Int) : SS :=
  (sRet (eAnd (eIsi "int" (eVar 0)) (eNot (eIsi "bool" (eVar 0)))))
def F_law_whole (ns : List Int) : SF := mkF 1 1 (b_law_whole ns)
def b_law_alike (rec : SF) (ns : List Int) : SS :=
  (sSeq (sIf (tOf (eOp gIs (eVar 1) (eC .non))) (sRet (eOp gIs (eVar 0) (eC .non))) sNext)
    (sSeq (sIf (tOf (eIsi "str" (eVar 1))) (sRet (eAnd (eIsi "str" (eVar 0)) (eOp gEq (eVar 0) (eVar 1)))) sNext)
    (sSeq (sIf (tOf (eIsi "bool" (eVar 1))) (sRet (eAnd (eIsi "bool" (eVar 0)) (eOp gEq (eVar 0) (eVar 1)))) sNext)
    (sSeq (sIf (tOf (eIsi "int" (eVar 1))) (sRet (eAnd (eCall (F_law_whole ns) (aCons (eVar 0) aNil)) (eOp gEq (eVar 0) (eVar 1)))) sNext)
    (sSeq (sIf (tAnd' (tOf (eIsi "tuple" (eVar 1))) (tNot' (tOf (eIsi "tuple" (eVar 0))))) (sRet (eC (.bl false))) sNext)
    (sSeq (sIf (tAnd' (tOf (eIsi "list" (eVar 1))) (tNot' (tOf (eIsi "list" (eVar 0))))) (sRet (eC (.bl false))) sNext)
    (sSeq (sIf (tOf (eOp gNe (eCB (gLen ns.length) (aCons (eVar 0) aNil)) (eCB (gLen ns.length) (aCons (eVar 1) aNil)))) (sRet (eC (.bl false))) sNext)
    (sSeq (sFor 2 (iRg1 (aCons (eCB (gLen ns.length) (aCons (eVar 1) aNil)) aNil)) (sIf (tNot' (tOf (eCall rec (aCons (eOp (gIx ns) (eVar 0) (eVar 2)) (aCons (eOp (gIx ns) (eVar 1) (eVar 2)) aNil))))) (sRet (eC (.bl false))) sNext))
    (sRet (eC (.bl true)))))))))))
def F_law_alikeR (ns : List Int) : Nat → SF
  | 0 => fun _ _ => .no
  | k + 1 => mkF 2 3 (b_law_alike (F_law_alikeR ns k) ns)
def F_law_alike (ns : List Int) : SF := F_law_alikeR ns 5
def b_law_debts_good (ns : List Int) : SS :=
  (sSeq (sAsg 4 (eLc 6 (iRg1 (aCons (eVar 1) aNil)) (tOf (eOp gIsNot (eOp (gIx ns) (eVar 2) (eVar 6)) (eC .non))) (eTup (aCons (eVar 6) (aCons (eOp (gIx ns) (eVar 2) (eVar 6)) aNil)))))
    (sSeq (sAsg 5 (eCall (F_debts ns) (aCons (eVar 0) aNil)))
    (sSeq (sIf (tNot' (tOf (eCall (F_law_alike ns) (aCons (eVar 5) (aCons (eVar 4) aNil))))) (sRet (eC (.bl false))) sNext)
    (sSeq (sExpr (eBM "list" gAppend (eVar 3) (aCons (eLst (aCons (eVar 4) (aCons (eVar 5) aNil))) aNil)))
    (sSeq (sExpr (eBM "list" gAppend (eCall (F_debts ns) (aCons (eVar 0) aNil)) (aCons (eTup (aCons (eC (.int 0)) (aCons (eC (.int 0)) aNil))) aNil)))
    (sRet (eC (.bl true))))))))
def F_law_debts_good (ns : List Int) : SF := mkF 4 7 (b_law_debts_good ns)
def b_woken_by (ns : List Int) : SS :=
  (sSeq (sAsg 1 eDNew)
    (sSeq (sFor 2 (iRg1 (aCons (eCB (gLen ns.length) (aCons (eFld 1 "crew" (eVar 0)) aNil)) aNil)) (sIf (tOf (eCall (F_is_in ns) (aCons (eVar 0) (aCons (eVar 2) aNil)))) (sDPutJ (eVar 1) (eVar 2) (eLc 3 (iLst (eCall (F_debts ns) (aCons (eVar 0) aNil))) (tOf (eOp gEq (eOp (gIx ns) (eVar 3) (eC (.int 1))) (eVar 2))) (eOp (gIx ns) (eVar 3) (eC (.int 0))))) sNext))
    (sRet (eVar 1))))
def F_woken_by (ns : List Int) : SF := mkF 1 4 (b_woken_by ns)
def b_law_woken_due (ns : List Int) : SS :=
  (sSeq (sAsg 3 (eLst aNil))
    (sSeq (sFor 4 (iRg1 (aCons (eVar 1) aNil)) (sIf (tOr' (tOf (eOp gIsNot (eOp (gIx ns) (eVar 2) (eVar 4)) (eC .non))) (tAnd' (tOf (eOp gEq (eVar 4) (eC (.int 0)))) (tOf (eMeth 1 "runs" (F_Company_runs ns) (eVar 0) aNil)))) (sExpr (eBM "list" gAppend (eVar 3) (aCons (eTup (aCons (eVar 4) (aCons (eLc 5 (iRg1 (aCons (eVar 1) aNil)) (tOf (eOp gEq (eOp (gIx ns) (eVar 2) (eVar 5)) (eVar 4))) (eVar 5)) aNil))) aNil))) sNext))
    (sRet (eVar 3))))
def F_law_woken_due (ns : List Int) : SF := mkF 3 6 (b_law_woken_due ns)
def b_law_woken_good (ns : List Int) : SS :=
  (sSeq (sAsg 4 (eCall (F_woken_by ns) (aCons (eVar 0) aNil)))
    (sSeq (sIf (tOr' (tNot' (tOf (eIsi "dict" (eVar 4)))) (tNot' (tOf (eCall (F_law_alike ns) (aCons (eItems (eVar 4)) (aCons (eCall (F_law_woken_due ns) (aCons (eVar 0) (aCons (eVar 1) (aCons (eVar 2) aNil)))) aNil)))))) (sRet (eC (.bl false))) sNext)
    (sSeq (sExpr (eBM "list" gAppend (eVar 3) (aCons (eLst (aCons (lockE 4 (eLc 6 (iKeysJ (eVar 4)) tYes' (eTup (aCons (eVar 6) (aCons (eCB gList (aCons (eDGetR (eVar 4) (eVar 6)) aNil)) aNil))))) (aCons (eVar 4) aNil))) aNil)))
    (sSeq (sAsg 5 (eCall (F_woken_by ns) (aCons (eVar 0) aNil)))
    (sSeq (lockS 5 (sFor 6 (iKeysJ (eVar 5)) (sExpr (eBM "list" gAppend (eDGetR (eVar 5) (eVar 6)) (aCons (eVar 6) aNil)))))
    (sRet (eC (.bl true))))))))
def F_law_woken_good (ns : List Int) : SF := mkF 4 7 (b_law_woken_good ns)
def b_law_way_good (ns : List Int) : SS :=
  (sSeq (sAsg 4 (eCall (F_way ns) (aCons (eVar 0) (aCons (eVar 3) aNil))))
    (sSeq (sIf (tAnd' (tOf (eOp gIs (eOp (gIx ns) (eVar 2) (eVar 3)) (eC .non))) (tOr' (tOf (eOp gGt (eVar 3) (eC (.int 0)))) (tNot' (tOf (eMeth 1 "runs" (F_Company_runs ns) (eVar 0) aNil))))) (sRet (eCall (F_law_alike ns) (aCons (eVar 4) (aCons (eLst aNil) aNil)))) sNext)
    (sSeq (sIf (tOr' (tNot' (tOf (eIsi "list" (eVar 4)))) (tOr' (tOf (eOp gLt (eCB (gLen ns.length) (aCons (eVar 4) aNil)) (eC (.int 1)))) (tOr' (tOf (eOp gGt (eCB (gLen ns.length) (aCons (eVar 4) aNil)) (eVar 1))) (tOf (eOp gNe (eLenSet (eVar 4)) (eCB (gLen ns.length) (aCons (eVar 4) aNil))))))) (sRet (eC (.bl false))) sNext)
    (sSeq (sIf (tOr' (tNot' (tOf (eCall (F_law_whole ns) (aCons (eOp (gIx ns) (eVar 4) (eC (.int 0))) aNil)))) (tOr' (tOf (eOp gNe (eOp (gIx ns) (eVar 4) (eC (.int 0))) (eVar 3))) (tOf (eOp gNe (eOp (gIx ns) (eVar 4) (eNeg (eC (.int 1)))) (eC (.int 0)))))) (sRet (eC (.bl false))) sNext)
    (sSeq (sFor 5 (iRg2 (aCons (eC (.int 1)) (aCons (eCB (gLen ns.length) (aCons (eVar 4) aNil)) aNil))) (sIf (tOr' (tNot' (tOf (eCall (F_law_whole ns) (aCons (eOp (gIx ns) (eVar 4) (eVar 5)) aNil)))) (tOf (eOp gNe (eOp (gIx ns) (eVar 2) (eOp (gIx ns) (eVar 4) (eOp gSub (eVar 5) (eC (.int 1))))) (eOp (gIx ns) (eVar 4) (eVar 5))))) (sRet (eC (.bl false))) sNext))
    (sRet (eOp gIs (eOp (gIx ns) (eVar 2) (eC (.int 0))) (eC .non))))))))
def F_law_way_good (ns : List Int) : SF := mkF 4 6 (b_law_way_good ns)
def b_law_good (ns : List Int) : SS :=
  (sSeq (sAsg 5 (eLst aNil))
    (sSeq (sIf (tOf (eOp gEq (eOp gMod (eOp gFdiv (eVar 2) (eC (.int 2))) (eC (.int 2))) (eC (.int 0)))) (sSeq (sAsg 5 (eCall (F_way ns) (aCons (eVar 0) (aCons (eOp gMod (eOp gFdiv (eVar 2) (eC (.int 4))) (eVar 1)) aNil))))
    (sAsg 5 (eLst (aCons (eVar 5) (aCons (eCB gList (aCons (eVar 5) aNil)) (aCons (eOp gMod (eOp gFdiv (eVar 2) (eC (.int 4))) (eVar 1)) aNil)))))) sNext)
    (sSeq (sAsg 6 (eLc 7 (iRg1 (aCons (eVar 1) aNil)) tYes' (eOp (gIx ns) (eMeth 1 "hand" (F_Company_hand ns) (eVar 0) (aCons (eVar 7) aNil)) (eC (.int 2)))))
    (sSeq (sIf (tAnd' (tOf (eOp gNe (eVar 5) (eLst aNil))) (tOr' (tOf (eOp gNe (eOp (gIx ns) (eVar 5) (eC (.int 0))) (eCall (F_way ns) (aCons (eVar 0) (aCons (eOp (gIx ns) (eVar 5) (eC (.int 2))) aNil))))) (tOf (eOp gNe (eOp (gIx ns) (eVar 5) (eC (.int 0))) (eOp (gIx ns) (eVar 5) (eC (.int 1))))))) (sRet (eC (.bl false))) sNext)
    (sSeq (sIf (tAnd' (tOf (eOp gEq (eOp gMod (eVar 2) (eC (.int 2))) (eC (.int 0)))) (tNot' (tOf (eCall (F_law_woken_good ns) (aCons (eVar 0) (aCons (eVar 1) (aCons (eVar 6) (aCons (eVar 4) aNil)))))))) (sRet (eC (.bl false))) sNext)
    (sSeq (sIf (tNot' (tOf (eCall (F_law_debts_good ns) (aCons (eVar 0) (aCons (eVar 1) (aCons (eVar 6) (aCons (eVar 3) aNil))))))) (sRet (eC (.bl false))) sNext)
    (sSeq (sFor 7 (iRg1 (aCons (eVar 1) aNil)) (sSeq (sAsg 8 (eMeth 1 "hand" (F_Company_hand ns) (eVar 0) (aCons (eVar 7) aNil)))
    (sSeq (sIf (tAnd' (tOf (eOp gIs (eOp (gIx ns) (eVar 6) (eVar 7)) (eC .non))) (tAnd' (tOf (eOp gNe (eVar 8) (eTup (aCons (eC (.int 0)) (aCons (eC (.int 0)) (aCons (eC .non) (aCons (eC (.int 0)) aNil))))))) (tOr' (tOf (eOp gGt (eVar 7) (eC (.int 0)))) (tNot' (tOf (eMeth 1 "runs" (F_Company_runs ns) (eVar 0) aNil)))))) (sRet (eC (.bl false))) sNext)
    (sIf (tAnd' (tOr' (tOf (eOp gLt (eVar 1) (eC (.int 9)))) (tOf (eOp gEq (eOp gMod (eVar 7) (eC (.int 7))) (eOp gMod (eVar 2) (eC (.int 7)))))) (tNot' (tOf (eCall (F_law_way_good ns) (aCons (eVar 0) (aCons (eVar 1) (aCons (eVar 6) (aCons (eVar 7) aNil)))))))) (sRet (eC (.bl false))) sNext))))
    (sRet (eOr (eOp gEq (eOp gMod (eVar 2) (eC (.int 2))) (eC (.int 0))) (eCall (F_law_woken_good ns) (aCons (eVar 0) (aCons (eVar 1) (aCons (eVar 6) (aCons (eVar 4) aNil))))))))))))))
def F_law_good (ns : List Int) : SF := mkF 5 9 (b_law_good ns)
def b_law_pieces_by (ns : List Int) : SS :=
  (sSeq (sIf (tOf (eOp gEq (eOp gMod (eVar 0) (eC (.int 8))) (eC (.int 3)))) (sRet (eOp gAdd (eC (.int 1)) (eOp gMod (eOp gFdiv (eVar 0) (eC (.int 8))) (eC (.int 999999))))) sNext)
    (sSeq (sIf (tOf (eOp gEq (eOp gMod (eVar 0) (eC (.int 8))) (eC (.int 5)))) (sRet (eOp gAdd (eC (.int 1)) (eOp gMod (eOp gFdiv (eVar 0) (eC (.int 8))) (eC (.int 60))))) sNext)
    (sRet (eOp gAdd (eC (.int 1)) (eOp gMod (eOp gFdiv (eVar 0) (eC (.int 8))) (eC (.int 5)))))))
def F_law_pieces_by (ns : List Int) : SF := mkF 1 1 (b_law_pieces_by ns)
def b_Post_take (ns : List Int) : SS :=
  (sSeq (sIf (tOr' (tOf (eOp gLt (eVar 1) (eC (.int 0)))) (tOf (eOp gGe (eVar 1) (eCB (gLen ns.length) (aCons (eFld 0 "rows" (eVar 0)) aNil))))) (sRaise 14) sNext)
    (sRet (eBM "list" gPopAt (eFld 0 "rows" (eVar 0)) (aCons (eVar 1) aNil))))
def F_Post_take (ns : List Int) : SF := mkF 2 2 (b_Post_take ns)
def b_Hand_leave (ns : List Int) : SS :=
  (sSeq (sAsg 1 (eTup (aCons (eFld 2 "tally" (eVar 0)) (aCons (eFld 2 "waker" (eVar 0)) aNil))))
    (sSeq (sFld 2 "tally" (eVar 0) (eC (.int 0)))
    (sSeq (sFld 2 "waker" (eVar 0) (eC .non))
    (sRet (eVar 1)))))
def F_Hand_leave (ns : List Int) : SF := mkF 1 2 (b_Hand_leave ns)
def b_Hand_is_free (ns : List Int) : SS :=
  (sRet (eAnd (eOp gEq (eFld 2 "pieces" (eVar 0)) (eC (.int 0))) (eOp gEq (eFld 2 "unanswered" (eVar 0)) (eC (.int 0)))))
def F_Hand_is_free (ns : List Int) : SF := mkF 1 1 (b_Hand_is_free ns)
def b_Post_put (ns : List Int) : SS :=
  (sExpr (eBM "list" gAppend (eFld 0 "rows" (eVar 0)) (aCons (eVar 1) aNil)))
def F_Post_put (ns : List Int) : SF := mkF 2 2 (b_Post_put ns)
def b_Company_sent (ns : List Int) : SS :=
  (sSeq (sExpr (eMeth 0 "put" (F_Post_put ns) (eFld 1 "post" (eVar 0)) (aCons (eVar 1) aNil)))
    (sRet (eVar 1)))
def F_Company_sent (ns : List Int) : SF := mkF 2 2 (b_Company_sent ns)
def b_Company_freed (ns : List Int) : SS :=
  (sSeq (sAsg 2 (eOp (gIx ns) (eFld 1 "crew" (eVar 0)) (eVar 1)))
    (sSeq (sIf (tNot' (tOf (eMeth 2 "is_free" (F_Hand_is_free ns) (eVar 2) aNil))) (sRet (eLst aNil)) sNext)
    (sSeq (sAsg2 3 4 (eMeth 2 "leave" (F_Hand_leave ns) (eVar 2) aNil))
    (sSeq (sIf (tOf (eOp gEq (eVar 1) (eC (.int 0)))) (sSeq (sFld 1 "running" (eVar 0) (eC (.bl false)))
    (sRet (eLst (aCons (eTup (aCons (eC (.str "end")) (aCons (eVar 3) aNil))) aNil)))) sNext)
    (sRet (eLst (aCons (eMeth 1 "sent" (F_Company_sent ns) (eVar 0) (aCons (eTup (aCons (eC (.str "answer")) (aCons (eVar 1) (aCons (eVar 4) (aCons (eVar 3) aNil))))) aNil)) aNil)))))))
def F_Company_freed (ns : List Int) : SF := mkF 2 5 (b_Company_freed ns)
def b_Company_woken (ns : List Int) : SS :=
  (sSeq (sAsg 4 (eOp (gIx ns) (eFld 1 "crew" (eVar 0)) (eVar 2)))
    (sSeq (sFld 2 "pieces" (eVar 4) (eOp gAdd (eFld 2 "pieces" (eVar 4)) (eVar 3)))
    (sSeq (sIf (tOr' (tOf (eOp gEq (eVar 2) (eC (.int 0)))) (tOf (eOp gIsNot (eFld 2 "waker" (eVar 4)) (eC .non)))) (sRet (eMeth 1 "sent" (F_Company_sent ns) (eVar 0) (aCons (eTup (aCons (eC (.str "answer")) (aCons (eVar 2) (aCons (eVar 1) (aCons (eC (.int 0)) aNil))))) aNil))) sNext)
    (sSeq (sFld 2 "waker" (eVar 4) (eVar 1))
    (sRet (eTup (aCons (eC (.str "woken")) (aCons (eVar 2) (aCons (eVar 1) aNil)))))))))
def F_Company_woken (ns : List Int) : SF := mkF 4 5 (b_Company_woken ns)
def b_Company_carry (ns : List Int) : SS :=
  (sSeq (sAsg 2 (eMeth 0 "take" (F_Post_take ns) (eFld 1 "post" (eVar 0)) (aCons (eVar 1) aNil)))
    (sSeq (sIf (tOf (eOp gEq (eOp (gIx ns) (eVar 2) (eC (.int 0))) (eC (.str "letter")))) (sRet (eMeth 1 "tell" (F_Company_tell ns) (eVar 0) (aCons (eLst (aCons (eMeth 1 "woken" (F_Company_woken ns) (eVar 0) (aCons (eOp (gIx ns) (eVar 2) (eC (.int 1))) (aCons (eOp (gIx ns) (eVar 2) (eC (.int 2))) (aCons (eOp (gIx ns) (eVar 2) (eC (.int 3))) aNil)))) aNil)) aNil))) sNext)
    (sSeq (sAsg 3 (eOp (gIx ns) (eFld 1 "crew" (eVar 0)) (eOp (gIx ns) (eVar 2) (eC (.int 2)))))
    (sSeq (sFld 2 "unanswered" (eVar 3) (eOp gSub (eFld 2 "unanswered" (eVar 3)) (eC (.int 1))))
    (sSeq (sFld 2 "tally" (eVar 3) (eOp gAdd (eFld 2 "tally" (eVar 3)) (eOp (gIx ns) (eVar 2) (eC (.int 3)))))
    (sRet (eMeth 1 "tell" (F_Company_tell ns) (eVar 0) (aCons (eMeth 1 "freed" (F_Company_freed ns) (eVar 0) (aCons (eOp (gIx ns) (eVar 2) (eC (.int 2))) aNil)) aNil))))))))
def F_Company_carry (ns : List Int) : SF := mkF 2 4 (b_Company_carry ns)
def b_Company_hand_on (ns : List Int) : SS :=
  (sSeq (sAsg 4 (eMeth 1 "one" (F_Company_one ns) (eVar 0) (aCons (eVar 1) aNil)))
    (sSeq (sExpr (eMeth 1 "one" (F_Company_one ns) (eVar 0) (aCons (eVar 2) aNil)))
    (sSeq (sIf (tOr' (tOf (eOp gLt (eVar 3) (eC (.int 1)))) (tOf (eOp gGt (eVar 3) (eFld 2 "pieces" (eVar 4))))) (sRaise 13) sNext)
    (sSeq (sFld 2 "pieces" (eVar 4) (eOp gSub (eFld 2 "pieces" (eVar 4)) (eVar 3)))
    (sSeq (sFld 2 "unanswered" (eVar 4) (eOp gAdd (eFld 2 "unanswered" (eVar 4)) (eC (.int 1))))
    (sRet (eMeth 1 "tell" (F_Company_tell ns) (eVar 0) (aCons (eLst (aCons (eMeth 1 "sent" (F_Company_sent ns) (eVar 0) (aCons (eTup (aCons (eC (.str "letter")) (aCons (eVar 1) (aCons (eVar 2) (aCons (eVar 3) aNil))))) aNil)) aNil)) aNil))))))))
def F_Company_hand_on (ns : List Int) : SF := mkF 4 5 (b_Company_hand_on ns)
def b_Company_do (ns : List Int) : SS :=
  (sSeq (sAsg 2 (eMeth 1 "one" (F_Company_one ns) (eVar 0) (aCons (eVar 1) aNil)))
    (sSeq (sIf (tOf (eOp gLt (eFld 2 "pieces" (eVar 2)) (eC (.int 1)))) (sRaise 13) sNext)
    (sSeq (sFld 2 "pieces" (eVar 2) (eOp gSub (eFld 2 "pieces" (eVar 2)) (eC (.int 1))))
    (sSeq (sFld 2 "tally" (eVar 2) (eOp gAdd (eFld 2 "tally" (eVar 2)) (eC (.int 1))))
    (sRet (eMeth 1 "tell" (F_Company_tell ns) (eVar 0) (aCons (eMeth 1 "freed" (F_Company_freed ns) (eVar 0) (aCons (eVar 1) aNil)) aNil)))))))
def F_Company_do (ns : List Int) : SF := mkF 2 3 (b_Company_do ns)
def b_law_done (ns : List Int) : SS :=
  (sSeq (sIf (tOf (eOp gEq (eOp (gIx ns) (eVar 1) (eC (.int 0))) (eC (.str "hand")))) (sRet (eMeth 1 "hand_on" (F_Company_hand_on ns) (eVar 0) (aCons (eOp (gIx ns) (eVar 1) (eC (.int 1))) (aCons (eOp (gIx ns) (eVar 1) (eC (.int 2))) (aCons (eOp (gIx ns) (eVar 1) (eC (.int 3))) aNil))))) sNext)
    (sSeq (sIf (tOf (eOp gEq (eOp (gIx ns) (eVar 1) (eC (.int 0))) (eC (.str "do")))) (sRet (eMeth 1 "do" (F_Company_do ns) (eVar 0) (aCons (eOp (gIx ns) (eVar 1) (eC (.int 1))) aNil))) sNext)
    (sRet (eMeth 1 "carry" (F_Company_carry ns) (eVar 0) (aCons (eOp (gIx ns) (eVar 1) (eC (.int 1))) aNil)))))
def F_law_done (ns : List Int) : SF := mkF 2 2 (b_law_done ns)
def b_law (ns : List Int) : SS :=
  (sSeq (sAsg 1 (eCall (F_law_many_by ns) (aCons (eCall (F_law_cell_at ns) (aCons (eVar 0) (aCons (eC (.int 0)) aNil))) aNil)))
    (sSeq (sAsg 2 (eMake 1 (F_Company_init ns) (aCons (eVar 1) aNil)))
    (sSeq (sIf (tOf (eOp gNe (eOp gMod (eCall (F_law_cell_at ns) (aCons (eVar 0) (aCons (eC (.int 1)) aNil))) (eC (.int 8))) (eC (.int 0)))) (sExpr (eMeth 1 "begin" (F_Company_begin ns) (eVar 2) (aCons (eCall (F_law_pieces_by ns) (aCons (eOp gFdiv (eCall (F_law_cell_at ns) (aCons (eVar 0) (aCons (eC (.int 1)) aNil))) (eC (.int 8))) aNil)) aNil))) sNext)
    (sSeq (sAsg 3 (eLst aNil))
    (sSeq (sAsg 4 (eLst aNil))
    (sSeq (sFor 5 (iRg1 (aCons (eOp gMod (eCall (F_law_cell_at ns) (aCons (eVar 0) (aCons (eC (.int 2)) aNil))) (eC (.int 91))) aNil)) (sSeq (sAsg 7 (eCall (F_law_mixed ns) (aCons (eVar 0) (aCons (eOp gAdd (eC (.int 3)) (eVar 5)) aNil))))
    (sSeq (sAsg 8 (eCall (F_law_next ns) (aCons (eVar 2) (aCons (eVar 1) (aCons (eVar 7) aNil)))))
    (sSeq (sIf (tOf (eOp gIsNot (eVar 8) (eC .non))) (sExpr (eCall (F_law_done ns) (aCons (eVar 2) (aCons (eVar 8) aNil)))) sNext)
    (sIf (tAnd' (tOf (eOp gEq (eOp gMod (eOp gFdiv (eVar 7) (eC (.int 11))) (eOp gAdd (eC (.int 3)) (eOp gFdiv (eVar 1) (eC (.int 2))))) (eC (.int 0)))) (tNot' (tOf (eCall (F_law_good ns) (aCons (eVar 2) (aCons (eVar 1) (aCons (eOp gFdiv (eVar 7) (eC (.int 13))) (aCons (eVar 3) (aCons (eVar 4) aNil))))))))) (sRet (eC (.bl false))) sNext)))))
    (sSeq (sFor 6 (iLst (eVar 4)) (sIf (tOf (eOp gNe (eOp (gIx ns) (eVar 6) (eC (.int 0))) (eItems (eOp (gIx ns) (eVar 6) (eC (.int 1)))))) (sRet (eC (.bl false))) sNext))
    (sRet (eAnd (eCall (F_law_good ns) (aCons (eVar 2) (aCons (eVar 1) (aCons (eCB (gLen ns.length) (aCons (eVar 0) aNil)) (aCons (eVar 3) (aCons (eVar 4) aNil)))))) (eCB gAll (aCons (eLc 6 (iLst (eVar 3)) tYes' (eOp gEq (eOp (gIx ns) (eVar 6) (eC (.int 0))) (eOp (gIx ns) (eVar 6) (eC (.int 1))))) aNil)))))))))))
def F_law (ns : List Int) : SF := mkF 1 9 (b_law ns)
end DebtJ.Law

set_option Elab.async false
set_option linter.all false
set_option maxRecDepth 100000
set_option maxHeartbeats 1000000
namespace DebtJ.Law
open PySem L2 DebtJ
local macro_rules | `(tactic| walk_at "jr") => `(tactic| simp only [Ok_mkF, Ok_mkE, Ok_kin, Ok_mkH, St_sNo, Ok_eNo, Ok_ok, Ok_exc, Ok_no, Ok_bind, Ok_ite, Ok_some, Ok_none, St_nx, St_rt, St_exc, St_no, St_ite, St_toS, St_seq, St_next, St_expr, St_ret, St_retN, St_raise, St_if, St_asg, St_for, St_try, St_tryC, St_tryN, St_tryAs, Ok_var, Ok_c, Ok_op, Ok_tof, Ok_tand, Ok_tor, Ok_tnot, Ok_tyes, Ok_and, Ok_or, Ok_not, Ok_neg, Ok_nil, Ok_cons, Ok_tup, Ok_lst, Ok_call, Ok_meth, Ok_make, Ok_fld, Ok_sl, Ok_ono, Ok_osome, Ok_cb, Ok_bm, Ok_isi, Ok_rg1, Ok_rg2, Ok_ilst, Ok_itp, Ok_lstRg1, Ok_lstRg2, Ok_lc, St_fld, St_sub, St_asg2, k_addI, k_addS, k_sub, k_mulI, k_mod, k_fdiv, k_pow, k_lt, k_le, k_gt, k_ge, k_eqI, k_eqS, k_eqB, k_eqNI, k_eqSI, k_neI, k_neS, k_neB, k_neNI, k_eqR, k_eqT, k_neR, k_neT, k_isN, k_isB, k_isNotN, k_isNotB, k_ixL, k_ixT, k_ixC, k_lenL, k_lenT, k_lenC, k_lenS, k_intI, k_intB, k_max, k_min, k_listL, k_listT, k_tuple, k_append, k_reverse, k_slL, k_clear, List.map_cons, List.map_nil, List.length_cons, List.length_nil, List.replicate, Nat.reduceSub, Nat.reduceAdd, List.cons_append, List.nil_append, List.append_nil, List.getElem?_cons_succ, List.getElem?_cons_zero, List.getElem?_nil, List.set_cons_succ, List.set_cons_zero, if_true, if_false, Bool.false_eq_true, true_and, small_eq, Nat.reduceLeDiff, lget_new, lget_c0, isN_non, isN_bl, isN_int, isN_str, isN_tup, isN_ref, ty_non, ty_bl, ty_int, ty_str, ty_tup, kb_NoneType_int, kb_NoneType_bool, kb_NoneType_str, kb_NoneType_list, kb_NoneType_tuple, kb_bool_int, kb_bool_bool, kb_bool_str, kb_bool_list, kb_bool_tuple, kb_int_int, kb_int_bool, kb_int_str, kb_int_list, kb_int_tuple, kb_str_int, kb_str_bool, kb_str_str, kb_str_list, kb_str_tuple, kb_tuple_int, kb_tuple_bool, kb_tuple_str, kb_tuple_list, kb_tuple_tuple, kb_list_int, kb_list_bool, kb_list_str, kb_list_list, kb_list_tuple, kb_dict_int, kb_dict_bool, kb_dict_str, kb_dict_list, kb_dict_tuple, lget_cs, lstO, smallI_eq, Int.reduceEq,  decide_true, decide_false, Int.reduceLT, Int.reduceLE, Int.reduceNeg, Nat.reduceLT, and_self, and_true, Option.bind_some, atI_two, atI_c0, atI_c1, atI_c2, atI_c3, decide_eq_true_eq, Int.reduceToNat, nat10, Int.reducePow, or_true, true_or, Bool.not_true, Bool.not_false, Ok_dnew, Ok_items, Ok_lenSet, Ok_dgetR, St_dput, Ok_keysJ, kb_dict_dict])
section
variable {S0 S S' : Store} {n : Nat} {c : Co} {E : Nat → Store → Prop} {Q : D → Store → Prop}
theorem post_init (ns : List Int) {p : Nat} (h : S[p]? = some (.ins 0 [])) (q : Q .non ((S ++ [O.lst []]).set p (.ins 0 [("rows", .ref S.length)]))) : Ok E (F_Post_init ns [.ref p] S) Q := by
  unfold F_Post_init b_Post_init
  walk_at "jr"
  rw [fset_of (at_app h) (by decide)]
  exact q
theorem hand_init (ns : List Int) {p : Nat} (h : S[p]? = some (.ins 2 [])) (q : Q .non (S.set p (handO ⟨0, 0, .non, 0⟩))) : Ok E (F_Hand_init ns [.ref p] S) Q := by
  unfold F_Hand_init b_Hand_init
  walk_at "jr"
  rw [fset_of h (by decide)]
  simp only
  rw [fset_of (at_set_eq h) (by decide)]
  simp only [List.set_set]
  rw [fset_of (at_set_eq h) (by decide)]
  simp only [List.set_set]
  rw [fset_of (at_set_eq h) (by decide)]
  simp only [List.set_set]
  exact q
theorem co_init (ns : List Int) {m : Nat} (hm : 1 ≤ m ∧ m ≤ 60) (q : ∀ S', CoAt S' S.length ⟨m, fun _ => ⟨0, 0, .non, 0⟩, [], false, []⟩ → Keep S.length m (S ++ [.ins 1 []]) S' → Q .non S') : Ok E (F_Company_init ns [.ref S.length, .int m] (S ++ [.ins 1 []])) Q := by
  unfold F_Company_init b_Company_init
  walk_at "jr"
  rw [if_neg (by omega), if_neg (by omega)]
  refine ⟨by omega, ?_⟩
  have key : ∀ {o : Option Store} {P Q : Store → Prop}, (match o with
      | some S => P S
      | none => False) → (∀ S, P S → Q S) → match o with
      | some S => Q S
      | none => False := by
    intro o P Q h q
    cases o with
    | none => exact h
    | some S => exact q S h
  have hl : (S ++ [O.ins 1 []]).length = S.length + 1 := by simp
  refine key (P := fun T => T = S ++ O.ins 1 [] :: O.lst ((List.range m).map fun j => D.ref (S.length + 2 + j)) :: List.replicate m (handO ⟨0, 0, .non, 0⟩)) (lc_inv (t := rgI 0 (m : Int).toNat) (fun i acc T => acc = ((List.range i).map fun j => D.ref (S.length + 2 + j)) ∧ T = S ++ O.ins 1 [] :: O.lst acc :: List.replicate i (handO ⟨0, 0, .non, 0⟩)) ?_ ?_ ?_ ?_ _ 0 [] _ (Nat.zero_add _) ⟨rfl, by simp⟩) ?_
  · rintro i acc T ⟨rfl, rfl⟩
    rw [hl]
    refine ⟨?_, by simp⟩
    unfold lget
    rw [List.getElem?_append_right (by omega)]
    simp
  · show (m : Int).toNat < 16777216
    omega
  · rintro i acc T hi ⟨rfl, rfl⟩
    refine ⟨.int (0 + i), rfl, ?_⟩
    walk_at "jr"
    refine hand_init ns (by simp) ?_
    have e1 : (S ++ O.ins 1 [] :: O.lst ((List.range i).map fun j => D.ref (S.length + 2 + j)) :: List.replicate i (handO ⟨0, 0, .non, 0⟩)).length = S.length + 2 + i := by simp; omega
    rw [e1]
    have e2 : ((S ++ O.ins 1 [] :: O.lst ((List.range i).map fun j => D.ref (S.length + 2 + j)) :: List.replicate i (handO ⟨0, 0, .non, 0⟩)) ++ [O.ins 2 []]).set (S.length + 2 + i) (handO ⟨0, 0, .non, 0⟩) = S ++ O.ins 1 [] :: O.lst ((List.range i).map fun j => D.ref (S.length + 2 + j)) :: List.replicate (i + 1) (handO ⟨0, 0, .non, 0⟩) := by
      rw [← e1, set_new, List.append_assoc, List.replicate_succ']
      rfl
    rw [e2, hl]
    refine ⟨?_, ?_, ?_⟩
    · unfold lget
      rw [List.getElem?_append_right (by omega)]
      simp
    · rw [List.range_succ]
      simp
    · rw [List.set_append_right _ _ (by omega)]
      simp [List.replicate_succ]
  · rintro acc T ⟨rfl, rfl⟩
    exact ⟨rfl, by simp [rgI]⟩
  · rintro T rfl
    have h1 : (S ++ O.ins 1 [] :: O.lst ((List.range m).map fun j => D.ref (S.length + 2 + j)) :: List.replicate m (handO ⟨0, 0, .non, 0⟩))[S.length]? = some (.ins 1 []) := by
      rw [List.getElem?_append_right (by omega)]
      simp
    rw [fset_of h1 (by decide)]
    have hset : ∀ (x y : O) (B : Store), (S ++ x :: B).set S.length y = S ++ y :: B := by intro x y B; simp
    have hget : ∀ (x : O) (B : Store), (S ++ x :: B)[S.length]? = some x := by intro x B; simp
    have hfs : ∀ (fs : List (Str × D)) (B : Store) (f : Str) (d : D), fs.length < 1000 → fset (S ++ O.ins 1 fs :: B) S.length 1 f d = some (S ++ O.ins 1 (putD f d fs) :: B) := by
      intro fs B f d hl
      rw [fset_of (hget _ _) hl, hset]
    have happ : ∀ (x : O) (B C : Store), (S ++ x :: B) ++ C = S ++ x :: (B ++ C) := by intro x B C; simp
    have hB : (O.lst ((List.range m).map fun j => D.ref (S.length + 2 + j)) :: List.replicate m (handO ⟨0, 0, .non, 0⟩)).length = m + 1 := by simp
    have hB0 : (O.lst ((List.range m).map fun j => D.ref (S.length + 2 + j)) :: List.replicate m (handO ⟨0, 0, .non, 0⟩))[0]? = some (O.lst ((List.range m).map fun j => D.ref (S.length + 2 + j))) := rfl
    have hB1 : ∀ i, i < m → (O.lst ((List.range m).map fun j => D.ref (S.length + 2 + j)) :: List.replicate m (handO ⟨0, 0, .non, 0⟩))[i + 1]? = some (handO ⟨0, 0, .non, 0⟩) := by
      intro i hi
      rw [List.getElem?_cons_succ, List.getElem?_replicate, if_pos hi]
    generalize (O.lst ((List.range m).map fun j => D.ref (S.length + 2 + j)) :: List.replicate m (handO ⟨0, 0, .non, 0⟩)) = B at hB hB0 hB1
    rw [hset]
    have hlen : ∀ (x : O) (C : Store), (S ++ x :: (B ++ C)).length = S.length + 2 + m + C.length := by intro x C; simp [hB]; omega
    have hlen0 : ∀ (x : O), (S ++ x :: B).length = S.length + 2 + m := by intro x; simp [hB]; omega
    walk_at "jr"
    rw [hlen0, happ]
    refine post_init ns (by rw [List.getElem?_append_right (by omega), show S.length + 2 + m - S.length = (m + 1) + 1 by omega, List.getElem?_cons_succ, List.getElem?_append_right (by omega)]; simp [hB]) ?_
    rw [hlen, happ]
    have e3 : ∀ (x : O) (C : Store) (y z : O), (S ++ x :: (B ++ [y] ++ C)).set (S.length + 2 + m) z = S ++ x :: (B ++ ([z] ++ C)) := by
      intro x C y z
      rw [List.set_append_right _ _ (by omega), show S.length + 2 + m - S.length = (m + 1) + 1 by omega, List.set_cons_succ, List.append_assoc, List.set_append_right _ _ (by omega), hB]
      simp
    rw [e3]
    walk_at "jr"
    rw [hfs]
    rotate_left
    · show 1 < 1000
      decide
    walk_at "jr"
    rw [hfs]
    rotate_left
    · show 2 < 1000
      decide
    walk_at "jr"
    rw [happ, hfs]
    rotate_left
    · show 3 < 1000
      decide
    have hh : ∀ (x : O) (C : Store) (k : Nat) (o : O), C[k]? = some o → (S ++ x :: (B ++ C))[S.length + 2 + m + k]? = some o := by
      intro x C k o h
      rw [List.getElem?_append_right (by omega), show S.length + 2 + m + k - S.length = (m + 1 + k) + 1 by omega, List.getElem?_cons_succ, List.getElem?_append_right (by omega), hB, show m + 1 + k - (m + 1) = k by omega]
      exact h
    have hb : ∀ (x : O) (C : Store) (k : Nat) (o : O), B[k]? = some o → (S ++ x :: (B ++ C))[S.length + 1 + k]? = some o := by
      intro x C k o h
      rw [List.getElem?_append_right (by omega), show S.length + 1 + k - S.length = k + 1 by omega, List.getElem?_cons_succ]
      exact at_app h
    rw [hlen, hl, show S.length + 2 + m + 1 = S.length + 3 + m by omega]
    have e4 : S.length + 2 + m + [O.ins 0 [("rows", .ref (S.length + 3 + m))], O.lst []].length = S.length + 4 + m := by simp; omega
    rw [e4, List.append_assoc]
    show Q .non (S ++ compO S.length ⟨m, fun _ => ⟨0, 0, .non, 0⟩, [], false, []⟩ :: (B ++ [O.ins 0 [("rows", .ref (S.length + 3 + m))], O.lst [], O.lst []]))
    refine q _ ⟨hget _ _, lget_iff.mpr (hb _ _ 0 _ hB0), fun i hi => ?_, hh _ _ 0 _ rfl, lget_iff.mpr ?_, lget_iff.mpr ?_⟩ ⟨by simp, ?_⟩
    · have := hb (compO S.length ⟨m, fun _ => ⟨0, 0, .non, 0⟩, [], false, []⟩) [O.ins 0 [("rows", .ref (S.length + 3 + m))], O.lst [], O.lst []] (i + 1) _ (hB1 i hi)
      rwa [show S.length + 1 + (i + 1) = S.length + 2 + i by omega] at this
    · have := hh (compO S.length ⟨m, fun _ => ⟨0, 0, .non, 0⟩, [], false, []⟩) [O.ins 0 [("rows", .ref (S.length + 3 + m))], O.lst [], O.lst []] 1 _ rfl
      rwa [show S.length + 2 + m + 1 = S.length + 3 + m by omega] at this
    · have := hh (compO S.length ⟨m, fun _ => ⟨0, 0, .non, 0⟩, [], false, []⟩) [O.ins 0 [("rows", .ref (S.length + 3 + m))], O.lst [], O.lst []] 2 _ rfl
      rwa [show S.length + 2 + m + 2 = S.length + 4 + m by omega] at this
    · intro j o hj ho
      have h2 := lt_of_at ho
      rw [hl] at h2
      have h3 : j < S.length := by omega
      rw [List.getElem?_append_left h3] at ho ⊢
      exact ho
theorem hand_told (ns : List Int) {i : Nat} (h : CoAt S n c) (hi : i < c.m) (q : Q (c.hd i).d S) : Ok E (F_Hand_told ns [.ref (n + 2 + i)] S) Q := by
  unfold F_Hand_told b_Hand_told
  walk_at "jr"
  simp only [h.fp hi, h.fu hi, h.fw hi, h.ft hi]
  exact q
theorem hand_is_free (ns : List Int) {i : Nat} (h : CoAt S n c) (hi : i < c.m) (q : Q (.bl (decide (c.free i))) S) : Ok E (F_Hand_is_free ns [.ref (n + 2 + i)] S) Q := by
  unfold F_Hand_is_free b_Hand_is_free
  walk_at "jr"
  simp only [h.fp hi, h.fu hi]
  walk_at "jr"
  by_cases h1 : (c.hd i).p = 0
  · rw [decide_eq_true h1]
    have e : decide (c.free i) = decide ((c.hd i).u = 0) := by simp [Co.free, h1]
    rw [e] at q
    simp only [h.fu hi]
    walk_at "jr"
    exact q
  · rw [decide_eq_false h1]
    have e : decide (c.free i) = false := by simp [Co.free, h1]
    rwa [e] at q
theorem hand_leave (ns : List Int) {i : Nat} (h : CoAt S n c) (hi : i < c.m) (q : ∀ S', CoAt S' n (c.left i) → Keep n c.m S S' → Q (.tup [.int (c.hd i).t, (c.hd i).w]) S') : Ok E (F_Hand_leave ns [.ref (n + 2 + i)] S) Q := by
  unfold F_Hand_leave b_Hand_leave
  walk_at "jr"
  simp only [h.ft hi, h.fw hi]
  obtain ⟨S1, e1, h1, k1⟩ := h.sett hi 0
  rw [e1]
  simp only
  obtain ⟨S2, e2, h2, k2⟩ := h1.setw hi .non
  rw [e2]
  simp only
  rw [Co.upd_hd, Co.upd_upd] at h2
  exact q S2 h2 (k1.trans k2)
theorem post_put (ns : List Int) {v : D} (h : CoAt S n c) (hl : c.rows.length < 16777216) (q : ∀ S', CoAt S' n (c.put v) → Keep n c.m S S' → Q .non S') : Ok E (F_Post_put ns [.ref (n + 2 + c.m), v] S) Q := by
  unfold F_Post_put b_Post_put
  walk_at "jr"
  simp only [h.fRows, recv_lst h.rows, h.rows]
  walk_at "jr"
  simp only [h.rows]
  exact ⟨by omega, q _ (h.setRows _).1 (h.setRows _).2⟩
theorem post_under (ns : List Int) (h : CoAt S n c) (q : Q (.ref S.length) (S ++ [.lst c.rows])) : Ok E (F_Post_under ns [.ref (n + 2 + c.m)] S) Q := by
  unfold F_Post_under b_Post_under
  walk_at "jr"
  simp only [h.fRows]
  walk_at "jr"
  simp only [h.rows]
  exact q
theorem post_take (ns : List Int) {i : Int} (h : CoAt S n c) (hl : c.rows.length ≤ 16777216)
    (q : ∀ y S', 0 ≤ i → i < c.rows.length → c.rows[i.toNat]? = some y → CoAt S' n { c with rows := c.rows.eraseIdx i.toNat } → Keep n c.m S S' → Q y S') (e : i < 0 ∨ (c.rows.length : Int) ≤ i → E 14 S) : Ok E (F_Post_take ns [.ref (n + 2 + c.m), .int i] S) Q := by
  unfold F_Post_take b_Post_take
  walk_at "jr"
  simp only [h.fRows]
  by_cases h1 : i < 0
  · rw [if_pos h1]
    exact e (.inl h1)
  · rw [if_neg h1]
    walk_at "jr"
    simp only [h.rows]
    by_cases h2 : (c.rows.length : Int) ≤ i
    · rw [if_pos h2]
      exact e (.inr h2)
    · rw [if_neg h2]
      simp only [h.fRows, recv_lst h.rows, true_and]
      have h3 : i.toNat < c.rows.length := by omega
      have h4 := List.getElem?_eq_getElem h3
      exact k_pop h.rows (by omega) hl h4 (q _ _ (by omega) (by omega) h4 (h.setRows _).1 (h.setRows _).2)
theorem co_one (ns : List Int) {i : Int} (h : CoAt S n c) (q : 0 ≤ i → i < c.m → Q (.ref (n + 2 + i.toNat)) S) (e : i < 0 ∨ (c.m : Int) ≤ i → E 12 S) : Ok E (F_Company_one ns [.ref n, .int i] S) Q := by
  unfold F_Company_one b_Company_one
  walk_at "jr"
  simp only [h.fCrew]
  by_cases h1 : i < 0
  · rw [if_pos h1]
    exact e (.inl h1)
  · rw [if_neg h1]
    walk_at "jr"
    simp only [h.crew, h.len]
    by_cases h2 : (c.m : Int) ≤ i
    · rw [if_pos h2]
      exact e (.inr h2)
    · rw [if_neg h2]
      simp only [h.fCrew]
      walk_at "jr"
      rw [h.ix (by omega) (by omega)]
      exact q (by omega) (by omega)
theorem co_hand (ns : List Int) {i : Int} (h : CoAt S n c) (h0 : 0 ≤ i) (h1 : i < c.m) (q : Q (c.hd i.toNat).d S) : Ok E (F_Company_hand ns [.ref n, .int i] S) Q := by
  unfold F_Company_hand b_Company_hand
  walk_at "jr"
  refine ⟨isIns_of h.me rfl, ?_⟩
  refine co_one ns h (fun _ _ => ?_) (fun _ => by omega)
  refine ⟨isIns_of (h.hand i.toNat (by omega)) rfl, ?_⟩
  exact hand_told ns h (by omega) q
theorem co_under (ns : List Int) (h : CoAt S n c) (q : Q (.ref S.length) (S ++ [.lst c.rows])) : Ok E (F_Company_under ns [.ref n] S) Q := by
  unfold F_Company_under b_Company_under
  walk_at "jr"
  simp only [h.fPost]
  exact ⟨isIns_of h.post rfl, post_under ns h q⟩
theorem co_runs (ns : List Int) (h : CoAt S n c) (q : Q (.bl c.run) S) : Ok E (F_Company_runs ns [.ref n] S) Q := by
  unfold F_Company_runs b_Company_runs
  walk_at "jr"
  simp only [h.fRun]
  exact q
theorem co_tell (ns : List Int) {r : Nat} {rs : List D} (h : CoAt S n c) (hr : lget S r = some rs) (hl : c.log.length + rs.length ≤ 16777216) (q : ∀ S', CoAt S' n (c.told rs) → Keep n c.m S S' → Q (.ref r) S') : Ok E (F_Company_tell ns [.ref n, .ref r] S) Q := by
  unfold F_Company_tell b_Company_tell
  walk_at "jr"
  simp only [h.fSpoken]
  simp only [recv_lst h.log]
  rw [k_extend]
  simp only [h.log, hr]
  exact ⟨trivial, hl, q _ (h.setLog _).1 (h.setLog _).2⟩
theorem co_sent (ns : List Int) {v : D} (h : CoAt S n c) (hl : c.rows.length < 16777216) (q : ∀ S', CoAt S' n (c.put v) → Keep n c.m S S' → Q v S') : Ok E (F_Company_sent ns [.ref n, v] S) Q := by
  unfold F_Company_sent b_Company_sent
  walk_at "jr"
  simp only [h.fPost]
  refine ⟨isIns_of h.post rfl, ?_⟩
  exact post_put ns h hl q
theorem co_begin (ns : List Int) {k : Int} (h : CoAt S n c) (hm : 0 < c.m) (hl : c.log.length < 16777216)
    (q : ∀ S' r, c.run = false → 1 ≤ k → k ≤ 999999 → S.length ≤ r → CoAt S' n (({ c with run := true }.upd 0 { c.hd 0 with p := k }).told [rBeg k]) → Keep n c.m S S' → lget S' r = some [rBeg k] → Q (.ref r) S')
    (e1 : c.run = true → E 15 S) (e2 : c.run = false → (k < 1 ∨ 999999 < k) → E 13 S) : Ok E (F_Company_begin ns [.ref n, .int k] S) Q := by
  unfold F_Company_begin b_Company_begin
  walk_at "jr"
  simp only [h.fRun]
  cases hr : c.run with
  | true => exact e1 hr
  | false =>
    simp only [Bool.false_eq_true, if_false]
    by_cases h1 : k < 1
    · rw [if_pos h1]; exact e2 hr (.inl h1)
    · rw [if_neg h1]
      by_cases h2 : 999999 < k
      · rw [if_pos h2]; exact e2 hr (.inr h2)
      · rw [if_neg h2]
        obtain ⟨S1, e3, h3, k3⟩ := h.setRun true
        rw [e3]
        simp only [h3.fCrew]
        walk_at "jr"
        rw [h3.ix (c := { c with run := true }) (Int.le_refl 0) (by show (0 : Int) < c.m; omega)]
        simp only
        obtain ⟨S2, e4, h4, k4⟩ := h3.setp (i := 0) hm k
        have e4' : fset S1 (n + 2 + Int.toNat 0) 2 "pieces" (.int k) = some S2 := e4
        rw [e4']
        simp only
        refine ⟨isIns_of h4.me rfl, ?_⟩
        refine co_tell ns h4.app lget_new (by show c.log.length + 1 ≤ _; omega) fun S' h5 k5 => ?_
        have k6 : Keep n c.m S2 S' := Keep.trans Keep.app k5
        have hlt := h4.lt
        have hlt' : n + 5 + c.m ≤ S2.length := hlt
        refine q S' S2.length hr (by omega) (by omega) (Nat.le_trans k3.len k4.len) h5 (k3.trans (k4.trans k6)) (k5.lget (.inr hlt') lget_new)
theorem co_freed (ns : List Int) {i : Nat} (h : CoAt S n c) (hi : i < c.m) (hl : c.rows.length < 16777216)
    (q : ∀ S' r, S.length ≤ r → CoAt S' n (c.freed i).2 → Keep n c.m S S' → lget S' r = some (c.freed i).1 → Q (.ref r) S') : Ok E (F_Company_freed ns [.ref n, .int i] S) Q := by
  unfold F_Company_freed b_Company_freed
  walk_at "jr"
  simp only [h.fCrew]
  walk_at "jr"
  rw [h.ix (by omega) (by omega)]
  simp only [Int.toNat_natCast]
  refine ⟨isIns_of (h.hand i hi) rfl, ?_⟩
  refine hand_is_free ns h hi ?_
  by_cases hf : c.free i
  · rw [decide_eq_true hf]
    walk_at "jr"
    refine ⟨isIns_of (h.hand i hi) rfl, ?_⟩
    refine hand_leave ns h hi fun S1 h1 k1 => ?_
    walk_at "jr"
    by_cases h0 : i = 0
    · subst h0
      split
      rotate_left
      · rename_i hne
        exact absurd rfl hne
      obtain ⟨S2, e2, h2, k2⟩ := h1.setRun false
      rw [e2]
      simp only
      refine q _ _ (Nat.le_trans k1.len k2.len) ?_ (k1.trans (k2.trans Keep.app)) ?_
      · simp only [Co.freed, hf, if_true]
        exact h2.app
      · simp only [Co.freed, hf, if_true]
        exact lget_new
    · rw [if_neg (by omega)]
      refine ⟨isIns_of h1.me rfl, ?_⟩
      refine co_sent ns h1 hl fun S2 h2 k2 => ?_
      refine q _ _ (Nat.le_trans k1.len k2.len) ?_ (k1.trans (Keep.trans k2 Keep.app)) ?_
      · simp only [Co.freed, hf, h0, if_true, if_false]
        exact h2.app
      · simp only [Co.freed, hf, h0, if_true, if_false]
        exact lget_new
  · rw [decide_eq_false hf]
    walk_at "jr"
    refine q _ _ (Nat.le_refl _) ?_ Keep.app ?_
    · simp only [Co.freed, hf, if_false]
      exact h.app
    · simp only [Co.freed, hf, if_false]
      exact lget_new
theorem co_do (ns : List Int) {k : Int} (h : CoAt S n c) (hl : c.rows.length < 16777216) (hg : c.log.length < 16777216)
    (q : ∀ S' r, 0 ≤ k → k < c.m → 1 ≤ (c.hd k.toNat).p → S.length ≤ r → CoAt S' n (Co.done ((c.work k.toNat).freed k.toNat)) → Keep n c.m S S' → lget S' r = some ((c.work k.toNat).freed k.toNat).1 → Q (.ref r) S')
    (e1 : (k < 0 ∨ (c.m : Int) ≤ k) → E 12 S) (e2 : 0 ≤ k → k < c.m → (c.hd k.toNat).p < 1 → E 13 S) : Ok E (F_Company_do ns [.ref n, .int k] S) Q := by
  unfold F_Company_do b_Company_do
  walk_at "jr"
  refine ⟨isIns_of h.me rfl, ?_⟩
  refine co_one ns h (fun h0 h1 => ?_) e1
  have hi : k.toNat < c.m := by omega
  simp only [h.fp hi]
  walk_at "jr"
  by_cases hp : (c.hd k.toNat).p < 1
  · rw [if_pos hp]; exact e2 h0 h1 hp
  · rw [if_neg hp]
    simp only [h.fp hi]
    walk_at "jr"
    obtain ⟨S1, e3, h3, k3⟩ := h.setp hi ((c.hd k.toNat).p - 1)
    rw [e3]
    simp only
    have hi1 : k.toNat < (c.upd k.toNat { c.hd k.toNat with p := (c.hd k.toNat).p - 1 }).m := hi
    simp only [h3.ft hi1, Co.upd_hd]
    walk_at "jr"
    obtain ⟨S2, e4, h4, k4⟩ := h3.sett hi1 ((c.hd k.toNat).t + 1)
    rw [e4]
    rw [Co.upd_hd, Co.upd_upd] at h4
    simp only
    refine ⟨isIns_of h4.me rfl, isIns_of h4.me rfl, ?_⟩
    have hk : (k.toNat : Int) = k := by omega
    have fr : ∀ {Q : D → Store → Prop}, Ok E (F_Company_freed ns [.ref n, .int k.toNat] S2) Q → Ok E (F_Company_freed ns [.ref n, .int k] S2) Q := by intro Q h; rwa [hk] at h
    refine fr (co_freed ns h4 (by exact hi) (by exact hl) fun S3 r hr h5 k5 l5 => ?_)
    have hm3 := Co.freed_m (c.work k.toNat) k.toNat
    have hlen : ((c.work k.toNat).freed k.toNat).1.length ≤ 1 ∧ ((c.work k.toNat).freed k.toNat).2.log = c.log := by
      unfold Co.freed
      split
      · split <;> exact ⟨Nat.le_refl _, rfl⟩
      · exact ⟨Nat.zero_le _, rfl⟩
    refine co_tell ns h5 l5 (by show ((c.work k.toNat).freed k.toNat).2.log.length + ((c.work k.toNat).freed k.toNat).1.length ≤ _; rw [hlen.2]; omega) fun S4 h6 k6 => ?_
    have hS2 : n + 5 + c.m ≤ S2.length := h4.lt
    have k6' : Keep n c.m S3 S4 := by rw [← hm3.trans (show (c.work k.toNat).m = c.m from rfl)]; exact k6
    refine q S4 r h0 h1 (by omega) (Nat.le_trans (Nat.le_trans k3.len k4.len) hr) h6 (k3.trans (k4.trans (k5.trans k6'))) ?_
    exact k6'.lget (.inr (by omega)) l5
theorem co_hand_on (ns : List Int) {a b k : Int} (h : CoAt S n c) (hl : c.rows.length < 16777216) (hg : c.log.length < 16777216)
    (q : ∀ S' r, 0 ≤ a → a < c.m → 0 ≤ b → b < c.m → 1 ≤ k → k ≤ (c.hd a.toNat).p → S.length ≤ r → CoAt S' n ((c.send a.toNat b.toNat k).told [rLet a b k]) → Keep n c.m S S' → lget S' r = some [rLet a b k] → Q (.ref r) S')
    (e1 : (a < 0 ∨ (c.m : Int) ≤ a ∨ b < 0 ∨ (c.m : Int) ≤ b) → E 12 S) (e2 : 0 ≤ a → a < c.m → 0 ≤ b → b < c.m → (k < 1 ∨ (c.hd a.toNat).p < k) → E 13 S) : Ok E (F_Company_hand_on ns [.ref n, .int a, .int b, .int k] S) Q := by
  unfold F_Company_hand_on b_Company_hand_on
  walk_at "jr"
  refine ⟨isIns_of h.me rfl, ?_⟩
  refine co_one ns h (fun h0 h1 => ?_) (fun hh => e1 (by omega))
  refine ⟨isIns_of h.me rfl, ?_⟩
  refine co_one ns h (fun h2 h3 => ?_) (fun hh => e1 (by omega))
  have hi : a.toNat < c.m := by omega
  by_cases hk : k < 1
  · rw [if_pos hk]; exact e2 h0 h1 h2 h3 (.inl hk)
  · rw [if_neg hk]
    simp only [h.fp hi]
    walk_at "jr"
    by_cases hp : (c.hd a.toNat).p < k
    · rw [if_pos hp]; exact e2 h0 h1 h2 h3 (.inr hp)
    · rw [if_neg hp]
      simp only [h.fp hi]
      walk_at "jr"
      obtain ⟨S1, e3, h4, k3⟩ := h.setp hi ((c.hd a.toNat).p - k)
      rw [e3]
      simp only
      have hi1 : a.toNat < (c.upd a.toNat { c.hd a.toNat with p := (c.hd a.toNat).p - k }).m := hi
      simp only [h4.fu hi1, Co.upd_hd]
      walk_at "jr"
      obtain ⟨S2, e4, h5, k4⟩ := h4.setu hi1 ((c.hd a.toNat).u + 1)
      rw [e4]
      rw [Co.upd_hd, Co.upd_upd] at h5
      simp only
      refine ⟨isIns_of h5.me rfl, isIns_of h5.me rfl, ?_⟩
      refine co_sent ns h5 (by exact hl) fun S3 h6 k6 => ?_
      refine co_tell ns h6.app lget_new (by show c.log.length + 1 ≤ _; omega) fun S4 h7 k7 => ?_
      have hS3 : n + 5 + c.m ≤ S3.length := h6.lt
      have e5 : (Co.put (c.upd a.toNat { c.hd a.toNat with p := (c.hd a.toNat).p - k, u := (c.hd a.toNat).u + 1 }) (.tup [.str "letter", .int a, .int b, .int k])) = c.send a.toNat b.toNat k := by
        unfold Co.send rLet
        rw [Int.toNat_of_nonneg h0, Int.toNat_of_nonneg h2]
      refine q S4 S3.length h0 h1 h2 h3 (by omega) (by omega) (Nat.le_trans k3.len (Nat.le_trans k4.len k6.len)) ?_ (k3.trans (k4.trans (Keep.trans k6 (Keep.trans Keep.app k7)))) (k7.lget (.inr hS3) lget_new)
      rw [← e5]
      exact h7
theorem co_woken (ns : List Int) {a : D} {b : Nat} {k : Int} (h : CoAt S n c) (hi : b < c.m) (hl : c.rows.length < 16777216)
    (q : ∀ S', CoAt S' n (c.wake a b k).2 → Keep n c.m S S' → Q (c.wake a b k).1 S') : Ok E (F_Company_woken ns [.ref n, a, .int b, .int k] S) Q := by
  unfold F_Company_woken b_Company_woken
  walk_at "jr"
  simp only [h.fCrew]
  walk_at "jr"
  rw [h.ix (by omega) (by omega)]
  simp only [Int.toNat_natCast]
  simp only [h.fp hi]
  walk_at "jr"
  obtain ⟨S1, e3, h3, k3⟩ := h.setp hi ((c.hd b).p + k)
  rw [e3]
  have hi1 : b < (c.upd b { c.hd b with p := (c.hd b).p + k }).m := hi
  simp only [h3.fw hi1, Co.upd_hd]
  by_cases h0 : b = 0
  · rw [if_pos (by omega)]
    refine ⟨isIns_of h3.me rfl, ?_⟩
    refine co_sent ns h3 (by exact hl) fun S2 h4 k4 => ?_
    have e : c.wake a b k = (rAns b a 0, (c.upd b { c.hd b with p := (c.hd b).p + k }).put (rAns b a 0)) := by simp [Co.wake, h0]
    rw [e] at q
    exact q S2 h4 (k3.trans k4)
  · rw [if_neg (by omega)]
    by_cases hw : isN (c.hd b).w = false
    · rw [hw]
      walk_at "jr"
      refine ⟨isIns_of h3.me rfl, ?_⟩
      refine co_sent ns h3 (by exact hl) fun S2 h4 k4 => ?_
      have e : c.wake a b k = (rAns b a 0, (c.upd b { c.hd b with p := (c.hd b).p + k }).put (rAns b a 0)) := by simp [Co.wake, hw]
      rw [e] at q
      exact q S2 h4 (k3.trans k4)
    · have hw' : isN (c.hd b).w = true := by simpa using hw
      rw [hw']
      walk_at "jr"
      obtain ⟨S2, e4, h4, k4⟩ := h3.setw hi1 a
      rw [e4]
      rw [Co.upd_hd, Co.upd_upd] at h4
      have e : c.wake a b k = (rWok b a, c.upd b { c.hd b with p := (c.hd b).p + k, w := a }) := by simp [Co.wake, h0, hw']
      rw [e] at q
      exact q S2 h4 (k3.trans k4)
theorem co_carry (ns : List Int) {pl : Int} (h : CoAt S n c) (hl : c.rows.length < 16777216) (hg : c.log.length < 16777216)
    (hw : ∀ r ∈ c.rows, ∃ (a : D) (b : Nat) (k : Int), b < c.m ∧ (r = .tup [.str "letter", a, .int b, .int k] ∨ r = .tup [.str "answer", a, .int b, .int k]))
    (ql : ∀ S' r (a : D) (b : Nat) (k : Int), 0 ≤ pl → pl < c.rows.length → b < c.m → c.rows[pl.toNat]? = some (.tup [.str "letter", a, .int b, .int k]) → S.length ≤ r → CoAt S' n (({ c with rows := c.rows.eraseIdx pl.toNat }.wake a b k).2.told [({ c with rows := c.rows.eraseIdx pl.toNat }.wake a b k).1]) → Keep n c.m S S' → lget S' r = some [({ c with rows := c.rows.eraseIdx pl.toNat }.wake a b k).1] → Q (.ref r) S')
    (qa : ∀ S' r (a : D) (b : Nat) (k : Int), 0 ≤ pl → pl < c.rows.length → b < c.m → c.rows[pl.toNat]? = some (.tup [.str "answer", a, .int b, .int k]) → S.length ≤ r → CoAt S' n (Co.done (({ c with rows := c.rows.eraseIdx pl.toNat }.gath b k).freed b)) → Keep n c.m S S' → lget S' r = some (({ c with rows := c.rows.eraseIdx pl.toNat }.gath b k).freed b).1 → Q (.ref r) S')
    (e1 : (pl < 0 ∨ (c.rows.length : Int) ≤ pl) → E 14 S) : Ok E (F_Company_carry ns [.ref n, .int pl] S) Q := by
  unfold F_Company_carry b_Company_carry
  walk_at "jr"
  simp only [h.fPost]
  refine ⟨isIns_of h.post rfl, ?_⟩
  refine post_take ns h (by omega) (fun y S1 h0 h1 hy h2 k2 => ?_) e1
  have hlen : (c.rows.eraseIdx pl.toNat).length < 16777216 := by rw [List.length_eraseIdx]; split <;> omega
  obtain ⟨a, b, k, hb, rfl | rfl⟩ := hw y (List.mem_of_getElem? hy)
  · walk_at "jr"
    refine ⟨isIns_of h2.me rfl, isIns_of h2.me rfl, ?_⟩
    refine co_woken ns h2 hb hlen fun S2 h3 k3 => ?_
    have hlog : ({ c with rows := c.rows.eraseIdx pl.toNat }.wake a b k).2.log = c.log := by
      unfold Co.wake
      simp only
      split <;> rfl
    have hm := Co.wake_m { c with rows := c.rows.eraseIdx pl.toNat } a b k
    refine co_tell ns h3.app lget_new (by show _ + 1 ≤ _; rw [hlog]; omega) fun S4 h7 k7 => ?_
    have k7' : Keep n c.m (S2 ++ [O.lst [({ c with rows := c.rows.eraseIdx pl.toNat }.wake a b k).1]]) S4 := k7.cast hm
    have hS3 : n + 5 + c.m ≤ S1.length := h2.lt
    refine ql S4 S2.length a b k h0 h1 hb hy (Nat.le_trans k2.len k3.len) h7 (k2.trans (Keep.trans k3 (Keep.trans Keep.app k7'))) (k7'.lget (.inr (Nat.le_trans hS3 k3.len)) lget_new)
  · walk_at "jr"
    rw [if_neg (by decide)]
    simp only [h2.fCrew]
    walk_at "jr"
    rw [h2.ix (by omega) (by show (b : Int) < c.m; omega)]
    simp only [Int.toNat_natCast]
    have hb2 : b < ({ c with rows := c.rows.eraseIdx pl.toNat } : Co).m := hb
    simp only [h2.fu hb2]
    walk_at "jr"
    obtain ⟨S2, e3, h3, k3⟩ := h2.setu hb2 ((c.hd b).u - 1)
    rw [e3]
    have hi1 : b < (Co.upd { c with rows := c.rows.eraseIdx pl.toNat } b { c.hd b with u := (c.hd b).u - 1 }).m := hb
    simp only [h3.ft hi1, Co.upd_hd]
    walk_at "jr"
    obtain ⟨S3, e4, h4, k4⟩ := h3.sett hi1 ((c.hd b).t + k)
    rw [e4]
    rw [Co.upd_hd, Co.upd_upd] at h4
    simp only
    refine ⟨isIns_of h4.me rfl, isIns_of h4.me rfl, ?_⟩
    refine co_freed ns h4 (by exact hb) (by exact hlen) fun S5 r hr h5 k5 l5 => ?_
    have hm3 := Co.freed_m (Co.gath { c with rows := c.rows.eraseIdx pl.toNat } b k) b
    have hlen2 : ((Co.gath { c with rows := c.rows.eraseIdx pl.toNat } b k).freed b).1.length ≤ 1 ∧ ((Co.gath { c with rows := c.rows.eraseIdx pl.toNat } b k).freed b).2.log = c.log := by
      unfold Co.freed
      split
      · split <;> exact ⟨Nat.le_refl _, rfl⟩
      · exact ⟨Nat.zero_le _, rfl⟩
    refine co_tell ns h5 l5 (by show ((Co.gath { c with rows := c.rows.eraseIdx pl.toNat } b k).freed b).2.log.length + ((Co.gath { c with rows := c.rows.eraseIdx pl.toNat } b k).freed b).1.length ≤ _; rw [hlen2.2]; omega) fun S6 h6 k6 => ?_
    have k6' : Keep n c.m S5 S6 := by
      have e : ((Co.gath { c with rows := c.rows.eraseIdx pl.toNat } b k).freed b).2.m = c.m := hm3
      rw [← e]; exact k6
    have hS3 : n + 5 + c.m ≤ S3.length := h4.lt
    refine qa S6 r a b k h0 h1 hb hy (Nat.le_trans k2.len (Nat.le_trans k3.len (Nat.le_trans k4.len hr))) h6 (k2.trans (Keep.trans k3 (Keep.trans k4 (Keep.trans k5 k6')))) (k6'.lget (.inr (Nat.le_trans hS3 hr)) l5)
theorem law_whole (ns : List Int) (i : Int) (q : Q (.bl true) S) : Ok E (F_law_whole ns [.int i] S) Q := by
  unfold F_law_whole b_law_whole
  walk_at "jr"
  exact q
theorem law_cell_at (ns : List Int) {k : Int} (hk : 0 ≤ k) (q : ∀ v, Q (.int v) S) : Ok E (F_law_cell_at ns [.scr, .int k] S) Q := by
  unfold F_law_cell_at b_law_cell_at
  walk_at "jr"
  by_cases h : k < (ns.length : Int)
  · rw [if_pos h, atI_nn hk, List.getElem?_eq_getElem (by omega)]
    exact q _
  · rw [if_neg h]; exact q _
theorem law_mixed (ns : List Int) {k : Int} (hk : 0 ≤ k) (q : ∀ v, 0 ≤ v → v < 2147483647 → Q (.int v) S) : Ok E (F_law_mixed ns [.scr, .int k] S) Q := by
  unfold F_law_mixed b_law_mixed
  walk_at "jr"
  by_cases h : 0 < (ns.length : Int)
  · rw [if_pos h]
    have h1 := Int.emod_nonneg k (show (ns.length : Int) ≠ 0 by omega)
    have h2 := Int.emod_lt_of_pos k h
    rw [atI_nn h1, List.getElem?_eq_getElem (by omega)]
    simp only
    exact ⟨h, .inl (mixed_small _ 0), q _ (Int.emod_nonneg _ (by decide)) (Int.emod_lt_of_pos _ (by decide))⟩
  · rw [if_neg h]
    exact ⟨.inl (mixed_small _ 0), q _ (Int.emod_nonneg _ (by decide)) (Int.emod_lt_of_pos _ (by decide))⟩
theorem law_many_by (ns : List Int) (v : Int) (q : ∀ m : Nat, 1 ≤ m → m ≤ 60 → Q (.int m) S) : Ok E (F_law_many_by ns [.int v] S) Q := by
  unfold F_law_many_by b_law_many_by
  walk_at "jr"
  split
  · have := q (1 + v / 8 % 60).toNat (by omega) (by omega)
    rwa [Int.toNat_of_nonneg (by omega)] at this
  · have := q (1 + v / 8 % 6).toNat (by omega) (by omega)
    rwa [Int.toNat_of_nonneg (by omega)] at this
theorem law_pieces_by (ns : List Int) (v : Int) (q : ∀ m : Int, 1 ≤ m → m ≤ 999999 → Q (.int m) S) : Ok E (F_law_pieces_by ns [.int v] S) Q := by
  unfold F_law_pieces_by b_law_pieces_by
  walk_at "jr"
  split
  · exact q _ (by omega) (by omega)
  · split
    · exact q _ (by omega) (by omega)
    · exact q _ (by omega) (by omega)
theorem alike_at (ns : List Int) : ∀ (k : Nat) {a b : D} {S : Store} {E : Nat → Store → Prop} {Q : D → Store → Prop}, Alk S k a b → Q (.bl true) S → Ok E (F_law_alikeR ns k [a, b] S) Q
  | 0, a, b, S, E, Q, h, q => h.elim
  | k + 1, a, b, S, E, Q, h, q => by
    have ih := @alike_at ns k
    unfold F_law_alikeR b_law_alike
    cases a <;> cases b <;> first | exact h.elim | skip
    · walk_at "jr"; exact q
    · cases h; walk_at "jr"; exact q
    · cases h; walk_at "jr"; refine law_whole ns _ ?_; walk_at "jr"; exact q
    · cases h; walk_at "jr"; exact q
    · rename_i xs ys
      obtain ⟨h1, h2, h3⟩ := h
      walk_at "jr"
      rw [show (!decide ((xs.length : Int) = (ys.length : Int))) = false by simp [h1]]
      walk_at "jr"
      refine ⟨by omega, ?_⟩
      rw [Int.toNat_natCast]
      refine for_rg (fun i φ S' => S' = S ∧ ∃ z, φ = [some (.tup xs), some (.tup ys), z]) ⟨rfl, _, rfl⟩ ?_ ?_
      · rintro i φ S' hi ⟨rfl, z, rfl⟩
        walk_at "jr"
        rw [Int.zero_add]
        simp only [atI_lit]
        rw [List.getElem?_eq_getElem (show i < xs.length by omega), List.getElem?_eq_getElem hi]
        simp only
        refine ih (h3 i _ _ (List.getElem?_eq_getElem (by omega)) (List.getElem?_eq_getElem hi)) ?_
        walk_at "jr"
        exact ⟨_, rfl⟩
      · rintro φ S' ⟨rfl, z, rfl⟩
        exact q
    · rename_i m1 n1
      obtain ⟨xs, ys, h4, h5, h1, h2, h3⟩ := h
      walk_at "jr"
      simp only [ty_l h4, ty_l h5]
      walk_at "jr"
      simp only [h4, h5]
      rw [show (!decide ((xs.length : Int) = (ys.length : Int))) = false by simp [h1]]
      walk_at "jr"
      refine ⟨by omega, ?_⟩
      rw [Int.toNat_natCast]
      refine for_rg (fun i φ S' => S' = S ∧ ∃ z, φ = [some (.ref m1), some (.ref n1), z]) ⟨rfl, _, rfl⟩ ?_ ?_
      · rintro i φ S' hi ⟨rfl, z, rfl⟩
        walk_at "jr"
        rw [Int.zero_add]
        simp only [h4, h5, Option.bind_some, atI_lit]
        rw [List.getElem?_eq_getElem (show i < xs.length by omega), List.getElem?_eq_getElem hi]
        simp only
        refine ih (h3 i _ _ (List.getElem?_eq_getElem (by omega)) (List.getElem?_eq_getElem hi)) ?_
        walk_at "jr"
        exact ⟨_, rfl⟩
      · rintro φ S' ⟨rfl, z, rfl⟩
        exact q
theorem alike (ns : List Int) {a b : D} {S : Store} {E : Nat → Store → Prop} {Q : D → Store → Prop} (h : Alk S 5 a b) (q : Q (.bl true) S) : Ok E (F_law_alike ns [a, b] S) Q := alike_at ns 5 h q
theorem alike_eq (ns : List Int) {a b : D} {S : Store} (h : Alk S 5 a b) : F_law_alike ns [a, b] S = .ok (.bl true) S := by
  have := alike ns (E := NoE) (Q := fun d S' => d = .bl true ∧ S' = S) h ⟨rfl, rfl⟩
  obtain ⟨d, S', e, rfl, rfl⟩ := this.get
  exact e
theorem p_next (ns : List Int) {v mm : Int} (hc : CoAt S n c) (hd : DS c.m c) (hcm : c.m ≤ 60) (hmm : mm = c.m)
    (q0 : ∀ T, c.rows = [] → (∀ i, i < c.m → (c.hd i).p ≤ 0) → Q .non (S ++ T))
    (q : ∀ T dd, Gd c dd → Q (Dd.d dd) (S ++ T)) : Ok E (F_law_next ns [.ref n, .int mm, .int v] S) Q := by
  subst hmm
  unfold F_law_next b_law_next
  walk_at "jr"
  refine ⟨by omega, ?_⟩
  rw [Int.toNat_natCast, lc_rgP (fun i => decide (0 < (c.hd i).p)) (fun i => .int i) (by omega) ?st]
  case st =>
    intro i acc hi
    walk_at "jr"
    have hc2 := hc.app (T := [O.lst acc])
    refine ⟨isIns_of hc2.me rfl, ?_⟩
    refine co_hand ns hc2 (by omega) (by omega) ?_
    rw [Int.toNat_natCast]
    unfold Hd.d
    walk_at "jr"
    exact fun _ => trivial
  rw [show (((List.range c.m).filter fun i => decide (0 < (c.hd i).p)).map fun (i : Nat) => D.int i) = wk c from rfl]
  simp only
  have hc2 := hc.app (T := [O.lst (wk c)])
  refine ⟨isIns_of hc2.me rfl, ?_⟩
  refine co_under ns hc2 ?_
  rw [List.append_assoc]
  walk_at "jr"
  have l1 : lget (S ++ [O.lst (wk c), O.lst c.rows]) S.length = some (wk c) := lget_at_len
  have l2 : lget (S ++ [O.lst (wk c), O.lst c.rows]) (S ++ [O.lst (wk c)]).length = some c.rows := by
    rw [show S ++ [O.lst (wk c), O.lst c.rows] = (S ++ [O.lst (wk c)]) ++ [O.lst c.rows] by simp]
    exact lget_new
  have hc3 := hc.app (T := [O.lst (wk c), O.lst c.rows])
  simp only [l1, l2, Option.bind_some]
  by_cases hw : 0 < ((wk c).length : Int)
  · obtain ⟨x, hx, hxm⟩ := atI_in (xs := wk c) (k := v / 8 % ((wk c).length : Int)) (Int.emod_nonneg _ (by omega)) (Int.emod_lt_of_pos _ hw)
    obtain ⟨i, hi, rfl, hpi⟩ := wk_mem hxm
    rw [if_pos hw]
    simp only [hx]
    split
    rotate_left
    split
    rotate_left
    · rename_i h1 h2
      exact ⟨by omega, q _ (.car _) (Gd.car hd (Int.emod_nonneg _ h2) (Int.emod_lt_of_pos _ (by omega)))⟩
    all_goals
      refine ⟨hw, ?_⟩
      split
      · refine ⟨by have := hd.m; omega, isIns_of hc3.me rfl, ?_⟩
        refine co_hand ns hc3 (by omega) (by omega) ?_
        rw [Int.toNat_natCast]
        unfold Hd.d
        walk_at "jr"
        have h1 := Int.emod_nonneg (v / 97) (show (c.m : Int) ≠ 0 by have := hd.m; omega)
        have h2 := Int.emod_lt_of_pos (v / 97) (show (0 : Int) < c.m by have := hd.m; omega)
        have h3 := Int.emod_nonneg (v / 5) (show (c.hd i).p ≠ 0 by omega)
        have h4 := Int.emod_lt_of_pos (v / 5) hpi
        exact ⟨hpi, q _ (.han i (v / 97 % c.m) (1 + v / 5 % (c.hd i).p)) (Gd.han hi ⟨h1, h2⟩ ⟨by omega, by omega⟩)⟩
      · exact q _ (.dow i) (Gd.dow hi hpi)
  · rw [if_neg hw]
    split
    · rename_i h2
      exact q0 _ (List.length_eq_zero_iff.mp (by omega)) (wk_nil (by omega))
    · rename_i h2
      exact ⟨by omega, q _ (.car _) (Gd.car hd (Int.emod_nonneg _ h2) (Int.emod_lt_of_pos _ (by omega)))⟩
theorem p_done (ns : List Int) {S : Store} {n : Nat} {dd : Dd} {c : Co} {E : Nat → Store → Prop} {Q : D → Store → Prop} (hc : CoAt S n c) (hd : DS c.m c) (hr : c.rows.length < 100000) (hg : c.log.length < 100000) (hgd : dd.good = true)
    (q : ∀ S' r rs c', stepC c dd = (.rs rs, c') → S.length ≤ r → CoAt S' n c' → Keep n c.m S S' → lget S' r = some rs → Q (.ref r) S') (e : ∀ k s, stepC c dd = (.no s, c) → E k S) : Ok E (F_law_done ns [.ref n, dd.d] S) Q := by
  unfold F_law_done b_law_done
  have hw : ∀ r ∈ c.rows, ∃ (a : D) (b : Nat) (k : Int), b < c.m ∧ (r = .tup [.str "letter", a, .int b, .int k] ∨ r = .tup [.str "answer", a, .int b, .int k]) := by
    intro r hr
    rcases hd.r r hr with ⟨a, b, k, _, hb, _, rfl⟩ | ⟨a, b, k, _, hb, _, rfl⟩
    · exact ⟨_, b, k, hb, .inl rfl⟩
    · exact ⟨_, b, k, hb, .inr rfl⟩
  cases dd with
  | beg k => cases hgd
  | dow k =>
    unfold Dd.d
    walk_at "jr"
    rw [if_neg (by decide)]
    refine ⟨isIns_of hc.me rfl, ?_⟩
    refine co_do ns hc (by omega) (by omega) (fun S' r h1 h2 h3 h4 h5 h6 h7 => q S' r _ _ ?_ h4 h5 h6 h7) (fun h => e _ "hand" ?_) (fun h h2 h3 => e _ "work" ?_)
    · simp only [stepC]
      rw [if_neg (by omega), if_neg (by omega)]
    · simp only [stepC, h, if_true]
    · simp only [stepC]
      rw [if_neg (by omega), if_pos h3]
  | han a b k =>
    unfold Dd.d
    walk_at "jr"
    refine ⟨isIns_of hc.me rfl, ?_⟩
    refine co_hand_on ns hc (by omega) (by omega) (fun S' r h1 h2 h3 h4 h5 h6 h7 h8 h9 h10 => q S' r _ _ ?_ h7 h8 h9 h10) (fun h => e _ "hand" ?_) (fun h h2 h3 h4 h5 => e _ "work" ?_)
    · simp only [stepC]
      rw [if_neg (by omega), if_neg (by omega)]
    · simp only [stepC, h, if_true]
    · simp only [stepC]
      rw [if_neg (by omega), if_pos h5]
  | car pl =>
    unfold Dd.d
    walk_at "jr"
    rw [if_neg (by decide), if_neg (by decide)]
    refine ⟨isIns_of hc.me rfl, ?_⟩
    refine co_carry ns hc (by omega) (by omega) hw (fun S' r a b k h1 h2 h3 h4 h5 h6 h7 h8 => q S' r _ _ ?_ h5 h6 h7 h8) (fun S' r a b k h1 h2 h3 h4 h5 h6 h7 h8 => q S' r _ _ ?_ h5 h6 h7 h8) (fun h => e _ "place" ?_)
    · simp only [stepC]
      rw [if_neg (by omega), h4]
      simp only [Int.toNat_natCast, if_true]
    · simp only [stepC]
      rw [if_neg (by omega), h4]
      simp only [Int.toNat_natCast]
      rw [if_neg (by decide)]
    · simp only [stepC, h, if_true]
theorem p_gd (ns : List Int) {dd : Dd} (hc : CoAt S n c) (hd : DS c.m c) (hr : c.rows.length < 100000) (hg : c.log.length < 100000) (hgd : Gd c dd)
    (q : ∀ S' r rs c', stepC c dd = (.rs rs, c') → S.length ≤ r → CoAt S' n c' → Keep n c.m S S' → lget S' r = some rs → Q (.ref r) S') : Ok E (F_law_done ns [.ref n, dd.d] S) Q := by
  have hgo := hgd.1
  obtain ⟨rs, hst⟩ := hgd.get
  refine p_done ns hc hd hr hg hgo q fun k s hs => ?_
  rw [hst] at hs
  cases hs
end
end DebtJ.Law

set_option Elab.async false
set_option linter.all false
set_option maxRecDepth 100000
set_option maxHeartbeats 1000000
namespace DebtJ.Law
open PySem L2 DebtJ
local macro_rules | `(tactic| walk_at "jr") => `(tactic| simp only [Ok_mkF, Ok_mkE, Ok_kin, Ok_mkH, St_sNo, Ok_eNo, Ok_ok, Ok_exc, Ok_no, Ok_bind, Ok_ite, Ok_some, Ok_none, St_nx, St_rt, St_exc, St_no, St_ite, St_toS, St_seq, St_next, St_expr, St_ret, St_retN, St_raise, St_if, St_asg, St_for, St_try, St_tryC, St_tryN, St_tryAs, Ok_var, Ok_c, Ok_op, Ok_tof, Ok_tand, Ok_tor, Ok_tnot, Ok_tyes, Ok_and, Ok_or, Ok_not, Ok_neg, Ok_nil, Ok_cons, Ok_tup, Ok_lst, Ok_call, Ok_meth, Ok_make, Ok_fld, Ok_sl, Ok_ono, Ok_osome, Ok_cb, Ok_bm, Ok_isi, Ok_rg1, Ok_rg2, Ok_ilst, Ok_itp, Ok_lstRg1, Ok_lstRg2, Ok_lc, St_fld, St_sub, St_asg2, k_addI, k_addS, k_sub, k_mulI, k_mod, k_fdiv, k_pow, k_lt, k_le, k_gt, k_ge, k_eqI, k_eqS, k_eqB, k_eqNI, k_eqSI, k_neI, k_neS, k_neB, k_neNI, k_eqR, k_eqT, k_neR, k_neT, k_isN, k_isB, k_isNotN, k_isNotB, k_ixL, k_ixT, k_ixC, k_lenL, k_lenT, k_lenC, k_lenS, k_intI, k_intB, k_max, k_min, k_listL, k_listT, k_tuple, k_append, k_reverse, k_slL, k_clear, List.map_cons, List.map_nil, List.length_cons, List.length_nil, List.replicate, Nat.reduceSub, Nat.reduceAdd, List.cons_append, List.nil_append, List.append_nil, List.getElem?_cons_succ, List.getElem?_cons_zero, List.getElem?_nil, List.set_cons_succ, List.set_cons_zero, if_true, if_false, Bool.false_eq_true, true_and, small_eq, Nat.reduceLeDiff, lget_new, lget_c0, isN_non, isN_bl, isN_int, isN_str, isN_tup, isN_ref, ty_non, ty_bl, ty_int, ty_str, ty_tup, kb_NoneType_int, kb_NoneType_bool, kb_NoneType_str, kb_NoneType_list, kb_NoneType_tuple, kb_bool_int, kb_bool_bool, kb_bool_str, kb_bool_list, kb_bool_tuple, kb_int_int, kb_int_bool, kb_int_str, kb_int_list, kb_int_tuple, kb_str_int, kb_str_bool, kb_str_str, kb_str_list, kb_str_tuple, kb_tuple_int, kb_tuple_bool, kb_tuple_str, kb_tuple_list, kb_tuple_tuple, kb_list_int, kb_list_bool, kb_list_str, kb_list_list, kb_list_tuple, kb_dict_int, kb_dict_bool, kb_dict_str, kb_dict_list, kb_dict_tuple, lget_cs, lstO, smallI_eq, Int.reduceEq,  decide_true, decide_false, Int.reduceLT, Int.reduceLE, Int.reduceNeg, Nat.reduceLT, and_self, and_true, Option.bind_some, atI_two, atI_c0, atI_c1, atI_c2, atI_c3, decide_eq_true_eq, Int.reduceToNat, nat10, Int.reducePow, or_true, true_or, Bool.not_true, Bool.not_false, Ok_dnew, Ok_items, Ok_lenSet, Ok_dgetR, St_dput, Ok_keysJ, kb_dict_dict])
section
variable {c : Co}
/-! ### in the tree; the way to the first hand -/
def inT (c : Co) (i : Nat) : Bool := !isN (c.hd i).w || (decide (i = 0) && c.run)
inductive Chain (c : Co) : Nat → List Nat → Prop
  | zero : Chain c 0 [0]
  | step {i b : Nat} {l : List Nat} : i ≠ 0 → (c.hd i).w = .int b → Chain c b l → Chain c i (i :: l)
theorem Chain.uniq {i : Nat} {l l' : List Nat} (h : Chain c i l) (h' : Chain c i l') : l = l' := by
  induction h generalizing l' with
  | zero => cases h' with
    | zero => rfl
    | step h _ _ => exact absurd rfl h
  | step h0 h1 h2 ih => cases h' with
    | zero => exact absurd rfl h0
    | step g0 g1 g2 =>
      rw [h1] at g1
      injection g1 with g1
      have e := Int.ofNat.inj g1
      subst e
      rw [ih g2]
theorem Chain.head {i : Nat} {l : List Nat} (h : Chain c i l) : ∃ r, l = i :: r := by
  cases h with
  | zero => exact ⟨_, rfl⟩
  | step _ _ _ => exact ⟨_, rfl⟩
theorem Chain.last {i : Nat} {l : List Nat} (h : Chain c i l) : l.getLast? = some 0 := by
  induction h with
  | zero => rfl
  | @step i b l h0 h1 h2 ih =>
    obtain ⟨r, rfl⟩ := h2.head
    rw [List.getLast?_cons_cons]
    exact ih
theorem Chain.links {i : Nat} {l : List Nat} (h : Chain c i l) : ∀ (k a b : Nat), l[k]? = some a → l[k + 1]? = some b → (c.hd a).w = .int b := by
  induction h with
  | zero => intro k a b h1 h2; cases k <;> simp at h2
  | @step i b l h0 h1 h2 ih =>
    intro k x y hx hy
    cases k with
    | zero =>
      obtain ⟨r, rfl⟩ := h2.head
      simp at hx hy
      subst hx hy
      exact h1
    | succ k => exact ih k x y (by simpa using hx) (by simpa using hy)
theorem ch_in {x : Nat} (d : DS x c) : ∀ (n i : Nat), (∃ rk : Nat → Nat, (∀ i, i < c.m → ∀ b : Nat, (c.hd i).w = .int b → rk b < rk i) ∧ rk i = n) → i < c.m → (i = 0 ∨ (c.hd i).w ≠ .non) → ∃ l, Chain c i l := by
  intro n
  induction n using Nat.strongRecOn with
  | _ n ih =>
    rintro i ⟨rk, hrk, e⟩ hi h
    by_cases h0 : i = 0
    · subst h0; exact ⟨_, .zero⟩
    · have hw := h.resolve_left h0
      rcases d.w i hi with h1 | ⟨b, hb, h1⟩
      · exact absurd h1 hw
      · have hu := kid_u d hi hb h1
        have hlt := hrk i hi b h1
        obtain ⟨l, hl⟩ := ih (rk b) (by omega) b ⟨rk, hrk, rfl⟩ hb (d.eng hb (.inr hu))
        exact ⟨_, .step h0 h1 hl⟩
theorem ch_ex {x i : Nat} (d : DS x c) (hi : i < c.m) (h : inT c i = true) : ∃ l, Chain c i l := by
  obtain ⟨rk, hrk⟩ := d.rk
  refine ch_in d (rk i) i ⟨rk, hrk, rfl⟩ hi ?_
  unfold inT at h
  by_cases h0 : i = 0
  · exact .inl h0
  · right
    intro e
    rw [e] at h
    simp [h0, isN] at h
theorem ch_mem {x : Nat} (d : DS x c) {rk : Nat → Nat} (hrk : ∀ i, i < c.m → ∀ b : Nat, (c.hd i).w = .int b → rk b < rk i) {i : Nat} {l : List Nat} (h : Chain c i l) : i < c.m → (∀ a ∈ l, a < c.m ∧ rk a ≤ rk i) ∧ l.Nodup := by
  induction h with
  | zero => exact fun hi => ⟨fun a ha => by cases List.mem_singleton.mp ha; exact ⟨hi, Nat.le_refl _⟩, by simp⟩
  | @step i b l h0 h1 h2 ih =>
    intro hi
    have hb : b < c.m := by
      rcases d.w i hi with h | ⟨b', hb', h⟩
      · rw [h1] at h; cases h
      · rw [h1] at h
        injection h with h
        have e := Int.ofNat.inj h
        omega
    obtain ⟨k1, k2⟩ := ih hb
    have hlt := hrk i hi b h1
    refine ⟨fun a ha => ?_, ?_⟩
    · rcases List.mem_cons.mp ha with rfl | ha
      · exact ⟨hi, Nat.le_refl _⟩
      · have := k1 a ha
        exact ⟨this.1, by omega⟩
    · rw [List.nodup_cons]
      refine ⟨fun hm => ?_, k2⟩
      have := (k1 i hm).2
      omega
theorem nodup_len : ∀ (m : Nat) (l : List Nat), l.Nodup → (∀ a ∈ l, a < m) → l.length ≤ m
  | 0, l, _, h => by
    cases l with
    | nil => exact Nat.le_refl _
    | cons a r => exact absurd (h a (List.mem_cons_self ..)) (Nat.not_lt_zero _)
  | m + 1, l, hn, h => by
    have ih := nodup_len m (l.erase m) (hn.erase m) fun a ha => by
      have h1 := h a (List.mem_of_mem_erase ha)
      have h2 : a ≠ m := fun e => by
        subst e
        exact (List.Nodup.mem_erase_iff hn).mp ha |>.1 rfl
      omega
    by_cases hm : m ∈ l
    · rw [List.length_erase_of_mem hm] at ih
      omega
    · rw [List.erase_of_not_mem hm] at ih
      omega
theorem ch_ok {x i : Nat} (d : DS x c) (hi : i < c.m) {l : List Nat} (h : Chain c i l) : (∀ a ∈ l, a < c.m) ∧ l.Nodup ∧ 1 ≤ l.length ∧ l.length ≤ c.m := by
  obtain ⟨rk, hrk⟩ := d.rk
  obtain ⟨h1, h2⟩ := ch_mem d hrk h hi
  obtain ⟨r, e⟩ := h.head
  exact ⟨fun a ha => (h1 a ha).1, h2, by rw [e]; simp, nodup_len _ _ h2 fun a ha => (h1 a ha).1⟩
/-- the way from a hand -/
def WayL (c : Co) (i : Nat) (l : List Nat) : Prop := (inT c i = true ∧ Chain c i l) ∨ (inT c i = false ∧ l = [])
theorem way_uniq {i : Nat} {l l' : List Nat} (h : WayL c i l) (h' : WayL c i l') : l = l' := by
  rcases h with ⟨h1, h2⟩ | ⟨h1, h2⟩
  · rcases h' with ⟨g1, g2⟩ | ⟨g1, g2⟩
    · exact h2.uniq g2
    · rw [h1] at g1; cases g1
  · rcases h' with ⟨g1, g2⟩ | ⟨g1, g2⟩
    · rw [h1] at g1; cases g1
    · rw [h2, g2]
abbrev natsD (l : List Nat) : List D := l.map fun (i : Nat) => D.int i
theorem natsD_app (a b : List Nat) : natsD (a ++ b) = natsD a ++ natsD b := List.map_append
/-- all debts, rising -/
def dbt (c : Co) (m : Nat) : List D := ((List.range m).filter fun i => !isN (c.hd i).w).map fun (i : Nat) => .tup [.int i, (c.hd i).w]
def dbL (c : Co) : List D := dbt c c.m
theorem dbt_succ (c : Co) (m : Nat) : dbt c (m + 1) = if isN (c.hd m).w = false then dbt c m ++ [.tup [.int m, (c.hd m).w]] else dbt c m := by
  unfold dbt
  rw [List.range_succ, List.filter_append, List.map_append]
  cases h : isN (c.hd m).w <;> simp [h]
theorem dbt_len (c : Co) (m : Nat) : (dbt c m).length ≤ m := by
  unfold dbt
  rw [List.length_map]
  exact Nat.le_trans (List.length_filter_le _ _) (by simp)
/-- the hands whose waker is k -/
def eqI (d : D) (k : Nat) : Bool := match d with
  | .int b => decide (b = k)
  | _ => false
def kid (c : Co) (k : Nat) : List Nat := (List.range c.m).filter fun j => eqI (c.hd j).w k
theorem kid_len (c : Co) (k : Nat) : (kid c k).length ≤ c.m := by
  unfold kid
  exact Nat.le_trans (List.length_filter_le _ _) (by simp)
/-- the hands in the tree -/
def trees (c : Co) (m : Nat) : List Nat := (List.range m).filter fun i => inT c i
theorem trees_succ (c : Co) (m : Nat) : trees c (m + 1) = if inT c m = true then trees c m ++ [m] else trees c m := by
  unfold trees
  rw [List.range_succ, List.filter_append]
  cases h : inT c m <;> simp [h]
theorem trees_len (c : Co) (m : Nat) : (trees c m).length ≤ m := by
  unfold trees
  exact Nat.le_trans (List.length_filter_le _ _) (by simp)
theorem trees_lt {c : Co} {m k : Nat} (h : k ∈ trees c m) : k < m := by
  unfold trees at h
  exact List.mem_range.mp (List.mem_filter.mp h).1
theorem trees_nodup (c : Co) (m : Nat) : (trees c m).Nodup := (List.nodup_range).sublist List.filter_sublist
abbrev wkL (c : Co) : List D := (List.range c.m).map fun i => (c.hd i).w
/-- outside x all stands -/
structure Ex (x : Nat) (S S' : Store) : Prop where
  len : S.length ≤ S'.length
  old : ∀ (j : Nat) o, j ≠ x → S[j]? = some o → S'[j]? = some o
theorem Ex.refl {x : Nat} {S : Store} : Ex x S S := ⟨Nat.le_refl _, fun _ _ _ h => h⟩
theorem Ex.trans {x : Nat} {S S' S'' : Store} (a : Ex x S S') (b : Ex x S' S'') : Ex x S S'' := ⟨Nat.le_trans a.len b.len, fun j o hj e => b.old j o hj (a.old j o hj e)⟩
theorem Ex.app {x : Nat} {S T : Store} : Ex x S (S ++ T) := ⟨by simp, fun _ _ _ e => at_app e⟩
theorem Ex.set {x : Nat} {S : Store} {o : O} : Ex x S (S.set x o) := ⟨by simp, fun j _ hj e => at_set_ne e (Ne.symm hj)⟩
theorem Ex.lget {x r : Nat} {S S' : Store} {xs : List D} (k : Ex x S S') (h : r ≠ x) (e : lget S r = some xs) : lget S' r = some xs := lget_iff.mpr (k.old _ _ h (lget_iff.mp e))
theorem Ex.co {x n : Nat} {S S' : Store} (k : Ex x S S') (h : CoAt S n c) (hx : x < n ∨ n + 5 + c.m ≤ x) : CoAt S' n c := ⟨k.old _ _ (by omega) h.me, k.lget (by omega) h.crew, fun i hi => k.old _ _ (by omega) (h.hand i hi), k.old _ _ (by omega) h.post, k.lget (by omega) h.rows, k.lget (by omega) h.log⟩
end

end DebtJ.Law

set_option Elab.async false
set_option linter.all false
set_option maxRecDepth 100000
set_option maxHeartbeats 1000000
namespace DebtJ.Law
open PySem L2 DebtJ
local macro_rules | `(tactic| walk_at "jr") => `(tactic| simp only [Ok_mkF, Ok_mkE, Ok_kin, Ok_mkH, St_sNo, Ok_eNo, Ok_ok, Ok_exc, Ok_no, Ok_bind, Ok_ite, Ok_some, Ok_none, St_nx, St_rt, St_exc, St_no, St_ite, St_toS, St_seq, St_next, St_expr, St_ret, St_retN, St_raise, St_if, St_asg, St_for, St_try, St_tryC, St_tryN, St_tryAs, Ok_var, Ok_c, Ok_op, Ok_tof, Ok_tand, Ok_tor, Ok_tnot, Ok_tyes, Ok_and, Ok_or, Ok_not, Ok_neg, Ok_nil, Ok_cons, Ok_tup, Ok_lst, Ok_call, Ok_meth, Ok_make, Ok_fld, Ok_sl, Ok_ono, Ok_osome, Ok_cb, Ok_bm, Ok_isi, Ok_rg1, Ok_rg2, Ok_ilst, Ok_itp, Ok_lstRg1, Ok_lstRg2, Ok_lc, St_fld, St_sub, St_asg2, k_addI, k_addS, k_sub, k_mulI, k_mod, k_fdiv, k_pow, k_lt, k_le, k_gt, k_ge, k_eqI, k_eqS, k_eqB, k_eqNI, k_eqSI, k_neI, k_neS, k_neB, k_neNI, k_eqR, k_eqT, k_neR, k_neT, k_isN, k_isB, k_isNotN, k_isNotB, k_ixL, k_ixT, k_ixC, k_lenL, k_lenT, k_lenC, k_lenS, k_intI, k_intB, k_max, k_min, k_listL, k_listT, k_tuple, k_append, k_reverse, k_slL, k_clear, List.map_cons, List.map_nil, List.length_cons, List.length_nil, List.replicate, Nat.reduceSub, Nat.reduceAdd, List.cons_append, List.nil_append, List.append_nil, List.getElem?_cons_succ, List.getElem?_cons_zero, List.getElem?_nil, List.set_cons_succ, List.set_cons_zero, if_true, if_false, Bool.false_eq_true, true_and, small_eq, Nat.reduceLeDiff, lget_new, lget_c0, isN_non, isN_bl, isN_int, isN_str, isN_tup, isN_ref, ty_non, ty_bl, ty_int, ty_str, ty_tup, kb_NoneType_int, kb_NoneType_bool, kb_NoneType_str, kb_NoneType_list, kb_NoneType_tuple, kb_bool_int, kb_bool_bool, kb_bool_str, kb_bool_list, kb_bool_tuple, kb_int_int, kb_int_bool, kb_int_str, kb_int_list, kb_int_tuple, kb_str_int, kb_str_bool, kb_str_str, kb_str_list, kb_str_tuple, kb_tuple_int, kb_tuple_bool, kb_tuple_str, kb_tuple_list, kb_tuple_tuple, kb_list_int, kb_list_bool, kb_list_str, kb_list_list, kb_list_tuple, kb_dict_int, kb_dict_bool, kb_dict_str, kb_dict_list, kb_dict_tuple, lget_cs, lstO, smallI_eq, Int.reduceEq,  decide_true, decide_false, Int.reduceLT, Int.reduceLE, Int.reduceNeg, Nat.reduceLT, and_self, and_true, Option.bind_some, atI_two, atI_c0, atI_c1, atI_c2, atI_c3, decide_eq_true_eq, Int.reduceToNat, nat10, Int.reducePow, or_true, true_or, Bool.not_true, Bool.not_false, Ok_dnew, Ok_items, Ok_lenSet, Ok_dgetR, St_dput, Ok_keysJ, kb_dict_dict])
section
variable {S S' : Store} {n : Nat} {c : Co} {E : Nat → Store → Prop} {Q : D → Store → Prop}
theorem nn {x : Nat} (d : DS x c) {i : Nat} (hi : i < c.m) : (c.hd i).w = .non ∨ ∃ b : Nat, (c.hd i).w = .int b := by
  rcases d.w i hi with h | ⟨b, _, h⟩
  · exact .inl h
  · exact .inr ⟨b, h⟩
theorem p_is_in (ns : List Int) {i : Nat} (h : CoAt S n c) (hi : i < c.m) (q : Q (.bl (inT c i)) S) : Ok E (F_is_in ns [.ref n, .int i] S) Q := by
  unfold F_is_in b_is_in
  walk_at "jr"
  refine ⟨isIns_of h.me rfl, ?_⟩
  refine co_hand ns h (by omega) (by omega) ?_
  rw [Int.toNat_natCast]
  unfold Hd.d
  walk_at "jr"
  unfold inT at q
  cases hw : isN (c.hd i).w with
  | false => rw [hw] at q; exact q
  | true =>
    rw [hw] at q
    simp only [Bool.not_true, Bool.false_or] at q ⊢
    by_cases h0 : i = 0
    · subst h0
      rw [decide_eq_true (by rfl)]
      refine ⟨isIns_of h.me rfl, ?_⟩
      refine co_runs ns h ?_
      exact q
    · rw [decide_eq_false (by omega)]
      rw [decide_eq_false h0] at q
      exact q
/-- the while of way -/
theorem way_wh (ns : List Int) {x : D} (h : CoAt S n c) (d : DS c.m c) : ∀ (m : Nat) (i : Nat) (rest : List Nat) (pre : List Nat), Chain c i (i :: rest) → i < c.m → rest.length < m → pre.length + rest.length < 1000 →
    St (fun k _ S => E k S) (whS (tOf (eOp gNe (eOp (gIx ns) (eVar 2) (eNeg (eC (.int 1)))) (eC (.int 0)))) (sExpr (eBM "list" gAppend (eVar 2) (aCons (eOp (gIx ns) (eMeth 1 "hand" (F_Company_hand ns) (eVar 0) (aCons (eOp (gIx ns) (eVar 2) (eNeg (eC (.int 1)))) aNil)) (eC (.int 2))) aNil))) m [some (.ref n), some x, some (.ref S.length)] (S ++ [O.lst (natsD (pre ++ [i]))]))
      (fun φ S' => φ = [some (.ref n), some x, some (.ref S.length)] ∧ S' = S ++ [O.lst (natsD (pre ++ i :: rest))]) (fun _ _ => False) := by
  intro m
  induction m with
  | zero => intro i rest pre _ _ h; omega
  | succ m ih =>
    intro i rest pre hch hi hm hl
    have hl1 : lget (S ++ [O.lst (natsD (pre ++ [i]))]) S.length = some (natsD (pre ++ [i])) := lget_new
    have hlast : atI (natsD (pre ++ [i])) (-1) = some (.int i) := by
      rw [natsD_app]
      exact atI_last' _ _
    refine wh_in ?_
    walk_at "jr"
    rw [hlast]
    simp only [k_neI]
    cases rest with
    | nil =>
      have h0 : i = 0 := by
        cases hch with
        | zero => rfl
        | step _ _ h2 => obtain ⟨r, e⟩ := h2.head; cases e
      subst h0
      have h0 : ¬ ((!decide (((0 : Nat) : Int) = 0)) = true) := by decide
      rw [if_neg h0]
    | cons b rest =>
      have h0 : i ≠ 0 := by
        rintro rfl
        cases hch with
        | step h _ _ => exact h rfl
      have hw : (c.hd i).w = .int b ∧ Chain c b (b :: rest) := by
        cases hch with
        | step _ h1 h2 =>
          obtain ⟨r, e⟩ := h2.head
          cases e
          exact ⟨h1, h2⟩
      have hb : b < c.m := by
        rcases d.w i hi with h | ⟨b', hb', h⟩
        · rw [hw.1] at h; cases h
        · rw [hw.1] at h
          injection h with h
          have e := Int.ofNat.inj h
          omega
      rw [if_pos (by rw [decide_eq_false (by omega)]; rfl)]
      have hc := h.app (T := [O.lst (natsD (pre ++ [i]))])
      refine ⟨recv_lst hl1, isIns_of hc.me rfl, ?_⟩
      repeat (first | rw [hl1] | rw [hlast] | simp only [Option.bind_some])
      refine co_hand ns hc (by omega) (by omega) ?_
      rw [Int.toNat_natCast]
      unfold Hd.d
      repeat (first | walk_at "jr" | simp only [hl1])
      have hlen : (natsD (pre ++ [i])).length = pre.length + 1 := by simp
      simp only [List.length_cons] at hm hl
      refine ⟨by omega, ?_⟩
      rw [set_new, hw.1]
      have e : natsD (pre ++ [i]) ++ [D.int b] = natsD ((pre ++ [i]) ++ [b]) := (natsD_app (pre ++ [i]) [b]).symm
      rw [e]
      have := ih b rest (pre ++ [i]) hw.2 hb (by omega) (by rw [List.length_append]; simp only [List.length_cons, List.length_nil]; omega)
      rw [show pre ++ [i] ++ b :: rest = pre ++ i :: b :: rest by simp] at this
      exact this
theorem p_way (ns : List Int) {i : Nat} (h : CoAt S n c) (d : DS c.m c) (hm : c.m ≤ 60) (hi : i < c.m) (q : ∀ l, WayL c i l → Q (.ref S.length) (S ++ [O.lst (natsD l)])) : Ok E (F_way ns [.ref n, .int i] S) Q := by
  unfold F_way b_way
  walk_at "jr"
  refine p_is_in ns h hi ?_
  simp only
  cases hin : inT c i with
  | false =>
    exact q [] (.inr ⟨hin, rfl⟩)
  | true =>
    obtain ⟨l, hl⟩ := ch_ex d hi hin
    obtain ⟨k1, k2, k3, k4⟩ := ch_ok d hi hl
    obtain ⟨rest, rfl⟩ := hl.head
    simp only [List.length_cons] at k4
    refine St.imp (way_wh ns (x := .int i) h d 200 i rest [] hl hi (by omega) (by simp; omega)) ?_ ?_
    · rintro φ S' ⟨rfl, rfl⟩
      walk_at "jr"
      exact q _ (.inl ⟨hin, hl⟩)
    · exact fun _ _ h => h.elim
theorem p_debts (ns : List Int) (h : CoAt S n c) (hm : c.m ≤ 60) (q : Q (.ref S.length) (S ++ [O.lst (dbL c)])) : Ok E (F_debts ns [.ref n] S) Q := by
  unfold F_debts b_debts
  have hc := h.app (T := [O.lst ([] : List D)])
  repeat (first | walk_at "jr" | simp only [hc.fCrew, hc.crew, hc.len])
  refine ⟨by omega, ?_⟩
  rw [Int.toNat_natCast]
  refine for_rg (fun i φ S' => ∃ z w, φ = [some (.ref n), some (.ref S.length), z, w] ∧ S' = S ++ [O.lst (dbt c i)]) ⟨_, _, rfl, rfl⟩ ?_ ?_
  · rintro i φ S' hi ⟨z, w, rfl, rfl⟩
    have hc2 := h.app (T := [O.lst (dbt c i)])
    walk_at "jr"
    rw [Int.zero_add]
    refine ⟨isIns_of hc2.me rfl, ?_⟩
    refine co_hand ns hc2 (by omega) (by omega) ?_
    rw [Int.toNat_natCast]
    unfold Hd.d
    walk_at "jr"
    have hl1 : lget (S ++ [O.lst (dbt c i)]) S.length = some (dbt c i) := lget_new
    have := dbt_len c i
    rw [dbt_succ]
    cases hw : isN (c.hd i).w with
    | true => exact ⟨_, _, rfl, by simp⟩
    | false =>
      simp only [Bool.not_false, if_true]
      refine ⟨recv_lst hl1, ?_⟩
      exact ⟨by omega, _, _, rfl, set_new _ _⟩
  · rintro φ S' ⟨z, w, rfl, rfl⟩
    walk_at "jr"
    exact q
end

end DebtJ.Law

set_option Elab.async false
set_option linter.all false
set_option maxRecDepth 100000
set_option maxHeartbeats 1000000
namespace DebtJ.Law
open PySem L2 DebtJ
local macro_rules | `(tactic| walk_at "jr") => `(tactic| simp only [Ok_mkF, Ok_mkE, Ok_kin, Ok_mkH, St_sNo, Ok_eNo, Ok_ok, Ok_exc, Ok_no, Ok_bind, Ok_ite, Ok_some, Ok_none, St_nx, St_rt, St_exc, St_no, St_ite, St_toS, St_seq, St_next, St_expr, St_ret, St_retN, St_raise, St_if, St_asg, St_for, St_try, St_tryC, St_tryN, St_tryAs, Ok_var, Ok_c, Ok_op, Ok_tof, Ok_tand, Ok_tor, Ok_tnot, Ok_tyes, Ok_and, Ok_or, Ok_not, Ok_neg, Ok_nil, Ok_cons, Ok_tup, Ok_lst, Ok_call, Ok_meth, Ok_make, Ok_fld, Ok_sl, Ok_ono, Ok_osome, Ok_cb, Ok_bm, Ok_isi, Ok_rg1, Ok_rg2, Ok_ilst, Ok_itp, Ok_lstRg1, Ok_lstRg2, Ok_lc, St_fld, St_sub, St_asg2, k_addI, k_addS, k_sub, k_mulI, k_mod, k_fdiv, k_pow, k_lt, k_le, k_gt, k_ge, k_eqI, k_eqS, k_eqB, k_eqNI, k_eqSI, k_neI, k_neS, k_neB, k_neNI, k_eqR, k_eqT, k_neR, k_neT, k_isN, k_isB, k_isNotN, k_isNotB, k_ixL, k_ixT, k_ixC, k_lenL, k_lenT, k_lenC, k_lenS, k_intI, k_intB, k_max, k_min, k_listL, k_listT, k_tuple, k_append, k_reverse, k_slL, k_clear, List.map_cons, List.map_nil, List.length_cons, List.length_nil, List.replicate, Nat.reduceSub, Nat.reduceAdd, List.cons_append, List.nil_append, List.append_nil, List.getElem?_cons_succ, List.getElem?_cons_zero, List.getElem?_nil, List.set_cons_succ, List.set_cons_zero, if_true, if_false, Bool.false_eq_true, true_and, small_eq, Nat.reduceLeDiff, lget_new, lget_c0, isN_non, isN_bl, isN_int, isN_str, isN_tup, isN_ref, ty_non, ty_bl, ty_int, ty_str, ty_tup, kb_NoneType_int, kb_NoneType_bool, kb_NoneType_str, kb_NoneType_list, kb_NoneType_tuple, kb_bool_int, kb_bool_bool, kb_bool_str, kb_bool_list, kb_bool_tuple, kb_int_int, kb_int_bool, kb_int_str, kb_int_list, kb_int_tuple, kb_str_int, kb_str_bool, kb_str_str, kb_str_list, kb_str_tuple, kb_tuple_int, kb_tuple_bool, kb_tuple_str, kb_tuple_list, kb_tuple_tuple, kb_list_int, kb_list_bool, kb_list_str, kb_list_list, kb_list_tuple, kb_dict_int, kb_dict_bool, kb_dict_str, kb_dict_list, kb_dict_tuple, lget_cs, lstO, smallI_eq, Int.reduceEq,  decide_true, decide_false, Int.reduceLT, Int.reduceLE, Int.reduceNeg, Nat.reduceLT, and_self, and_true, Option.bind_some, atI_two, atI_c0, atI_c1, atI_c2, atI_c3, decide_eq_true_eq, Int.reduceToNat, nat10, Int.reducePow, or_true, true_or, Bool.not_true, Bool.not_false, Ok_dnew, Ok_items, Ok_lenSet, Ok_dgetR, St_dput, Ok_keysJ, kb_dict_dict])
section
variable {S S' : Store} {n : Nat} {c : Co} {E : Nat → Store → Prop} {Q : D → Store → Prop}
/-- what stands stays -/
structure Gw (S S' : Store) : Prop where
  len : S.length ≤ S'.length
  old : ∀ (j : Nat) o, S[j]? = some o → S'[j]? = some o
theorem Gw.refl {S : Store} : Gw S S := ⟨Nat.le_refl _, fun _ _ h => h⟩
theorem Gw.trans {S S' S'' : Store} (a : Gw S S') (b : Gw S' S'') : Gw S S'' := ⟨Nat.le_trans a.len b.len, fun j o e => b.old j o (a.old j o e)⟩
theorem Gw.app {S T : Store} : Gw S (S ++ T) := ⟨by simp, fun _ _ e => at_app e⟩
theorem Gw.lget {r : Nat} {S S' : Store} {xs : List D} (k : Gw S S') (e : lget S r = some xs) : lget S' r = some xs := lget_iff.mpr (k.old _ _ (lget_iff.mp e))
theorem Gw.co (k : Gw S S') (h : CoAt S n c) : CoAt S' n c := ⟨k.old _ _ h.me, k.lget h.crew, fun i hi => k.old _ _ (h.hand i hi), k.old _ _ h.post, k.lget h.rows, k.lget h.log⟩
theorem Gw.set {i : Nat} {o : O} (k : Gw S S') (hi : S.length ≤ i) : Gw S (S'.set i o) := ⟨by simpa using k.len, fun j o e => at_set_ne (k.old j o e) (by have := lt_of_at e; omega)⟩
/-- a dict's entries -/
def KvOk (S : Store) (lo : Nat) (c : Co) (ks : List Nat) (kvs : List (Key × D)) : Prop := kvs.length = ks.length ∧ ∀ (a k : Nat), ks[a]? = some k → ∃ r, kvs[a]? = some (.inl (k : Int), .ref r) ∧ lo < r ∧ lget S r = some (natsD (kid c k))
def DuOk (S : Store) (lo : Nat) (c : Co) (ks : List Nat) (prs : List D) : Prop := prs.length = ks.length ∧ ∀ (a k : Nat), ks[a]? = some k → ∃ r, prs[a]? = some (.tup [.int k, .ref r]) ∧ lo < r ∧ lget S r = some (natsD (kid c k))
theorem KvOk.mono {lo lo' : Nat} {ks : List Nat} {kvs : List (Key × D)} (h : KvOk S lo c ks kvs) (hl : lo' ≤ lo) (k : ∀ r xs, lo < r → lget S r = some xs → lget S' r = some xs) : KvOk S' lo' c ks kvs := ⟨h.1, fun a x hx => by
  obtain ⟨r, h1, h2, h3⟩ := h.2 a x hx
  exact ⟨r, h1, by omega, k _ _ h2 h3⟩⟩
theorem DuOk.mono {lo lo' : Nat} {ks : List Nat} {kvs : List D} (h : DuOk S lo c ks kvs) (hl : lo' ≤ lo) (k : ∀ r xs, lo < r → lget S r = some xs → lget S' r = some xs) : DuOk S' lo' c ks kvs := ⟨h.1, fun a x hx => by
  obtain ⟨r, h1, h2, h3⟩ := h.2 a x hx
  exact ⟨r, h1, by omega, k _ _ h2 h3⟩⟩
theorem snoc_at {α : Type} {xs : List α} {y x : α} {a : Nat} (h : (xs ++ [y])[a]? = some x) : xs[a]? = some x ∨ (a = xs.length ∧ x = y) := by
  by_cases e : a < xs.length
  · rw [List.getElem?_append_left e] at h
    exact .inl h
  · rw [List.getElem?_append_right (by omega)] at h
    have := (List.getElem?_eq_some_iff.mp h).1
    simp at this
    have e2 : a - xs.length = 0 := by omega
    rw [e2] at h
    simp at h
    exact .inr ⟨by omega, h.symm⟩
theorem KvOk.push {lo k r : Nat} {ks : List Nat} {kvs : List (Key × D)} (h : KvOk S lo c ks kvs) (h1 : lo < r) (h2 : lget S r = some (natsD (kid c k))) : KvOk S lo c (ks ++ [k]) (kvs ++ [(.inl (k : Int), .ref r)]) := by
  refine ⟨by rw [List.length_append, List.length_append, h.1]; rfl, fun a x hx => ?_⟩
  rcases snoc_at hx with hx | ⟨e, e2⟩
  · obtain ⟨r', g1, g2, g3⟩ := h.2 a x hx
    have hl := (List.getElem?_eq_some_iff.mp g1).1
    exact ⟨r', by rw [List.getElem?_append_left hl]; exact g1, g2, g3⟩
  · subst e e2
    exact ⟨r, by rw [← h.1]; simp, h1, h2⟩
theorem DuOk.push {lo k r : Nat} {ks : List Nat} {kvs : List D} (h : DuOk S lo c ks kvs) (h1 : lo < r) (h2 : lget S r = some (natsD (kid c k))) : DuOk S lo c (ks ++ [k]) (kvs ++ [.tup [.int k, .ref r]]) := by
  refine ⟨by rw [List.length_append, List.length_append, h.1]; rfl, fun a x hx => ?_⟩
  rcases snoc_at hx with hx | ⟨e, e2⟩
  · obtain ⟨r', g1, g2, g3⟩ := h.2 a x hx
    have hl := (List.getElem?_eq_some_iff.mp g1).1
    exact ⟨r', by rw [List.getElem?_append_left hl]; exact g1, g2, g3⟩
  · subst e e2
    exact ⟨r, by rw [← h.1]; simp, h1, h2⟩
theorem KvOk.none {lo k : Nat} {ks : List Nat} {kvs : List (Key × D)} (h : KvOk S lo c ks kvs) (hk : k ∉ ks) : valD kvs (.inl (k : Int)) = none := by
  unfold valD
  rw [Option.map_eq_none_iff, List.find?_eq_none]
  intro q hq
  obtain ⟨a, ha⟩ := List.mem_iff_getElem?.mp hq
  have hl := (List.getElem?_eq_some_iff.mp ha).1
  have hk2 : a < ks.length := by rw [← h.1]; exact hl
  obtain ⟨r, g1, _, _⟩ := h.2 a _ (List.getElem?_eq_getElem hk2)
  rw [ha] at g1
  cases g1
  simp only [decide_eq_true_eq]
  intro e
  injection e with e
  have e := Int.ofNat.inj e
  exact hk (e ▸ List.getElem_mem hk2)
theorem KvOk.some {lo : Nat} {ks : List Nat} {kvs : List (Key × D)} (h : KvOk S lo c ks kvs) (hn : ks.Nodup) {a k : Nat} (ha : ks[a]? = some k) : ∃ r, kvs[a]? = some (.inl (k : Int), .ref r) ∧ lo < r ∧ lget S r = some (natsD (kid c k)) ∧ valD kvs (.inl (k : Int)) = some (.ref r) := by
  obtain ⟨r, g1, g2, g3⟩ := h.2 a k ha
  refine ⟨r, g1, g2, g3, ?_⟩
  unfold valD
  have : kvs.find? (fun kv => decide (kv.1 = .inl (k : Int))) = Option.some (.inl (k : Int), .ref r) := by
    rw [List.find?_eq_some_iff_getElem]
    obtain ⟨hl, e⟩ := List.getElem?_eq_some_iff.mp g1
    refine ⟨by simp, a, hl, e, fun j hj => ?_⟩
    have hjk : j < ks.length := by rw [← h.1]; omega
    obtain ⟨r', f1, _, _⟩ := h.2 j _ (List.getElem?_eq_getElem hjk)
    obtain ⟨hl2, e2⟩ := List.getElem?_eq_some_iff.mp f1
    rw [e2]
    simp only [Bool.not_eq_true', decide_eq_false_iff_not]
    intro z
    injection z with z
    have z := Int.ofNat.inj z
    obtain ⟨hak, eak⟩ := List.getElem?_eq_some_iff.mp ha
    have := (List.getElem_inj hn).mp (z.trans eak.symm)
    omega
  rw [this]
  rfl
/-! ### woken_by -/
theorem dbl_kid (d : DS c.m c) (k : Nat) : ((dbL c).filter (fun d => match d with
    | .tup [_, w] => eqI w k
    | _ => false)).map (fun d => match d with
    | .tup [x, _] => x
    | _ => .non) = natsD (kid c k) := by
  unfold dbL dbt kid natsD
  rw [List.filter_map, List.map_map, List.filter_filter]
  have e : ((fun d => match d with
    | .tup [x, _] => x
    | _ => .non) ∘ fun (i : Nat) => D.tup [D.int i, (c.hd i).w]) = fun (i : Nat) => D.int i := rfl
  rw [e]
  congr 1
  apply List.filter_congr
  intro i hi
  show (eqI (c.hd i).w k && !isN (c.hd i).w) = eqI (c.hd i).w k
  rcases nn d (List.mem_range.mp hi) with h | ⟨b, h⟩
  · rw [h]; rfl
  · rw [h]
    show (eqI (D.int b) k && true) = _
    rw [Bool.and_true]
theorem dbl_mem {d : D} (hd : DS c.m c) (h : d ∈ dbL c) : ∃ (i b : Nat), i < c.m ∧ d = .tup [.int i, .int b] ∧ (c.hd i).w = .int b := by
  unfold dbL dbt at h
  obtain ⟨i, hi, rfl⟩ := List.mem_map.mp h
  rw [List.mem_filter] at hi
  have hi1 := List.mem_range.mp hi.1
  rcases nn hd hi1 with h | ⟨b, h⟩
  · rw [h] at hi; exact absurd hi.2 (by decide)
  · exact ⟨i, b, hi1, by rw [h], h⟩
theorem p_woken_by (ns : List Int) (h : CoAt S n c) (d : DS c.m c) (hm : c.m ≤ 60) (q : ∀ S' kvs, Gw S S' → S'[S.length]? = some (.dic kvs) → KvOk S' S.length c (trees c c.m) kvs → Q (.ref S.length) S') : Ok E (F_woken_by ns [.ref n] S) Q := by
  unfold F_woken_by b_woken_by
  have hc := h.app (T := [O.dic []])
  repeat (first | walk_at "jr" | simp only [hc.fCrew, hc.crew, hc.len])
  refine ⟨by omega, ?_⟩
  rw [Int.toNat_natCast]
  refine for_rg (fun i φ S' => ∃ z kvs, φ = [some (.ref n), some (.ref S.length), z, none] ∧ Gw S S' ∧ S'[S.length]? = some (.dic kvs) ∧ KvOk S' S.length c (trees c i) kvs) ⟨_, [], rfl, Gw.app, by simp, rfl, fun a k hk => by simp [trees] at hk⟩ ?_ ?_
  · rintro i φ S' hi ⟨z, kvs, rfl, g, hd, hk⟩
    have hc2 := g.co h
    walk_at "jr"
    rw [Int.zero_add]
    refine p_is_in ns hc2 hi ?_
    simp only
    rw [trees_succ]
    cases hin : inT c i with
    | false => exact ⟨_, _, rfl, g, hd, hk⟩
    | true =>
      simp only [if_true]
      refine p_debts ns hc2 hm ?_
      simp only [lget_new]
      have hl : (dbL c).length ≤ c.m := dbt_len c c.m
      refine lc_gr (S := S' ++ [O.lst (dbL c)]) (dbL c) (fun d => match d with
        | .tup [_, w] => eqI w i
        | _ => false) (fun d => match d with
        | .tup [x, _] => x
        | _ => .non) rfl (by omega) (fun j T hj => ?_) (fun T => ?_) (fun x T hx => ?_) (fun x T hx _ => ?_) ?_
      · exact hd_get (lget_app lget_new)
      · exact hd_fin (lget_app lget_new) (Nat.le_refl _)
      · obtain ⟨a, b, _, rfl, _⟩ := dbl_mem d hx
        walk_at "jr"
        exact ⟨rfl, [], by simp⟩
      · obtain ⟨a, b, _, rfl, _⟩ := dbl_mem d hx
        walk_at "jr"
        exact ⟨[], by simp⟩
      · intro T
        rw [dbl_kid d]
        have g2 : Gw S' (S' ++ [O.lst (dbL c)] ++ O.lst (natsD (kid c i)) :: T) := by
          rw [List.append_assoc]
          exact Gw.app
        have hS : S.length < S'.length := lt_of_at hd
        have hr : lget (S' ++ [O.lst (dbL c)] ++ O.lst (natsD (kid c i)) :: T) (S' ++ [O.lst (dbL c)]).length = some (natsD (kid c i)) := lget_at_len
        have hr2 : S.length < (S' ++ [O.lst (dbL c)]).length := by simp; omega
        have e1 : dget (S' ++ [O.lst (dbL c)] ++ O.lst (natsD (kid c i)) :: T) S.length = some kvs := dget_iff.mpr (g2.old _ _ hd)
        generalize S' ++ [O.lst (dbL c)] ++ O.lst (natsD (kid c i)) :: T = S2 at g2 hr e1
        generalize (S' ++ [O.lst (dbL c)]).length = r at hr hr2
        simp only [keyD, e1]
        have hlen := trees_len c i
        refine ⟨⟨by rw [hk.1]; omega, hk.none fun hm => by have := trees_lt hm; omega⟩, _, _, rfl, (g.trans g2).set (Nat.le_refl _), at_set_eq (dget_iff.mp e1), ?_⟩
        refine KvOk.push (hk.mono (Nat.le_refl _) fun r xs hr e => lget_set_ne (g2.lget e) (by omega)) hr2 (lget_set_ne hr (by omega))
  · rintro φ S' ⟨z, kvs, rfl, g, hd, hk⟩
    walk_at "jr"
    exact q S' kvs g hd hk
/-! ### the law's own -/
theorem p_due (ns : List Int) {rw : Nat} (h : CoAt S n c) (d : DS c.m c) (hm : c.m ≤ 60) (hw : lget S rw = some (wkL c)) (q : ∀ S' prs, Gw S S' → lget S' S.length = some prs → DuOk S' S.length c (trees c c.m) prs → Q (.ref S.length) S') : Ok E (F_law_woken_due ns [.ref n, .int c.m, .ref rw] S) Q := by
  unfold F_law_woken_due b_law_woken_due
  walk_at "jr"
  refine ⟨by omega, ?_⟩
  rw [Int.toNat_natCast]
  have hwk : ∀ {T : Store} {i : Nat}, i < c.m → lget T rw = some (wkL c) → (lget T rw).bind (fun xs => atI xs (i : Int)) = some (c.hd i).w := by
    intro T i hi e
    rw [e, Option.bind_some, atI_lit, List.getElem?_map, List.getElem?_range hi]
    rfl
  refine for_rg (fun i φ S' => ∃ z prs, φ = [some (.ref n), some (.int c.m), some (.ref rw), some (.ref S.length), z, none] ∧ Gw S S' ∧ lget S' S.length = some prs ∧ DuOk S' S.length c (trees c i) prs) ⟨_, [], rfl, Gw.app, lget_new, rfl, fun a k hk => by simp [trees] at hk⟩ ?_ ?_
  · rintro i φ S' hi ⟨z, prs, rfl, g, hl, hk⟩
    have hc2 := g.co h
    have hw2 := g.lget hw
    have hS : S.length < S'.length := lt_of_at (lget_iff.mp hl)
    rw [trees_succ, St_if]
    refine Ok.imp (Q := fun b S1 => b = inT c i ∧ S1 = S') ?_ ?_
    · walk_at "jr"
      simp only [Int.zero_add, hwk hi hw2]
      unfold inT
      cases hw0 : isN (c.hd i).w with
      | false => simp
      | true =>
        rw [if_neg (by decide)]
        by_cases h0 : i = 0
        · subst h0
          rw [if_pos (show ((0 : Nat) : Int) = 0 from rfl)]
          refine ⟨isIns_of hc2.me rfl, ?_⟩
          refine co_runs ns hc2 ?_
          exact ⟨by simp, rfl⟩
        · rw [if_neg (by omega)]
          simp [h0]
    · rintro b S1 ⟨rfl, rfl⟩
      cases hin : inT c i with
      | false => exact ⟨_, _, rfl, g, hl, hk⟩
      | true =>
        simp only [if_true]
        walk_at "jr"
        refine ⟨recv_lst hl, by omega, ?_⟩
        rw [Int.toNat_natCast, lc_rgP (fun j => eqI (c.hd j).w i) (fun j => .int j) (by omega) ?st]
        case st =>
          intro j acc hj
          walk_at "jr"
          simp only [hwk hj (lget_app hw2)]
          rcases nn d hj with e | ⟨b, e⟩
          · rw [e]
            walk_at "jr"
            exact ⟨rfl, fun h => by cases h⟩
          · rw [e]
            walk_at "jr"
            refine ⟨by rw [Int.zero_add]; rfl, fun _ => ?_⟩
            first | trivial | rfl
        have g2 : Gw S1 (S1 ++ [O.lst (natsD (kid c i))]) := Gw.app
        have hr : lget (S1 ++ [O.lst (natsD (kid c i))]) S1.length = some (natsD (kid c i)) := lget_new
        rw [show (((List.range c.m).filter fun j => eqI (c.hd j).w i).map fun (j : Nat) => D.int j) = natsD (kid c i) from rfl]
        have e1 := g2.lget hl
        generalize S1 ++ [O.lst (natsD (kid c i))] = S2 at g2 hr e1
        simp only [e1, Int.zero_add]
        have hlen := trees_len c i
        have hkl := hk.1
        refine ⟨by omega, _, _, rfl, (g.trans g2).set (Nat.le_refl _), lget_set_eq (lget_iff.mp e1), ?_⟩
        exact DuOk.push (hk.mono (Nat.le_refl _) fun r xs hr e => lget_set_ne (g2.lget e) (by omega)) hS (lget_set_ne hr (by omega))
  · rintro φ S' ⟨z, prs, rfl, g, hl, hk⟩
    walk_at "jr"
    exact q S' prs g hl hk
end

end DebtJ.Law

set_option Elab.async false
set_option linter.all false
set_option maxRecDepth 100000
set_option maxHeartbeats 1000000
namespace DebtJ.Law
open PySem L2 DebtJ
local macro_rules | `(tactic| walk_at "jr") => `(tactic| simp only [Ok_mkF, Ok_mkE, Ok_kin, Ok_mkH, St_sNo, Ok_eNo, Ok_ok, Ok_exc, Ok_no, Ok_bind, Ok_ite, Ok_some, Ok_none, St_nx, St_rt, St_exc, St_no, St_ite, St_toS, St_seq, St_next, St_expr, St_ret, St_retN, St_raise, St_if, St_asg, St_for, St_try, St_tryC, St_tryN, St_tryAs, Ok_var, Ok_c, Ok_op, Ok_tof, Ok_tand, Ok_tor, Ok_tnot, Ok_tyes, Ok_and, Ok_or, Ok_not, Ok_neg, Ok_nil, Ok_cons, Ok_tup, Ok_lst, Ok_call, Ok_meth, Ok_make, Ok_fld, Ok_sl, Ok_ono, Ok_osome, Ok_cb, Ok_bm, Ok_isi, Ok_rg1, Ok_rg2, Ok_ilst, Ok_itp, Ok_lstRg1, Ok_lstRg2, Ok_lc, St_fld, St_sub, St_asg2, k_addI, k_addS, k_sub, k_mulI, k_mod, k_fdiv, k_pow, k_lt, k_le, k_gt, k_ge, k_eqI, k_eqS, k_eqB, k_eqNI, k_eqSI, k_neI, k_neS, k_neB, k_neNI, k_eqR, k_eqT, k_neR, k_neT, k_isN, k_isB, k_isNotN, k_isNotB, k_ixL, k_ixT, k_ixC, k_lenL, k_lenT, k_lenC, k_lenS, k_intI, k_intB, k_max, k_min, k_listL, k_listT, k_tuple, k_append, k_reverse, k_slL, k_clear, List.map_cons, List.map_nil, List.length_cons, List.length_nil, List.replicate, Nat.reduceSub, Nat.reduceAdd, List.cons_append, List.nil_append, List.append_nil, List.getElem?_cons_succ, List.getElem?_cons_zero, List.getElem?_nil, List.set_cons_succ, List.set_cons_zero, if_true, if_false, Bool.false_eq_true, true_and, small_eq, Nat.reduceLeDiff, lget_new, lget_c0, isN_non, isN_bl, isN_int, isN_str, isN_tup, isN_ref, ty_non, ty_bl, ty_int, ty_str, ty_tup, kb_NoneType_int, kb_NoneType_bool, kb_NoneType_str, kb_NoneType_list, kb_NoneType_tuple, kb_bool_int, kb_bool_bool, kb_bool_str, kb_bool_list, kb_bool_tuple, kb_int_int, kb_int_bool, kb_int_str, kb_int_list, kb_int_tuple, kb_str_int, kb_str_bool, kb_str_str, kb_str_list, kb_str_tuple, kb_tuple_int, kb_tuple_bool, kb_tuple_str, kb_tuple_list, kb_tuple_tuple, kb_list_int, kb_list_bool, kb_list_str, kb_list_list, kb_list_tuple, kb_dict_int, kb_dict_bool, kb_dict_str, kb_dict_list, kb_dict_tuple, lget_cs, lstO, smallI_eq, Int.reduceEq,  decide_true, decide_false, Int.reduceLT, Int.reduceLE, Int.reduceNeg, Nat.reduceLT, and_self, and_true, Option.bind_some, atI_two, atI_c0, atI_c1, atI_c2, atI_c3, decide_eq_true_eq, Int.reduceToNat, nat10, Int.reducePow, or_true, true_or, Bool.not_true, Bool.not_false, Ok_dnew, Ok_items, Ok_lenSet, Ok_dgetR, St_dput, Ok_keysJ, kb_dict_dict])
section
variable {S S' : Store} {n : Nat} {c : Co} {E : Nat → Store → Prop} {Q : D → Store → Prop}
/-- a list of copies, and the dict -/
def DP (S : Store) (lo : Nat) (x : D) : Prop := ∃ e L f cps kvs, x = .ref e ∧ lo ≤ e ∧ lo ≤ L ∧ lo ≤ f ∧ lget S e = some [.ref L, .ref f] ∧ lget S L = some cps ∧ S[f]? = some (.dic kvs) ∧ cps.length = kvs.length ∧ kvs.length ≤ 60 ∧
  ∀ (a : Nat) q, kvs[a]? = some q → ∃ (k r r' : Nat) (zs : List Nat), q = (.inl (k : Int), .ref r) ∧ cps[a]? = some (.tup [.int k, .ref r']) ∧ lo ≤ r ∧ lo ≤ r' ∧ lget S r = some (natsD zs) ∧ lget S r' = some (natsD zs)
theorem DP.mono {lo lo' : Nat} {x : D} (h : DP S lo x) (hl : lo' ≤ lo) (k : ∀ (j : Nat) o, lo ≤ j → S[j]? = some o → S'[j]? = some o) : DP S' lo' x := by
  obtain ⟨e, L, f, cps, kvs, h0, h1, h2, h3, h4, h5, h6, h7, h8, h9⟩ := h
  refine ⟨e, L, f, cps, kvs, h0, by omega, by omega, by omega, lget_iff.mpr (k _ _ h1 (lget_iff.mp h4)), lget_iff.mpr (k _ _ h2 (lget_iff.mp h5)), k _ _ h3 h6, h7, h8, fun a q hq => ?_⟩
  obtain ⟨k', r, r', zs, g1, g2, g3, g4, g5, g6⟩ := h9 a q hq
  exact ⟨k', r, r', zs, g1, g2, by omega, by omega, lget_iff.mpr (k _ _ g3 (lget_iff.mp g5)), lget_iff.mpr (k _ _ g4 (lget_iff.mp g6))⟩
theorem natsD_fs (l : List Nat) : ∀ x ∈ natsD l, fsB x = true := by
  intro x hx
  obtain ⟨i, _, rfl⟩ := List.mem_map.mp hx
  rfl
theorem natsD_fl (l : List Nat) : ∀ x ∈ natsD l, Fl x := by
  intro x hx
  obtain ⟨i, _, rfl⟩ := List.mem_map.mp hx
  rfl
theorem natsD_len (l : List Nat) : (natsD l).length = l.length := List.length_map _
theorem p_woken_good (ns : List Int) {rw p : Nat} {ps : List D} (h : CoAt S n c) (d : DS c.m c) (hm : c.m ≤ 60) (hw : lget S rw = some (wkL c)) (hp : lget S p = some ps) (hpl : ps.length ≤ 1000) (hpo : p < n ∨ n + 5 + c.m ≤ p)
    (q : ∀ S' x, Ex p S S' → lget S' p = some (ps ++ [x]) → DP S' S.length x → Q (.bl true) S') : Ok E (F_law_woken_good ns [.ref n, .int c.m, .ref rw, .ref p] S) Q := by
  have hpS : p < S.length := lt_of_at (lget_iff.mp hp)
  have htl := trees_len c c.m
  have hnd := trees_nodup c c.m
  unfold F_law_woken_good b_law_woken_good
  walk_at "jr"
  refine p_woken_by ns h d hm fun S1 kvs g1 hd1 hk1 => ?_
  have hS1 : S.length < S1.length := lt_of_at hd1
  have hkl := hk1.1
  repeat (first | walk_at "jr" | simp only [ty_d (dget_iff.mpr hd1), dget_iff.mpr hd1])
  have hcX : CoAt (S1 ++ [O.lst (itemsD kvs)]) n c := Gw.co Gw.app (g1.co h)
  have hwX : lget (S1 ++ [O.lst (itemsD kvs)]) rw = some (wkL c) := lget_app (g1.lget hw)
  with_reducible refine p_due ns hcX d hm hwX fun S2 prs g2 hl2 hk2 => ?_
  have hAB : (S1 ++ [O.lst (itemsD kvs)]).length = S1.length + 1 := by simp
  have li2 : lget S2 S1.length = some (itemsD kvs) := g2.lget lget_new
  have gg2 : Gw S1 S2 := Gw.trans Gw.app g2
  have hk12 : KvOk S2 S.length c (trees c c.m) kvs := hk1.mono (Nat.le_refl _) fun r xs _ e => gg2.lget e
  have hal : Alk S2 5 (.ref S1.length) (.ref (S1 ++ [O.lst (itemsD kvs)]).length) := by
    refine ⟨_, _, li2, hl2, by unfold itemsD; rw [List.length_map, hk2.1, hkl], by rw [hk2.1]; omega, fun i x y hx hy => ?_⟩
    have hi : i < (trees c c.m).length := by rw [← hk2.1]; exact (List.getElem?_eq_some_iff.mp hy).1
    obtain ⟨r, e1, e2, e3⟩ := hk12.2 i _ (List.getElem?_eq_getElem hi)
    obtain ⟨r2, f1, f2, f3⟩ := hk2.2 i _ (List.getElem?_eq_getElem hi)
    unfold itemsD at hx
    rw [List.getElem?_map, e1] at hx
    rw [f1] at hy
    cases hx; cases hy
    refine ⟨rfl, by show 2 ≤ 16777216; decide, fun j x y hx hy => ?_⟩
    match j, hx, hy with
    | 0, hx, hy =>
      cases hx; cases hy
      exact rfl
    | 1, hx, hy =>
      cases hx; cases hy
      have hkl := kid_len c (trees c c.m)[i]
      exact Alk_lst (k := 0) e3 f3 (by rw [natsD_len]; omega) (natsD_fs _)
  rw [alike_eq ns hal]
  have gS2 : Gw S S2 := g1.trans gg2
  have hd2 : S2[S.length]? = some (.dic kvs) := gg2.old _ _ hd1
  have hS2 : S.length < S2.length := lt_of_at hd2
  clear hal li2 hl2 hk2 hk1
  walk_at "jr"
  refine ⟨recv_lst (gS2.lget hp), ?_⟩
  refine lockE_in (n := S.length) rfl (dget_iff.mpr hd2) ?_
  have hf3 : (S2.set S.length (.frd kvs))[S.length]? = some (.frd kvs) := at_set_eq hd2
  have gS3 : Gw S (S2.set S.length (.frd kvs)) := gS2.set (Nat.le_refl _)
  have hk3 : KvOk (S2.set S.length (.frd kvs)) S.length c (trees c c.m) kvs := hk12.mono (Nat.le_refl _) fun r xs hr e => lget_set_ne e (by omega)
  have hlen3 : (S2.set S.length (.frd kvs)).length = S2.length := by simp
  generalize S2.set S.length (.frd kvs) = S3 at hf3 gS3 hk3 hlen3
  repeat (first | walk_at "jr" | simp only [hf3])
  have key : ∀ {o : Option Store} {P Q : Store → Prop}, (match o with
      | some S => P S
      | none => False) → (∀ S, P S → Q S) → match o with
      | some S => Q S
      | none => False := by
    intro o P Q h q
    cases o with
    | none => exact h
    | some S => exact q S h
  refine key (P := fun S' => ∃ cps, lget S' S3.length = some cps ∧ Gw S3 S' ∧ DuOk S' S3.length c (trees c c.m) cps) (lc_inv (t := kyI kvs) (fun i acc S' => i ≤ (trees c c.m).length ∧ lget S' S3.length = some acc ∧ Gw S3 S' ∧ DuOk S' S3.length c ((trees c c.m).take i) acc) ?_ ?_ ?_ ?_ _ 0 [] _ (Nat.zero_add _) ⟨Nat.zero_le _, lget_new, Gw.app, rfl, fun a k hk => by simp at hk⟩) ?_
  · rintro i acc S' ⟨a0, a1, a2, a3⟩
    refine ⟨a1, ?_⟩
    rw [a3.1, List.length_take]
    omega
  · show kvs.length < 16777216
    omega
  · rintro i acc S' hi ⟨a0, a1, a2, a3⟩
    have hi' : i < kvs.length := hi
    have hit : i < (trees c c.m).length := by omega
    have hti := List.getElem?_eq_getElem hit
    obtain ⟨r, e1, e2, e3, e4⟩ := hk3.some hnd hti
    have htk : (trees c c.m).take (i + 1) = (trees c c.m).take i ++ [(trees c c.m)[i]] := by rw [List.take_succ, hti]; rfl
    rw [htk]
    generalize (trees c c.m)[i] = k at *
    refine ⟨.int k, ?_, ?_⟩
    · show (kvs[i]?).map (fun q => kD q.1) = _
      rw [e1]
      rfl
    · have hfr : dgetR S' S.length = some kvs := by
        unfold dgetR
        rw [a2.old _ _ hf3]
      have hlr := a2.lget e3
      have hS' : S3.length < S'.length := lt_of_at (lget_iff.mp a1)
      repeat (first | walk_at "jr" | simp only [keyD, hfr, Option.bind_some, e4, hlr])
      have b1 : lget (S' ++ [O.lst (natsD (kid c k))]) S3.length = some acc := lget_app a1
      refine ⟨b1, by omega, lget_set_eq (lget_iff.mp b1), (a2.trans Gw.app).set (Nat.le_refl _), ?_⟩
      refine DuOk.push (a3.mono (Nat.le_refl _) fun r xs hr e => lget_set_ne (lget_app e) (by omega)) hS' (lget_set_ne lget_new (by omega))
  · rintro acc S' ⟨a0, a1, a2, a3⟩
    refine ⟨rfl, acc, a1, a2, ?_⟩
    have : (kyI kvs).n = (trees c c.m).length := hkl
    rw [this, List.take_of_length_le (Nat.le_refl _)] at a3
    exact a3
  rintro S4 ⟨cps, c1, c2, c3⟩
  refine ⟨⟨_, c2.old _ _ hf3⟩, ?_⟩
  have gS4 : Gw S (S4.set S.length (.dic kvs)) := (gS3.trans c2).set (Nat.le_refl _)
  have hd5 : (S4.set S.length (.dic kvs))[S.length]? = some (.dic kvs) := at_set_eq (c2.old _ _ hf3)
  have hc5 : lget (S4.set S.length (.dic kvs)) S3.length = some cps := lget_set_ne c1 (by omega)
  have hk5 : KvOk (S4.set S.length (.dic kvs)) S.length c (trees c c.m) kvs := hk3.mono (Nat.le_refl _) fun r xs hr e => lget_set_ne (c2.lget e) (by omega)
  have hu5 : DuOk (S4.set S.length (.dic kvs)) S3.length c (trees c c.m) cps := c3.mono (Nat.le_refl _) fun r xs hr e => lget_set_ne e (by omega)
  have hL : S.length < S3.length := by omega
  generalize S4.set S.length (.dic kvs) = S5 at gS4 hd5 hc5 hk5 hu5
  generalize S3.length = L at *
  have hS5 : L < S5.length := lt_of_at (lget_iff.mp hc5)
  have hp5 : lget (S5 ++ [O.lst [.ref L, .ref S.length]]) p = some ps := lget_app (gS4.lget hp)
  rw [hp5]
  simp only
  refine ⟨by omega, ?_⟩
  have x6 : Ex p S ((S5 ++ [O.lst [.ref L, .ref S.length]]).set p (.lst (ps ++ [.ref S5.length]))) := by
    refine ⟨?_, fun j o hj e => at_set_ne (at_app (gS4.old _ _ e)) (Ne.symm hj)⟩
    have := gS4.len
    simp
    omega
  have up : ∀ (j : Nat) o, j ≠ p → S5[j]? = some o → ((S5 ++ [O.lst [.ref L, .ref S.length]]).set p (.lst (ps ++ [.ref S5.length])))[j]? = some o := fun j o hj e => at_set_ne (at_app e) (Ne.symm hj)
  have upl : ∀ (j : Nat) xs, j ≠ p → lget S5 j = some xs → lget ((S5 ++ [O.lst [.ref L, .ref S.length]]).set p (.lst (ps ++ [.ref S5.length]))) j = some xs := fun j xs hj e => lget_iff.mpr (up _ _ hj (lget_iff.mp e))
  have hp6 : lget ((S5 ++ [O.lst [.ref L, .ref S.length]]).set p (.lst (ps ++ [.ref S5.length]))) p = some (ps ++ [.ref S5.length]) := lget_set_eq (lget_iff.mp hp5)
  have he6 : lget ((S5 ++ [O.lst [.ref L, .ref S.length]]).set p (.lst (ps ++ [.ref S5.length]))) S5.length = some [.ref L, .ref S.length] := lget_set_ne lget_new (by omega)
  have hx6 : DP ((S5 ++ [O.lst [.ref L, .ref S.length]]).set p (.lst (ps ++ [.ref S5.length]))) S.length (.ref S5.length) := by
    refine ⟨S5.length, L, S.length, cps, kvs, rfl, by omega, by omega, Nat.le_refl _, he6, upl _ _ (by omega) hc5, up _ _ (by omega) hd5, by rw [hu5.1, hkl], by omega, fun a q hq => ?_⟩
    have hat : a < (trees c c.m).length := by rw [← hkl]; exact (List.getElem?_eq_some_iff.mp hq).1
    obtain ⟨r, e1, e2, e3⟩ := hk5.2 a _ (List.getElem?_eq_getElem hat)
    obtain ⟨r2, f1, f2, f3⟩ := hu5.2 a _ (List.getElem?_eq_getElem hat)
    rw [e1] at hq
    cases hq
    exact ⟨_, r, r2, _, rfl, f1, by omega, by omega, upl _ _ (by omega) e3, upl _ _ (by omega) f3⟩
  have hl6 : S5.length + 1 = ((S5 ++ [O.lst [.ref L, .ref S.length]]).set p (.lst (ps ++ [.ref S5.length]))).length := by simp
  generalize (S5 ++ [O.lst [.ref L, .ref S.length]]).set p (.lst (ps ++ [.ref S5.length])) = S6 at x6 hp6 hx6 hl6
  have hc6 : CoAt S6 n c := x6.co h hpo
  with_reducible refine p_woken_by ns hc6 d hm fun S7 kvs7 g7 hd7 hk7 => ?_
  have hS7 : S6.length < S7.length := lt_of_at hd7
  refine lockS_in (n := S6.length) rfl (dget_iff.mpr hd7) ?_
  have hf8 : (S7.set S6.length (.frd kvs7))[S6.length]? = some (.frd kvs7) := at_set_eq hd7
  have g8 : Gw S6 (S7.set S6.length (.frd kvs7)) := g7.set (Nat.le_refl _)
  have hk8 : KvOk (S7.set S6.length (.frd kvs7)) S6.length c (trees c c.m) kvs7 := hk7.mono (Nat.le_refl _) fun r xs hr e => lget_set_ne e (by omega)
  generalize S7.set S6.length (.frd kvs7) = S8 at hf8 g8 hk8
  repeat (first | walk_at "jr" | simp only [hf8])
  refine for_ky (fun i φ S' => ∃ z, φ = [some (.ref n), some (.int c.m), some (.ref rw), some (.ref p), some (.ref S.length), some (.ref S6.length), z] ∧ Gw S6 S' ∧ S'[S6.length]? = some (.frd kvs7) ∧ ∀ (a k : Nat), (trees c c.m)[a]? = some k → ∃ r xs, kvs7[a]? = some (.inl (k : Int), .ref r) ∧ S6.length < r ∧ valD kvs7 (.inl (k : Int)) = some (.ref r) ∧ lget S' r = some xs ∧ xs.length ≤ 60 + i) ⟨_, rfl, g8, hf8, fun a k hk => ?_⟩ ?_ ?_
  · obtain ⟨r, e1, e2, e3, e4⟩ := hk8.some hnd hk
    have := kid_len c k
    exact ⟨r, _, e1, e2, e4, e3, by rw [natsD_len]; omega⟩
  · rintro i φ S' q0 hq ⟨z, rfl, a1, a2, a3⟩
    have hil : i < kvs7.length := (List.getElem?_eq_some_iff.mp hq).1
    have hit : i < (trees c c.m).length := by rw [← hk8.1]; exact hil
    obtain ⟨r, xs, e1, e2, e3, e4, e5⟩ := a3 i _ (List.getElem?_eq_getElem hit)
    rw [e1] at hq
    cases hq
    generalize (trees c c.m)[i] = k at *
    have hfr : dgetR S' S6.length = some kvs7 := by
      unfold dgetR
      rw [a2]
    show St _ (sExpr _ ([some (.ref n), some (.int c.m), some (.ref rw), some (.ref p), some (.ref S.length), some (.ref S6.length), z].set 6 (some (.int k))) S') _ _
    repeat (first | walk_at "jr" | simp only [keyD, hfr, Option.bind_some, e3])
    refine ⟨recv_lst e4, ?_⟩
    repeat (first | walk_at "jr" | simp only [keyD, hfr, Option.bind_some, e3, e4])
    refine ⟨by omega, _, rfl, a1.set (by omega), at_set_ne a2 (by omega), fun a k' hk' => ?_⟩
    obtain ⟨r', xs', f1, f2, f3, f4, f5⟩ := a3 a k' hk'
    by_cases er : r = r'
    · subst er
      rw [e4] at f4
      cases f4
      exact ⟨r, _, f1, f2, f3, lget_set_eq (lget_iff.mp e4), by rw [List.length_append]; simp; omega⟩
    · exact ⟨r', xs', f1, f2, f3, lget_set_ne f4 er, by omega⟩
  · rintro φ S' ⟨z, rfl, a1, a2, a3⟩
    refine ⟨⟨_, a2⟩, ?_⟩
    have g9 : Gw S6 (S'.set S6.length (.dic kvs7)) := a1.set (Nat.le_refl _)
    refine q _ (.ref S5.length) ⟨Nat.le_trans x6.len g9.len, fun j o hj e => g9.old _ _ (x6.old j o hj e)⟩ (g9.lget hp6) (hx6.mono (Nat.le_refl _) fun j o _ e => g9.old j o e)
end

end DebtJ.Law

set_option Elab.async false
set_option linter.all false
set_option maxRecDepth 100000
set_option maxHeartbeats 1000000
namespace DebtJ.Law
open PySem L2 DebtJ
local macro_rules | `(tactic| walk_at "jr") => `(tactic| simp only [Ok_mkF, Ok_mkE, Ok_kin, Ok_mkH, St_sNo, Ok_eNo, Ok_ok, Ok_exc, Ok_no, Ok_bind, Ok_ite, Ok_some, Ok_none, St_nx, St_rt, St_exc, St_no, St_ite, St_toS, St_seq, St_next, St_expr, St_ret, St_retN, St_raise, St_if, St_asg, St_for, St_try, St_tryC, St_tryN, St_tryAs, Ok_var, Ok_c, Ok_op, Ok_tof, Ok_tand, Ok_tor, Ok_tnot, Ok_tyes, Ok_and, Ok_or, Ok_not, Ok_neg, Ok_nil, Ok_cons, Ok_tup, Ok_lst, Ok_call, Ok_meth, Ok_make, Ok_fld, Ok_sl, Ok_ono, Ok_osome, Ok_cb, Ok_bm, Ok_isi, Ok_rg1, Ok_rg2, Ok_ilst, Ok_itp, Ok_lstRg1, Ok_lstRg2, Ok_lc, St_fld, St_sub, St_asg2, k_addI, k_addS, k_sub, k_mulI, k_mod, k_fdiv, k_pow, k_lt, k_le, k_gt, k_ge, k_eqI, k_eqS, k_eqB, k_eqNI, k_eqSI, k_neI, k_neS, k_neB, k_neNI, k_eqR, k_eqT, k_neR, k_neT, k_isN, k_isB, k_isNotN, k_isNotB, k_ixL, k_ixT, k_ixC, k_lenL, k_lenT, k_lenC, k_lenS, k_intI, k_intB, k_max, k_min, k_listL, k_listT, k_tuple, k_append, k_reverse, k_slL, k_clear, List.map_cons, List.map_nil, List.length_cons, List.length_nil, List.replicate, Nat.reduceSub, Nat.reduceAdd, List.cons_append, List.nil_append, List.append_nil, List.getElem?_cons_succ, List.getElem?_cons_zero, List.getElem?_nil, List.set_cons_succ, List.set_cons_zero, if_true, if_false, Bool.false_eq_true, true_and, small_eq, Nat.reduceLeDiff, lget_new, lget_c0, isN_non, isN_bl, isN_int, isN_str, isN_tup, isN_ref, ty_non, ty_bl, ty_int, ty_str, ty_tup, kb_NoneType_int, kb_NoneType_bool, kb_NoneType_str, kb_NoneType_list, kb_NoneType_tuple, kb_bool_int, kb_bool_bool, kb_bool_str, kb_bool_list, kb_bool_tuple, kb_int_int, kb_int_bool, kb_int_str, kb_int_list, kb_int_tuple, kb_str_int, kb_str_bool, kb_str_str, kb_str_list, kb_str_tuple, kb_tuple_int, kb_tuple_bool, kb_tuple_str, kb_tuple_list, kb_tuple_tuple, kb_list_int, kb_list_bool, kb_list_str, kb_list_list, kb_list_tuple, kb_dict_int, kb_dict_bool, kb_dict_str, kb_dict_list, kb_dict_tuple, lget_cs, lstO, smallI_eq, Int.reduceEq,  decide_true, decide_false, Int.reduceLT, Int.reduceLE, Int.reduceNeg, Nat.reduceLT, and_self, and_true, Option.bind_some, atI_two, atI_c0, atI_c1, atI_c2, atI_c3, decide_eq_true_eq, Int.reduceToNat, nat10, Int.reducePow, or_true, true_or, Bool.not_true, Bool.not_false, Ok_dnew, Ok_items, Ok_lenSet, Ok_dgetR, St_dput, Ok_keysJ, kb_dict_dict])
section
variable {S S' : Store} {n : Nat} {c : Co} {E : Nat → Store → Prop} {Q : D → Store → Prop}
theorem wk_at {T : Store} {rw i : Nat} (hi : i < c.m) (e : lget T rw = some (wkL c)) : (lget T rw).bind (fun xs => atI xs (i : Int)) = some (c.hd i).w := by
  rw [e, Option.bind_some, atI_lit, List.getElem?_map, List.getElem?_range hi]
  rfl
theorem dbl_fs (d : DS c.m c) : (∀ x ∈ dbL c, fsB x = true) ∧ ∀ x ∈ dbL c, Fl x := by
  refine ⟨fun x hx => ?_, fun x hx => ?_⟩
  · obtain ⟨i, b, _, rfl, _⟩ := dbl_mem d hx
    rfl
  · obtain ⟨i, b, _, rfl, _⟩ := dbl_mem d hx
    exact Fl_tup (x := .none) (by intro d hd; simp only [List.mem_cons, List.not_mem_nil, or_false] at hd; rcases hd with rfl | rfl <;> rfl)
theorem p_debts_good (ns : List Int) {rw h : Nat} {hs : List D} (hc : CoAt S n c) (d : DS c.m c) (hm : c.m ≤ 60) (hw : lget S rw = some (wkL c)) (hh : lget S h = some hs) (hl : hs.length ≤ 1000) (ho : h < n ∨ n + 5 + c.m ≤ h)
    (q : ∀ S' x, Ex h S S' → lget S' h = some (hs ++ [x]) → PairIn S.length S' x → Q (.bl true) S') : Ok E (F_law_debts_good ns [.ref n, .int c.m, .ref rw, .ref h] S) Q := by
  have hhS : h < S.length := lt_of_at (lget_iff.mp hh)
  have hdl : (dbL c).length ≤ c.m := dbt_len c c.m
  have f1 := (dbl_fs d).1
  have f2 := (dbl_fs d).2
  unfold F_law_debts_good b_law_debts_good
  walk_at "jr"
  refine ⟨by omega, ?_⟩
  rw [Int.toNat_natCast, lc_rgP (fun i => !isN (c.hd i).w) (fun i => .tup [.int i, (c.hd i).w]) (by omega) ?st]
  case st =>
    intro i acc hi
    walk_at "jr"
    simp only [wk_at hi (lget_app hw)]
    walk_at "jr"
    exact fun _ => trivial
  rw [show ((List.range c.m).filter fun i => !isN (c.hd i).w).map (fun (i : Nat) => D.tup [.int i, (c.hd i).w]) = dbL c from rfl]
  simp only
  have hc1 := hc.app (T := [O.lst (dbL c)])
  with_reducible refine p_debts ns hc1 hm ?_
  have l1 : lget (S ++ [O.lst (dbL c)] ++ [O.lst (dbL c)]) S.length = some (dbL c) := lget_app lget_new
  have l2 : lget (S ++ [O.lst (dbL c)] ++ [O.lst (dbL c)]) (S ++ [O.lst (dbL c)]).length = some (dbL c) := lget_new
  rw [alike_eq ns (Alk_lst (k := 2) l2 l1 (by omega) f1)]
  have g2 : Gw S (S ++ [O.lst (dbL c)] ++ [O.lst (dbL c)]) := Gw.trans Gw.app Gw.app
  have hb : S.length < (S ++ [O.lst (dbL c)]).length := by simp
  have hb2 : (S ++ [O.lst (dbL c)]).length < (S ++ [O.lst (dbL c)] ++ [O.lst (dbL c)]).length := by simp
  generalize S ++ [O.lst (dbL c)] ++ [O.lst (dbL c)] = S2 at l1 l2 g2 hb2
  generalize (S ++ [O.lst (dbL c)]).length = b at l2 hb hb2
  walk_at "jr"
  have hh2 := g2.lget hh
  have hh3 : lget (S2 ++ [O.lst [.ref S.length, .ref b]]) h = some hs := lget_app hh2
  refine ⟨recv_lst hh2, ?_⟩
  rw [hh3]
  simp only
  refine ⟨by omega, ?_⟩
  have x3 : Ex h S ((S2 ++ [O.lst [.ref S.length, .ref b]]).set h (.lst (hs ++ [.ref S2.length]))) := by
    refine ⟨?_, fun j o hj e => at_set_ne (at_app (g2.old _ _ e)) (Ne.symm hj)⟩
    have := g2.len
    simp
    omega
  have upl : ∀ (j : Nat) xs, j ≠ h → lget (S2 ++ [O.lst [.ref S.length, .ref b]]) j = some xs → lget ((S2 ++ [O.lst [.ref S.length, .ref b]]).set h (.lst (hs ++ [.ref S2.length]))) j = some xs := fun j xs hj e => lget_set_ne e (Ne.symm hj)
  have hh4 : lget ((S2 ++ [O.lst [.ref S.length, .ref b]]).set h (.lst (hs ++ [.ref S2.length]))) h = some (hs ++ [.ref S2.length]) := lget_set_eq (lget_iff.mp hh3)
  have hx4 : PairIn S.length ((S2 ++ [O.lst [.ref S.length, .ref b]]).set h (.lst (hs ++ [.ref S2.length]))) (.ref S2.length) :=
    ⟨S2.length, S.length, b, dbL c, rfl, by omega, Nat.le_refl _, by omega, upl _ _ (by omega) lget_new, upl _ _ (by omega) (lget_app l1), upl _ _ (by omega) (lget_app l2), f2⟩
  generalize (S2 ++ [O.lst [.ref S.length, .ref b]]).set h (.lst (hs ++ [.ref S2.length])) = S4 at x3 hh4 hx4
  have hc4 : CoAt S4 n c := x3.co hc ho
  with_reducible refine p_debts ns hc4 hm ?_
  walk_at "jr"
  refine ⟨recv_lst lget_new, ?_⟩
  rw [set_new]
  refine ⟨by omega, ?_⟩
  exact q _ (.ref S2.length) (x3.trans Ex.app) (lget_app hh4) (hx4.mono fun r xs _ e => lget_app e)
theorem ints_nats (l : List Nat) : intsOf (natsD l) = some (l.map fun (i : Nat) => (i : Int)) := by
  induction l with
  | nil => rfl
  | cons a r ih =>
    show (intsOf (natsD r)).map _ = _
    rw [ih]
    rfl
theorem nodup_ints {l : List Nat} (h : l.Nodup) : (l.map fun (i : Nat) => (i : Int)).Nodup := by
  unfold List.Nodup
  rw [List.pairwise_map]
  exact List.Pairwise.imp (fun {a b} hab e => hab (Int.ofNat.inj e)) h
theorem p_way_good (ns : List Int) {rw i : Nat} (hc : CoAt S n c) (d : DS c.m c) (hm : c.m ≤ 60) (hi : i < c.m) (hw : lget S rw = some (wkL c)) (q : ∀ T, Q (.bl true) (S ++ T)) : Ok E (F_law_way_good ns [.ref n, .int c.m, .ref rw, .int i] S) Q := by
  unfold F_law_way_good b_law_way_good
  rw [Ok_mkF 4 _ _ _ (show [D.ref n, .int c.m, .ref rw, .int i].length = 4 from rfl), St_assoc]
  refine St_cut (fun φ S' => ∃ l, Chain c i l ∧ φ = [some (.ref n), some (.int c.m), some (.ref rw), some (.int i), some (.ref S.length), none] ∧ S' = S ++ [O.lst (natsD l)]) ?_ ?_
  · walk_at "jr"
    with_reducible refine p_way ns hc d hm hi fun l hl => ?_
    have hc1 := hc.app (T := [O.lst (natsD l)])
    simp only [wk_at hi (lget_app hw)]
    walk_at "jr"
    have fA : inT c i = false → Ok (fun c S => E c S) (F_law_alike ns [.ref S.length, .ref (S ++ [O.lst (natsD l)]).length] (S ++ [O.lst (natsD l)] ++ [O.lst []])) Q := by
      intro e
      rcases hl with ⟨h1, _⟩ | ⟨_, rfl⟩
      · rw [e] at h1; cases h1
      · have e1 : lget (S ++ [O.lst (natsD [])] ++ [O.lst []]) S.length = some [] := lget_app lget_new
        have e2 : lget (S ++ [O.lst (natsD [])] ++ [O.lst []]) (S ++ [O.lst (natsD [])]).length = some [] := lget_new
        rw [alike_eq ns (Alk_lst (k := 2) e1 e2 (Nat.zero_le _) (fun _ h => nomatch h))]
        have := q ([O.lst (natsD [])] ++ [O.lst []])
        rw [← List.append_assoc] at this
        exact this
    have fB : inT c i = true → ∃ l', Chain c i l' ∧ True ∧ S ++ [O.lst (natsD l)] = S ++ [O.lst (natsD l')] := by
      intro e
      rcases hl with ⟨_, h2⟩ | ⟨h1, _⟩
      · exact ⟨l, h2, trivial, rfl⟩
      · rw [e] at h1; cases h1
    cases hw0 : isN (c.hd i).w with
    | false =>
      rw [if_neg (by decide)]
      obtain ⟨l', h1, _, h2⟩ := fB (by unfold inT; rw [hw0]; rfl)
      exact ⟨l', h1, h2⟩
    | true =>
      rw [if_pos rfl]
      by_cases h0 : i = 0
      · subst h0
        rw [if_neg (by decide)]
        refine ⟨isIns_of hc1.me rfl, ?_⟩
        with_reducible refine co_runs ns hc1 ?_
        cases hr : c.run with
        | false => exact fA (by unfold inT; rw [hw0, hr]; rfl)
        | true =>
          obtain ⟨l', h1, _, h2⟩ := fB (by unfold inT; rw [hw0, hr]; rfl)
          exact ⟨l', h1, h2⟩
      · rw [if_pos (by omega)]
        exact fA (by unfold inT; rw [hw0]; simp [h0])
  · rintro φ S' ⟨l, hl, rfl, rfl⟩
    obtain ⟨k1, k2, k3, k4⟩ := ch_ok d hi hl
    have hl1 : lget (S ++ [O.lst (natsD l)]) S.length = some (natsD l) := lget_new
    have hw1 : lget (S ++ [O.lst (natsD l)]) rw = some (wkL c) := lget_app hw
    repeat (first | walk_at "jr" | simp only [ty_l hl1, hl1])
    have hal : ((l.map fun (i : Nat) => (i : Int)).length : Int) = (natsD l).length := by rw [List.length_map, natsD_len]
    obtain ⟨r, er⟩ := hl.head
    have e0 : atI (natsD l) 0 = some (.int i) := by
      rw [er]
      exact atI_c0 _ _
    have e9 : atI (natsD l) (-1) = some (.int 0) := by
      rw [atI_neg1]
      unfold natsD
      rw [List.getLast?_map, hl.last]
      rfl
    rw [if_neg (by rw [natsD_len]; omega), if_neg (by rw [natsD_len]; omega), ints_nats]
    simp only
    refine ⟨⟨nodup_ints k2, by rw [List.length_map]; omega⟩, ?_⟩
    rw [if_neg (by rw [decide_eq_true hal]; decide), e0]
    simp only
    with_reducible refine law_whole ns _ ?_
    simp only
    rw [if_neg (by decide), hl1, Option.bind_some, e0]
    simp only [k_neI]
    rw [if_neg (by simp), hl1, Option.bind_some, e9]
    simp only [k_neI]
    rw [if_neg (by decide), hl1]
    simp only
    refine ⟨by rw [natsD_len]; omega, ?_⟩
    have hln : ((natsD l).length - 1 : Int).toNat = l.length - 1 := by rw [natsD_len]; omega
    rw [hln]
    refine for_rg (fun j φ S' => ∃ z, φ = [some (.ref n), some (.int c.m), some (.ref rw), some (.int i), some (.ref S.length), z] ∧ S' = S ++ [O.lst (natsD l)]) ⟨_, rfl, rfl⟩ ?_ ?_
    · rintro j φ S' hj ⟨z, rfl, rfl⟩
      have hj1 : j < l.length := by omega
      have hj2 : j + 1 < l.length := by omega
      have ea := List.getElem?_eq_getElem hj1
      have eb := List.getElem?_eq_getElem hj2
      have hlink := hl.links j _ _ ea eb
      have hab := k1 _ (List.getElem_mem hj1)
      have g1 : atI (natsD l) (1 + (j : Int)) = some (.int (l[j + 1] : Nat)) := by
        rw [show (1 : Int) + (j : Int) = ((j + 1 : Nat) : Int) by omega, atI_lit]
        unfold natsD
        rw [List.getElem?_map, eb]
        rfl
      have g2 : atI (natsD l) (1 + (j : Int) - 1) = some (.int (l[j] : Nat)) := by
        rw [show (1 : Int) + (j : Int) - 1 = ((j : Nat) : Int) by omega, atI_lit]
        unfold natsD
        rw [List.getElem?_map, ea]
        rfl
      repeat (first | walk_at "jr" | simp only [hl1, g1])
      with_reducible refine law_whole ns _ ?_
      repeat (first | walk_at "jr" | simp only [hl1, g1, g2, Option.bind_some, wk_at hab hw1, hlink])
      simp
    · rintro φ S' ⟨z, rfl, rfl⟩
      walk_at "jr"
      have := wk_at (i := 0) d.m hw1
      rw [show ((0 : Nat) : Int) = 0 from rfl] at this
      rw [this]
      simp only [d.w0]
      exact q _
end

end DebtJ.Law

set_option Elab.async false
set_option linter.all false
set_option maxRecDepth 100000
set_option maxHeartbeats 1000000
namespace DebtJ.Law
open PySem L2 DebtJ
local macro_rules | `(tactic| walk_at "jr") => `(tactic| simp only [Ok_mkF, Ok_mkE, Ok_kin, Ok_mkH, St_sNo, Ok_eNo, Ok_ok, Ok_exc, Ok_no, Ok_bind, Ok_ite, Ok_some, Ok_none, St_nx, St_rt, St_exc, St_no, St_ite, St_toS, St_seq, St_next, St_expr, St_ret, St_retN, St_raise, St_if, St_asg, St_for, St_try, St_tryC, St_tryN, St_tryAs, Ok_var, Ok_c, Ok_op, Ok_tof, Ok_tand, Ok_tor, Ok_tnot, Ok_tyes, Ok_and, Ok_or, Ok_not, Ok_neg, Ok_nil, Ok_cons, Ok_tup, Ok_lst, Ok_call, Ok_meth, Ok_make, Ok_fld, Ok_sl, Ok_ono, Ok_osome, Ok_cb, Ok_bm, Ok_isi, Ok_rg1, Ok_rg2, Ok_ilst, Ok_itp, Ok_lstRg1, Ok_lstRg2, Ok_lc, St_fld, St_sub, St_asg2, k_addI, k_addS, k_sub, k_mulI, k_mod, k_fdiv, k_pow, k_lt, k_le, k_gt, k_ge, k_eqI, k_eqS, k_eqB, k_eqNI, k_eqSI, k_neI, k_neS, k_neB, k_neNI, k_eqR, k_eqT, k_neR, k_neT, k_isN, k_isB, k_isNotN, k_isNotB, k_ixL, k_ixT, k_ixC, k_lenL, k_lenT, k_lenC, k_lenS, k_intI, k_intB, k_max, k_min, k_listL, k_listT, k_tuple, k_append, k_reverse, k_slL, k_clear, List.map_cons, List.map_nil, List.length_cons, List.length_nil, List.replicate, Nat.reduceSub, Nat.reduceAdd, List.cons_append, List.nil_append, List.append_nil, List.getElem?_cons_succ, List.getElem?_cons_zero, List.getElem?_nil, List.set_cons_succ, List.set_cons_zero, if_true, if_false, Bool.false_eq_true, true_and, small_eq, Nat.reduceLeDiff, lget_new, lget_c0, isN_non, isN_bl, isN_int, isN_str, isN_tup, isN_ref, ty_non, ty_bl, ty_int, ty_str, ty_tup, kb_NoneType_int, kb_NoneType_bool, kb_NoneType_str, kb_NoneType_list, kb_NoneType_tuple, kb_bool_int, kb_bool_bool, kb_bool_str, kb_bool_list, kb_bool_tuple, kb_int_int, kb_int_bool, kb_int_str, kb_int_list, kb_int_tuple, kb_str_int, kb_str_bool, kb_str_str, kb_str_list, kb_str_tuple, kb_tuple_int, kb_tuple_bool, kb_tuple_str, kb_tuple_list, kb_tuple_tuple, kb_list_int, kb_list_bool, kb_list_str, kb_list_list, kb_list_tuple, kb_dict_int, kb_dict_bool, kb_dict_str, kb_dict_list, kb_dict_tuple, lget_cs, lstO, smallI_eq, Int.reduceEq,  decide_true, decide_false, Int.reduceLT, Int.reduceLE, Int.reduceNeg, Nat.reduceLT, and_self, and_true, Option.bind_some, atI_two, atI_c0, atI_c1, atI_c2, atI_c3, decide_eq_true_eq, Int.reduceToNat, nat10, Int.reducePow, or_true, true_or, Bool.not_true, Bool.not_false, Ok_dnew, Ok_items, Ok_lenSet, Ok_dgetR, St_dput, Ok_keysJ, kb_dict_dict])
section
variable {S S' : Store} {n : Nat} {c : Co} {E : Nat → Store → Prop} {Q : D → Store → Prop}
theorem EqD_any {xs ys : List D} {P : Bool → Prop} (hf : Fl (.tup xs)) (hg : Fl (.tup ys)) (q : ∀ b, P b) : EqD S (.tup xs) (.tup ys) P := by
  obtain ⟨p, e⟩ := Option.isSome_iff_exists.mp hf
  obtain ⟨p2, e2⟩ := Option.isSome_iff_exists.mp hg
  unfold EqD eqDD
  rw [flat_py e 6, flat_py e2 6]
  have h := flat_ok e
  have h2 := flat_ok e2
  have s1 : SeqAt.shaped p = true := shaped_of h.1 (by omega)
  have s2 : SeqAt.shaped p2 = true := shaped_of h2.1 (by omega)
  simp only [s1, s2, Bool.and_self, if_true]
  exact q _
/-- outside h and p all stands -/
structure Ey (h p : Nat) (S S' : Store) : Prop where
  len : S.length ≤ S'.length
  old : ∀ (j : Nat) o, j ≠ h → j ≠ p → S[j]? = some o → S'[j]? = some o
theorem Ey.refl {h p : Nat} : Ey h p S S := ⟨Nat.le_refl _, fun _ _ _ _ h => h⟩
theorem Ey.trans {h p : Nat} {S S' S'' : Store} (a : Ey h p S S') (b : Ey h p S' S'') : Ey h p S S'' := ⟨Nat.le_trans a.len b.len, fun j o h1 h2 e => b.old j o h1 h2 (a.old j o h1 h2 e)⟩
theorem Ex.ey1 {h p : Nat} (a : Ex h S S') : Ey h p S S' := ⟨a.len, fun j o h1 _ e => a.old j o h1 e⟩
theorem Ex.ey2 {h p : Nat} (a : Ex p S S') : Ey h p S S' := ⟨a.len, fun j o _ h2 e => a.old j o h2 e⟩
theorem Gw.ey {h p : Nat} (a : Gw S S') : Ey h p S S' := ⟨a.len, fun j o _ _ e => a.old j o e⟩
theorem Ey.lget {h p r : Nat} {xs : List D} (k : Ey h p S S') (h1 : r ≠ h) (h2 : r ≠ p) (e : lget S r = some xs) : lget S' r = some xs := lget_iff.mpr (k.old _ _ h1 h2 (lget_iff.mp e))
theorem Ey.co {h p : Nat} (k : Ey h p S S') (hc : CoAt S n c) (h1 : h < n ∨ n + 5 + c.m ≤ h) (h2 : p < n ∨ n + 5 + c.m ≤ p) : CoAt S' n c := ⟨k.old _ _ (by omega) (by omega) hc.me, k.lget (by omega) (by omega) hc.crew, fun i hi => k.old _ _ (by omega) (by omega) (hc.hand i hi), k.old _ _ (by omega) (by omega) hc.post, k.lget (by omega) (by omega) hc.rows, k.lget (by omega) (by omega) hc.log⟩
/-- what is held -/
structure H8 (S : Store) (h p lo k : Nat) (hs ps : List D) : Prop where
  hl : lget S h = some hs
  pl : lget S p = some ps
  hq : ∀ x ∈ hs, PairIn lo S x
  pq : ∀ x ∈ ps, DP S lo x
  hk : hs.length ≤ k
  pk : ps.length ≤ k
  lh : h < lo
  lp : p < lo
  ne : h ≠ p
  le : lo ≤ S.length
theorem H8.gw {h p lo k : Nat} {hs ps : List D} (a : H8 S h p lo k hs ps) (g : Gw S S') : H8 S' h p lo k hs ps :=
  ⟨g.lget a.hl, g.lget a.pl, fun x hx => (a.hq x hx).mono fun r xs _ e => g.lget e, fun x hx => (a.pq x hx).mono (Nat.le_refl _) fun j o _ e => g.old j o e, a.hk, a.pk, a.lh, a.lp, a.ne, Nat.le_trans a.le g.len⟩
theorem H8.up {h p lo k k' : Nat} {hs ps : List D} (a : H8 S h p lo k hs ps) (hk : k ≤ k') : H8 S h p lo k' hs ps := ⟨a.hl, a.pl, a.hq, a.pq, Nat.le_trans a.hk hk, Nat.le_trans a.pk hk, a.lh, a.lp, a.ne, a.le⟩
theorem H8.pushp {h p lo k : Nat} {hs ps : List D} {x : D} (a : H8 S h p lo k hs ps) (g : Ex p S S') (hp : lget S' p = some (ps ++ [x])) (hx : DP S' S.length x) : H8 S' h p lo (k + 1) hs (ps ++ [x]) := by
  have lp := a.lp
  have lh := a.lh
  have pk := a.pk
  have hk := a.hk
  refine ⟨g.lget a.ne a.hl, hp, fun y hy => (a.hq y hy).mono fun r xs hr e => g.lget (by omega) e, fun y hy => ?_, by omega, by rw [List.length_append]; simp; omega, lh, lp, a.ne, Nat.le_trans a.le g.len⟩
  rcases List.mem_append.mp hy with hy | hy
  · exact (a.pq y hy).mono (Nat.le_refl _) fun j o hj e => g.old j o (by omega) e
  · cases List.mem_singleton.mp hy
    exact hx.mono a.le fun j o _ e => e
theorem pair_low {lo lo' : Nat} {x : D} (h : PairIn lo S x) (hl : lo' ≤ lo) : PairIn lo' S x := by
  obtain ⟨m, a, b, zs, e, l1, l2, l3, r⟩ := h
  exact ⟨m, a, b, zs, e, by omega, by omega, by omega, r⟩
theorem H8.pushh {h p lo k : Nat} {hs ps : List D} {x : D} (a : H8 S h p lo k hs ps) (g : Ex h S S') (hp : lget S' h = some (hs ++ [x])) (hx : PairIn S.length S' x) (hk2 : hs.length + 1 ≤ k) : H8 S' h p lo k (hs ++ [x]) ps := by
  have lp := a.lp
  have lh := a.lh
  refine ⟨hp, g.lget (Ne.symm a.ne) a.pl, fun y hy => ?_, fun y hy => (a.pq y hy).mono (Nat.le_refl _) fun j o hj e => g.old j o (by omega) e, by rw [List.length_append]; simp; omega, a.pk, lh, lp, a.ne, Nat.le_trans a.le g.len⟩
  rcases List.mem_append.mp hy with hy | hy
  · exact (a.hq y hy).mono fun r xs hr e => g.lget (by omega) e
  · cases List.mem_singleton.mp hy
    exact pair_low hx a.le
theorem p_good (ns : List Int) {v : Int} {h p lo k : Nat} {hs ps : List D} (hc : CoAt S n c) (d : DS c.m c) (hm : c.m ≤ 60) (hv : 0 ≤ v) (hh : n + 5 + c.m ≤ h) (hp : n + 5 + c.m ≤ p) (H : H8 S h p lo k hs ps) (hk : k ≤ 500)
    (q : ∀ S' hs' ps', Ey h p S S' → H8 S' h p lo (k + 2) hs' ps' → Q (.bl true) S') : Ok E (F_law_good ns [.ref n, .int c.m, .int v, .ref h, .ref p] S) Q := by
  have hm0 := d.m
  unfold F_law_good b_law_good
  rw [Ok_mkF 5 _ _ _ (show [D.ref n, .int c.m, .int v, .ref h, .ref p].length = 5 from rfl), St_assoc, St_assoc, St_assoc]
  refine St_cut (fun φ S' => ∃ x5 rw, φ = [some (.ref n), some (.int c.m), some (.int v), some (.ref h), some (.ref p), x5, some (.ref rw), none, none] ∧ Gw S S' ∧ lget S' rw = some (wkL c) ∧ S.length ≤ rw) ?_ ?_
  · have hwl : ∀ (T : Store), CoAt T n c → ((List.range c.m).filter fun i => true).map (fun i => (c.hd i).w) = wkL c := fun T _ => by rw [List.filter_eq_self.mpr (fun _ _ => rfl)]
    walk_at "jr"
    by_cases hq : v / 2 % 2 = 0
    · rw [if_pos hq]
      have hi0 := Int.emod_nonneg (v / 4) (show (c.m : Int) ≠ 0 by omega)
      have hi1 := Int.emod_lt_of_pos (v / 4) (show (0 : Int) < c.m by omega)
      obtain ⟨i, hi⟩ : ∃ i : Nat, v / 4 % (c.m : Int) = i := ⟨(v / 4 % (c.m : Int)).toNat, by omega⟩
      rw [hi]
      refine ⟨by omega, ?_⟩
      have hc0 := hc.app (T := [O.lst []])
      with_reducible refine p_way ns hc0 d hm (by omega) fun l hl => ?_
      rw [k_listL, lget_new]
      simp only
      refine ⟨by omega, by omega, ?_⟩
      have l1 : lget (S ++ [O.lst []] ++ [O.lst (natsD l)] ++ [O.lst (natsD l)]) (S ++ [O.lst []]).length = some (natsD l) := lget_app lget_new
      have l2 : lget (S ++ [O.lst []] ++ [O.lst (natsD l)] ++ [O.lst (natsD l)]) (S ++ [O.lst []] ++ [O.lst (natsD l)]).length = some (natsD l) := lget_new
      have g2 : Gw S (S ++ [O.lst []] ++ [O.lst (natsD l)] ++ [O.lst (natsD l)]) := Gw.trans Gw.app (Gw.trans Gw.app Gw.app)
      generalize S ++ [O.lst []] ++ [O.lst (natsD l)] ++ [O.lst (natsD l)] = S2 at l1 l2 g2
      generalize (S ++ [O.lst []] ++ [O.lst (natsD l)]).length = r2 at l2
      generalize (S ++ [O.lst []]).length = r1 at l1 l2
      have hc2 := (g2.co hc).app (T := [O.lst [.ref r1, .ref r2, .int i]])
      rw [Int.toNat_natCast, lc_rgP (fun _ => true) (fun i => (c.hd i).w) (by omega) ?st]
      case st =>
        intro j acc hj
        have hc3 := hc2.app (T := [O.lst acc])
        walk_at "jr"
        refine fun _ => ⟨isIns_of hc3.me rfl, ?_⟩
        refine co_hand ns hc3 (by omega) (by omega) ?_
        rw [Int.toNat_natCast]
        unfold Hd.d
        walk_at "jr"
      rw [hwl S hc]
      simp only
      have g3 : Gw S2 (S2 ++ [O.lst [.ref r1, .ref r2, .int i]] ++ [O.lst (wkL c)] ++ [O.lst []]) := Gw.trans Gw.app (Gw.trans Gw.app Gw.app)
      have l3 : lget (S2 ++ [O.lst [.ref r1, .ref r2, .int i]] ++ [O.lst (wkL c)] ++ [O.lst []]) S2.length = some [.ref r1, .ref r2, .int i] := lget_app (lget_app lget_new)
      have l4 : lget (S2 ++ [O.lst [.ref r1, .ref r2, .int i]] ++ [O.lst (wkL c)] ++ [O.lst []]) (S2 ++ [O.lst [.ref r1, .ref r2, .int i]]).length = some (wkL c) := lget_app lget_new
      have l5 : lget (S2 ++ [O.lst [.ref r1, .ref r2, .int i]] ++ [O.lst (wkL c)] ++ [O.lst []]) (S2 ++ [O.lst [.ref r1, .ref r2, .int i]] ++ [O.lst (wkL c)]).length = some [] := lget_new
      have hlen4 : S.length ≤ (S2 ++ [O.lst [.ref r1, .ref r2, .int i]]).length := by have := g2.len; simp; omega
      generalize S2 ++ [O.lst [.ref r1, .ref r2, .int i]] ++ [O.lst (wkL c)] ++ [O.lst []] = S3 at g3 l3 l4 l5
      generalize (S2 ++ [O.lst [.ref r1, .ref r2, .int i]] ++ [O.lst (wkL c)]).length = r5 at l5
      generalize (S2 ++ [O.lst [.ref r1, .ref r2, .int i]]).length = r4 at l4 l5 hlen4
      have hpy1 := ints_py (g3.lget l1) 5
      have hpy2 := ints_py (g3.lget l2) 5
      have hok := ints_ok l
      refine EqD_ne l3 l5 (fun y hy => ?_) ?_
      · simp only [List.mem_cons, List.not_mem_nil, or_false] at hy
        rcases hy with rfl | rfl | rfl
        · exact ⟨_, hpy1, hok.1, by have := hok.2; omega⟩
        · exact ⟨_, hpy2, hok.1, by have := hok.2; omega⟩
        · exact ⟨_, rfl, rfl, Nat.zero_le _⟩
      simp only [Bool.not_false, if_true, l3, Option.bind_some, atI_c0, atI_c2]
      have hc5 := g3.co (g2.co hc)
      with_reducible refine p_way ns hc5 d hm (by omega) fun l' hl' => ?_
      have hll := way_uniq hl' hl
      subst hll
      rw [k_neR]
      refine EqD_same (lget_app (g3.lget l1)) lget_new (natsD_fl _) ?_
      simp only [Bool.not_true, Bool.false_eq_true, if_false]
      have l6 : lget (S3 ++ [O.lst (natsD l')]) S2.length = some [.ref r1, .ref r2, .int i] := lget_app l3
      rw [l6]
      simp only [Option.bind_some, atI_c0, atI_c1]
      rw [k_neR]
      refine EqD_same (lget_app (g3.lget l1)) (lget_app (g3.lget l2)) (natsD_fl _) ?_
      simp only [Bool.not_true, Bool.false_eq_true, if_false]
      exact ⟨_, r4, rfl, (g2.trans g3).trans Gw.app, lget_app l4, hlen4⟩
    · rw [if_neg hq]
      refine ⟨by omega, ?_⟩
      have hc2 := hc.app (T := [O.lst []])
      rw [Int.toNat_natCast, lc_rgP (fun _ => true) (fun i => (c.hd i).w) (by omega) ?st]
      case st =>
        intro j acc hj
        have hc3 := hc2.app (T := [O.lst acc])
        walk_at "jr"
        refine fun _ => ⟨isIns_of hc3.me rfl, ?_⟩
        refine co_hand ns hc3 (by omega) (by omega) ?_
        rw [Int.toNat_natCast]
        unfold Hd.d
        walk_at "jr"
      rw [hwl S hc]
      simp only
      refine EqD_nil (xs := []) (lget_app (lget_app lget_new)) lget_new (fun _ h => nomatch h) ?_
      simp only [List.isEmpty_nil, Bool.not_true, Bool.false_eq_true, if_false]
      exact ⟨_, _, rfl, Gw.trans Gw.app (Gw.trans Gw.app Gw.app), lget_app lget_new, by simp⟩
  rintro φ S1 ⟨x5, rw, rfl, g1, hw, hrw⟩
  have H1 := H.gw g1
  have hc1 := g1.co hc
  have e1 : Ey h p S S1 := g1.ey
  have hrh : rw ≠ h := by have := H.lh; have := H.le; omega
  have hrp : rw ≠ p := by have := H.lp; have := H.le; omega
  refine St_cut (fun φ S' => ∃ ps', φ = [some (.ref n), some (.int c.m), some (.int v), some (.ref h), some (.ref p), x5, some (.ref rw), none, none] ∧ Ey h p S S' ∧ H8 S' h p lo (k + 1) hs ps' ∧ lget S' rw = some (wkL c)) ?_ ?_
  · walk_at "jr"
    by_cases hq : v % 2 = 0
    · rw [if_pos hq]
      with_reducible refine p_woken_good ns hc1 d hm hw H1.pl (by have := H.pk; omega) (.inr hp) fun S2 x x2 hp2 hx2 => ?_
      exact ⟨_, e1.trans x2.ey2, H1.pushp x2 hp2 hx2, x2.lget hrp hw⟩
    · rw [if_neg hq]
      exact ⟨_, e1, H1.up (Nat.le_succ _), hw⟩
  intro φ S2 hM
  cases hM with | intro ps2 hM =>
  cases hM with | intro ef hM =>
  cases hM with | intro e2 hM =>
  cases hM with | intro H2 hw2 =>
  subst ef
  have hc2 := e2.co hc (.inr hh) (.inr hp)
  with_reducible refine St_cut (fun φ S' => ∃ hs', φ = [some (.ref n), some (.int c.m), some (.int v), some (.ref h), some (.ref p), x5, some (.ref rw), none, none] ∧ Ey h p S S' ∧ H8 S' h p lo (k + 1) hs' ps2 ∧ lget S' rw = some (wkL c)) ?_ ?_
  · walk_at "jr"
    with_reducible refine p_debts_good ns hc2 d hm hw2 H2.hl (by have := H.hk; omega) (.inr hh) fun S3 x x3 hp3 hx3 => ?_
    exact ⟨_, e2.trans x3.ey1, H2.pushh x3 hp3 hx3 (by have := H.hk; omega), x3.lget hrh hw2⟩
  intro φ S3 hM
  cases hM with | intro hs3 hM =>
  cases hM with | intro ef hM =>
  cases hM with | intro e3 hM =>
  cases hM with | intro H3 hw3 =>
  subst ef
  have hc3 := e3.co hc (.inr hh) (.inr hp)
  walk_at "jr"
  refine ⟨by omega, ?_⟩
  rw [Int.toNat_natCast]
  refine for_rg (fun i φ S' => ∃ z7 z8, φ = [some (.ref n), some (.int c.m), some (.int v), some (.ref h), some (.ref p), x5, some (.ref rw), z7, z8] ∧ Gw S3 S') ⟨_, _, rfl, Gw.refl⟩ ?_ ?_
  · rintro i φ S' hi ⟨z7, z8, rfl, g⟩
    have hc4 := g.co hc3
    have hw4 := g.lget hw3
    rw [Int.zero_add, St_assoc]
    have flz : Fl (.tup [.int 0, .int 0, .non, .int 0]) := Fl_tup (x := .none) (by intro d hd; simp only [List.mem_cons, List.not_mem_nil, or_false] at hd; rcases hd with rfl | rfl | rfl | rfl <;> rfl)
    with_reducible refine St_cut (fun φ S'' => ∃ z, φ = [some (.ref n), some (.int c.m), some (.int v), some (.ref h), some (.ref p), x5, some (.ref rw), some (.int (i : Int)), z] ∧ S'' = S') ?_ ?_
    · walk_at "jr"
      refine ⟨isIns_of hc4.me rfl, ?_⟩
      with_reducible refine co_hand ns hc4 (by omega) (by omega) ?_
      rw [Int.toNat_natCast]
      unfold Hd.d
      simp only [wk_at hi hw4]
      walk_at "jr"
      cases nn d hi with
      | inr hw0 =>
        cases hw0 with | intro b hw0 =>
        rw [hw0]
        rw [if_neg (by simp [isN])]
        exact ⟨_, rfl⟩
      | inl hw0 =>
        rw [hw0]
        rw [if_pos (show isN .non = true from rfl)]
        have flh : Fl (.tup [.int (c.hd i).p, .int (c.hd i).u, .non, .int (c.hd i).t]) := Fl_tup (x := .none) (by intro d hd; simp only [List.mem_cons, List.not_mem_nil, or_false] at hd; rcases hd with rfl | rfl | rfl | rfl <;> rfl)
        by_cases hz : i = 0 ∧ c.run = true
        · refine EqD_any flh flz fun b => ?_
          cases b with
          | true =>
            rw [if_neg (by decide)]
            exact ⟨_, rfl⟩
          | false =>
            rw [if_pos (by decide), if_neg (by omega)]
            refine ⟨isIns_of hc4.me rfl, ?_⟩
            with_reducible refine co_runs ns hc4 ?_
            rw [hz.2]
            exact ⟨_, rfl, rfl⟩
        · have hzero : (c.hd i).p = 0 ∧ (c.hd i).u = 0 ∧ (c.hd i).t = 0 := by
            by_cases h0 : i = 0
            · subst h0
              have hr : c.run = false := by
                cases hr : c.run with
                | false => rfl
                | true => exact absurd ⟨rfl, hr⟩ hz
              have := d.rest hr
              exact ⟨this.1.1, this.1.2, this.2⟩
            · exact d.idle i (by omega) hi hw0
          rw [hzero.1, hzero.2.1, hzero.2.2]
          refine EqD_tup flz ?_
          rw [if_neg (by decide)]
          exact ⟨_, rfl⟩
    · intro φ S'' hM
      cases hM with | intro z hM =>
      cases hM with | intro ef es =>
      subst ef
      subst es
      have hway : ∀ {P : Prop}, ((∀ T, ∃ z7 z8, [some (D.ref n), some (.int c.m), some (.int v), some (.ref h), some (.ref p), x5, some (.ref rw), some (.int (i : Int)), z] = [some (D.ref n), some (.int c.m), some (.int v), some (.ref h), some (.ref p), x5, some (.ref rw), z7, z8] ∧ Gw S3 (S'' ++ T)) → P) → P := fun f => f fun T => ⟨_, _, rfl, g.trans Gw.app⟩
      walk_at "jr"
      by_cases h9 : (c.m : Int) < 9
      · rw [if_pos h9]
        with_reducible refine p_way_good ns hc4 d hm hi hw4 fun T => ?_
        exact ⟨_, _, rfl, g.trans Gw.app⟩
      · rw [if_neg h9]
        by_cases h7 : (i : Int) % 7 = v % 7
        · rw [if_pos h7]
          with_reducible refine p_way_good ns hc4 d hm hi hw4 fun T => ?_
          exact ⟨_, _, rfl, g.trans Gw.app⟩
        · rw [if_neg h7]
          exact ⟨_, _, rfl, g⟩
  · rintro φ S' ⟨z7, z8, rfl, g⟩
    have hc4 := g.co hc3
    have hw4 := g.lget hw3
    have H4 := H3.gw g
    walk_at "jr"
    by_cases hq : v % 2 = 0
    · rw [decide_eq_true hq]
      exact q _ _ _ (e3.trans g.ey) (H4.up (Nat.le_succ _))
    · rw [decide_eq_false hq]
      with_reducible refine p_woken_good ns hc4 d hm hw4 H4.pl (by have := H4.pk; omega) (.inr hp) fun S5 x x5 hp5 hx5 => ?_
      exact q _ _ _ ((e3.trans g.ey).trans x5.ey2) (H4.pushp x5 hp5 hx5)
end

end DebtJ.Law

set_option Elab.async false
set_option linter.all false
set_option maxRecDepth 100000
set_option maxHeartbeats 1000000
namespace DebtJ.Law
open PySem L2 DebtJ
local macro_rules | `(tactic| walk_at "jr") => `(tactic| simp only [Ok_mkF, Ok_mkE, Ok_kin, Ok_mkH, St_sNo, Ok_eNo, Ok_ok, Ok_exc, Ok_no, Ok_bind, Ok_ite, Ok_some, Ok_none, St_nx, St_rt, St_exc, St_no, St_ite, St_toS, St_seq, St_next, St_expr, St_ret, St_retN, St_raise, St_if, St_asg, St_for, St_try, St_tryC, St_tryN, St_tryAs, Ok_var, Ok_c, Ok_op, Ok_tof, Ok_tand, Ok_tor, Ok_tnot, Ok_tyes, Ok_and, Ok_or, Ok_not, Ok_neg, Ok_nil, Ok_cons, Ok_tup, Ok_lst, Ok_call, Ok_meth, Ok_make, Ok_fld, Ok_sl, Ok_ono, Ok_osome, Ok_cb, Ok_bm, Ok_isi, Ok_rg1, Ok_rg2, Ok_ilst, Ok_itp, Ok_lstRg1, Ok_lstRg2, Ok_lc, St_fld, St_sub, St_asg2, k_addI, k_addS, k_sub, k_mulI, k_mod, k_fdiv, k_pow, k_lt, k_le, k_gt, k_ge, k_eqI, k_eqS, k_eqB, k_eqNI, k_eqSI, k_neI, k_neS, k_neB, k_neNI, k_eqR, k_eqT, k_neR, k_neT, k_isN, k_isB, k_isNotN, k_isNotB, k_ixL, k_ixT, k_ixC, k_lenL, k_lenT, k_lenC, k_lenS, k_intI, k_intB, k_max, k_min, k_listL, k_listT, k_tuple, k_append, k_reverse, k_slL, k_clear, List.map_cons, List.map_nil, List.length_cons, List.length_nil, List.replicate, Nat.reduceSub, Nat.reduceAdd, List.cons_append, List.nil_append, List.append_nil, List.getElem?_cons_succ, List.getElem?_cons_zero, List.getElem?_nil, List.set_cons_succ, List.set_cons_zero, if_true, if_false, Bool.false_eq_true, true_and, small_eq, Nat.reduceLeDiff, lget_new, lget_c0, isN_non, isN_bl, isN_int, isN_str, isN_tup, isN_ref, ty_non, ty_bl, ty_int, ty_str, ty_tup, kb_NoneType_int, kb_NoneType_bool, kb_NoneType_str, kb_NoneType_list, kb_NoneType_tuple, kb_bool_int, kb_bool_bool, kb_bool_str, kb_bool_list, kb_bool_tuple, kb_int_int, kb_int_bool, kb_int_str, kb_int_list, kb_int_tuple, kb_str_int, kb_str_bool, kb_str_str, kb_str_list, kb_str_tuple, kb_tuple_int, kb_tuple_bool, kb_tuple_str, kb_tuple_list, kb_tuple_tuple, kb_list_int, kb_list_bool, kb_list_str, kb_list_list, kb_list_tuple, kb_dict_int, kb_dict_bool, kb_dict_str, kb_dict_list, kb_dict_tuple, lget_cs, lstO, smallI_eq, Int.reduceEq,  decide_true, decide_false, Int.reduceLT, Int.reduceLE, Int.reduceNeg, Nat.reduceLT, and_self, and_true, Option.bind_some, atI_two, atI_c0, atI_c1, atI_c2, atI_c3, decide_eq_true_eq, Int.reduceToNat, nat10, Int.reducePow, or_true, true_or, Bool.not_true, Bool.not_false, Ok_dnew, Ok_items, Ok_lenSet, Ok_dgetR, St_dput, Ok_keysJ, kb_dict_dict])
section
variable {S S' : Store} {n : Nat} {c : Co} {E : Nat → Store → Prop} {Q : D → Store → Prop}
theorem H8.keep {h p lo k m : Nat} {hs ps : List D} (a : H8 S h p lo k hs ps) (g : Keep 0 m S S') (h1 : 5 + m ≤ h) (h2 : 5 + m ≤ p) : H8 S' h p lo k hs ps := by
  have lp := a.lp
  have old : ∀ (j : Nat) o, lo ≤ j → S[j]? = some o → S'[j]? = some o := fun j o hj e => g.old j o (.inr (by omega)) e
  exact ⟨g.lget (.inr (by omega)) a.hl, g.lget (.inr (by omega)) a.pl, fun x hx => (a.hq x hx).mono fun r xs hr e => lget_iff.mpr (old _ _ hr (lget_iff.mp e)), fun x hx => (a.pq x hx).mono (Nat.le_refl _) old, a.hk, a.pk, a.lh, a.lp, a.ne, Nat.le_trans a.le g.len⟩
structure W8 (m h p i : Nat) (S : Store) (c : Co) (hs ps : List D) : Prop where
  co : CoAt S 0 c
  d : DS c.m c
  cm : c.m = m
  rb : c.rows.length ≤ i
  gb : c.log.length ≤ i + 1
  H : H8 S h p (p + 1) (2 * i) hs ps
  hh : 5 + m ≤ h
  hp : 5 + m ≤ p
/-- the pairs are as they were told -/
theorem pairs_ok (ns : List Int) {h p lo k : Nat} {hs ps : List D} (H : H8 S h p lo k hs ps) {X : Nat → Fr → Store → Prop} {Qn : Fr → Store → Prop} {Qr : D → Store → Prop} {a0 a1 a2 a3 a4 a5 z7 z8 z : Option D}
    (q : ∀ S' z, Gw S S' → Qn [a0, a1, a2, a3, a4, a5, z, z7, z8] S') : St X (forS 6 (hdI p ps.length) (sIf (tOf (eOp gNe (eOp (gIx ns) (eVar 6) (eC (.int 0))) (eItems (eOp (gIx ns) (eVar 6) (eC (.int 1)))))) (sRet (eC (.bl false))) sNext) (hdI p ps.length).n 0 [a0, a1, a2, a3, a4, a5, z, z7, z8] S) Qn Qr := by
  refine for_hd (fun i φ S' => ∃ z, φ = [a0, a1, a2, a3, a4, a5, z, z7, z8] ∧ Gw S S') ⟨_, rfl, Gw.refl⟩ (fun i φ S' _ hi => ?_) ?_ ?_
  · obtain ⟨z, _, g⟩ := hi
    exact g.lget H.pl
  · rintro i φ S' x hx ⟨z, rfl, g⟩
    obtain ⟨e, L, f, cps, kvs, rfl, _, _, _, h4, h5, h6, h7, h8, h9⟩ := (H.gw g).pq x (List.mem_of_getElem? hx)
    repeat (first | walk_at "jr" | simp only [h4, Option.bind_some, dget_iff.mpr h6])
    refine EqD_deep (lget_app h5) lget_new (by unfold itemsD; rw [List.length_map, h7]) (fun j x y hx hy => ?_) ?_
    · unfold itemsD at hy
      rw [List.getElem?_map] at hy
      obtain ⟨q, hq, rfl⟩ := Option.map_eq_some_iff.mp hy
      obtain ⟨k', r, r', zs, g1, g2, _, _, g5, g6⟩ := h9 j q hq
      rw [g2] at hx
      cases hx
      subst g1
      exact ⟨_, pair_py (lget_app g6), pair_py (lget_app g5), pair_ok _ _⟩
    · simp only [Bool.not_true, Bool.false_eq_true, if_false]
      exact ⟨_, rfl, g.trans Gw.app⟩
  · rintro φ S' ⟨z, rfl, g⟩
    exact q _ _ g
theorem p_good2 (ns : List Int) {v mm : Int} {h p lo k : Nat} {hs ps : List D} (hc : CoAt S n c) (d : DS c.m c) (hm : c.m ≤ 60) (hmm : mm = c.m) (hv : 0 ≤ v) (hh : n + 5 + c.m ≤ h) (hp : n + 5 + c.m ≤ p) (H : H8 S h p lo k hs ps) (hk : k ≤ 500)
    (q : ∀ S' hs' ps', Ey h p S S' → H8 S' h p lo (k + 2) hs' ps' → Q (.bl true) S') : Ok E (F_law_good ns [.ref n, .int mm, .int v, .ref h, .ref p] S) Q := by
  subst hmm
  exact p_good ns hc d hm hv hh hp H hk q
theorem law_true (ns : List Int) (hns : ns.length ≤ 63) : Ok NoE (F_law ns [.scr] []) fun d _ => d = .bl true := by
  unfold F_law b_law
  rw [Ok_mkF 1 _ _ _ (show [D.scr].length = 1 from rfl), St_assoc, St_assoc, St_assoc, St_assoc]
  refine St_cut (fun φ S => ∃ m h p c, φ = [some .scr, some (.int ((m : Nat) : Int)), some (.ref 0), some (.ref h), some (.ref p), none, none, none, none] ∧ 1 ≤ m ∧ m ≤ 60 ∧ W8 m h p 0 S c [] []) ?_ ?_
  · walk_at "jr"
    with_reducible refine law_cell_at ns (by decide) fun v0 => ?_
    with_reducible refine law_many_by ns v0 fun m hm1 hm2 => ?_
    refine co_init ns (S := []) ⟨hm1, hm2⟩ fun S1 h1 k1 => ?_
    have h1 : CoAt S1 0 (c00 m) := h1
    have hS1 : 0 + 5 + m ≤ S1.length := h1.lt
    have d0 : DS (c00 m).m (c00 m) := ds00 hm1
    have fin : ∀ (S2 : Store) (c : Co), CoAt S2 0 c → DS c.m c → c.m = m → c.rows.length ≤ 0 → c.log.length ≤ 1 → 5 + m ≤ S2.length → ∃ m_1 h p c, [some D.scr, some (.int (m : Int)), some (.ref 0), some (.ref S2.length), some (.ref (S2 ++ [O.lst []]).length), none, none, none, none] = [some .scr, some (.int ((m_1 : Nat) : Int)), some (.ref 0), some (.ref h), some (.ref p), none, none, none, none] ∧ 1 ≤ m_1 ∧ m_1 ≤ 60 ∧ W8 m_1 h p 0 (S2 ++ [O.lst []] ++ [O.lst []]) c [] [] := by
      intro S2 c hc hd hcm hr hg hl
      refine ⟨m, _, _, c, rfl, hm1, hm2, hc.app.app, hd, hcm, hr, hg, ⟨lget_app lget_new, lget_new, (fun x hx => nomatch hx), (fun x hx => nomatch hx), Nat.zero_le _, Nat.zero_le _, by simp; omega, by simp, by simp, by simp⟩, hl, by simp; omega⟩
    walk_at "jr"
    with_reducible refine law_cell_at ns (by decide) fun v1 => ?_
    rw [k_mod]
    refine ⟨by decide, ?_⟩
    rw [k_neI]
    simp only
    split
    · refine ⟨isIns_of h1.me rfl, ?_⟩
      with_reducible refine law_cell_at ns (by decide) fun v3 => ?_
      rw [k_fdiv]
      refine ⟨by decide, ?_⟩
      with_reducible refine law_pieces_by ns _ fun P1 hP1 hP2 => ?_
      have hgl : (c00 m).log.length < 16777216 := by show 0 < 16777216; decide
      have hmp : 0 < (c00 m).m := d0.m
      with_reducible refine co_begin ns h1 hmp hgl (fun S2 r _ b1 b2 b3 h4 k4 l4 => ?_) (fun h => ?_) (fun _ h => ?_)
      rotate_left
      · cases h
      · omega
      exact fin _ _ h4 ((d0.begin rfl b1).told _) rfl (Nat.le_refl _) (Nat.le_refl _) (by have := k4.len; omega)
    · exact fin _ _ h1 d0 rfl (Nat.le_refl _) (Nat.zero_le _) (by omega)
  intro φ S hM
  cases hM with | intro m hM =>
  cases hM with | intro h hM =>
  cases hM with | intro p hM =>
  cases hM with | intro c0 hM =>
  cases hM with | intro ef hM =>
  cases hM with | intro hm1 hM =>
  cases hM with | intro hm2 w0 =>
  subst ef
  walk_at "jr"
  with_reducible refine law_cell_at ns (by decide) fun v2 => ?_
  rw [k_mod]
  refine ⟨by decide, ?_⟩
  have hN1 := Int.emod_nonneg v2 (show (91 : Int) ≠ 0 by decide)
  have hN2 := Int.emod_lt_of_pos v2 (show (0 : Int) < 91 by decide)
  simp only
  refine ⟨by omega, ?_⟩
  refine for_rg (fun i φ S => ∃ z5 z6 z7 z8 c hs ps, φ = [some .scr, some (.int m), some (.ref 0), some (.ref h), some (.ref p), z5, z6, z7, z8] ∧ W8 m h p i S c hs ps) ⟨_, _, _, _, c0, [], [], rfl, w0⟩ ?_ ?_
  · rintro i φ S hi ⟨z5, z6, z7, z8, c, hs, ps, rfl, w⟩
    have hi : i < 91 := by omega
    have hm9 := w.cm
    have hr9 := w.rb
    have hg9 := w.gb
    have hh9 := w.hh
    have hp9 := w.hp
    rw [St_assoc, St_assoc]
    with_reducible refine St_cut (fun φ S' => ∃ u z8 c', φ = [some .scr, some (.int m), some (.ref 0), some (.ref h), some (.ref p), some (.int (0 + (i : Int))), z6, some (.int u), z8] ∧ 0 ≤ u ∧ CoAt S' 0 c' ∧ DS c'.m c' ∧ c'.m = m ∧ c'.rows.length ≤ i + 1 ∧ c'.log.length ≤ i + 2 ∧ H8 S' h p (p + 1) (2 * i) hs ps) ?_ ?_
    · walk_at "jr"
      with_reducible refine law_mixed ns (by omega) fun u hu _ => ?_
      have hcm9 : c.m ≤ 60 := by omega
      have hmm9 : (m : Int) = c.m := by rw [hm9]
      with_reducible refine p_next ns w.co w.d hcm9 hmm9 (fun T _ _ => ?_) (fun T dd hgd => ?_)
      · rw [if_neg (by decide)]
        exact ⟨u, _, c, rfl, hu, w.co.app, w.d, hm9, by omega, by omega, w.H.gw Gw.app⟩
      · have hc2 := w.co.app (T := T)
        have H2 : H8 (S ++ T) h p (p + 1) (2 * i) hs ps := w.H.gw Gw.app
        simp only [isN_d, Bool.not_false, if_true]
        have hrb' : c.rows.length < 100000 := by omega
        have hgb' : c.log.length < 100000 := by omega
        with_reducible refine p_gd ns hc2 w.d hrb' hgb' hgd fun S1 r rs c' hst hr hc3 hk hl => ?_
        obtain ⟨k1, k2, k3, k4, k5⟩ := step_ok w.d hst
        exact ⟨u, _, c', rfl, hu, hc3, k1, by omega, by omega, by omega, H2.keep hk (by omega) (by omega)⟩
    · intro φ S' hM
      cases hM with | intro u hM =>
      cases hM with | intro z8' hM =>
      cases hM with | intro c' hM =>
      cases hM with | intro ef hM =>
      cases hM with | intro hu hM =>
      cases hM with | intro hc' hM =>
      cases hM with | intro hd' hM =>
      cases hM with | intro hm' hM =>
      cases hM with | intro hrb' hM =>
      cases hM with | intro hgb' hH' =>
      subst ef
      walk_at "jr"
      refine ⟨by omega, ?_⟩
      have hcm9 : c'.m ≤ 60 := by omega
      have hmm9 : (m : Int) = c'.m := by rw [hm']
      by_cases hq : u / 11 % (3 + (m : Int) / 2) = 0
      · rw [if_pos hq]
        have b1 : 0 + 5 + c'.m ≤ h := by omega
        have b2 : 0 + 5 + c'.m ≤ p := by omega
        have b3 : 0 ≤ u / 13 := by omega
        have b4 : 2 * i ≤ 500 := by omega
        with_reducible refine p_good2 ns hc' hd' hcm9 hmm9 b3 b1 b2 hH' b4 fun S3 hs3 ps3 e3 H3 => ?_
        exact ⟨_, _, _, _, c', hs3, ps3, rfl, e3.co hc' (.inr b1) (.inr b2), hd', hm', hrb', hgb', H3.up (by omega), hh9, hp9⟩
      · rw [if_neg hq]
        exact ⟨_, _, _, _, c', hs, ps, rfl, hc', hd', hm', hrb', hgb', hH'.up (by omega), hh9, hp9⟩
  · rintro φ S ⟨z5, z6, z7, z8, c, hs, ps, rfl, w⟩
    have hm9 := w.cm
    have hr9 := w.rb
    have hg9 := w.gb
    have hh9 := w.hh
    have hp9 := w.hp
    walk_at "jr"
    rw [w.H.pl]
    simp only
    refine pairs_ok ns w.H fun S' z g => ?_
    have hcm9 : c.m ≤ 60 := by omega
    have hmm9 : (m : Int) = c.m := by rw [hm9]
    have b1 : 0 + 5 + c.m ≤ h := by omega
    have b2 : 0 + 5 + c.m ≤ p := by omega
    have b4 : 2 * (v2 % 91).toNat ≤ 500 := by omega
    have b3 : (0 : Int) ≤ (ns.length : Int) := by omega
    simp only [List.getElem?_cons_succ, List.getElem?_cons_zero]
    rw [k_lenC]
    with_reducible refine p_good2 ns (g.co w.co) w.d hcm9 hmm9 b3 b1 b2 (w.H.gw g) b4 fun S3 hs3 ps3 e3 H3 => ?_
    simp only [H3.hl]
    exact all_pairs ns (lo := p + 1) H3.hl H3.hq (by have := H3.hk; omega) (by show 6 < 9; decide) fun _ => rfl
theorem math (ns : List Int) (h : ns.length ≤ 63) : ∃ S, F_law ns [.scr] [] = .ok (.bl true) S := by
  obtain ⟨d, S, e, rfl⟩ := (law_true ns h).get
  exact ⟨S, e⟩
end

end DebtJ.Law

set_option Elab.async false
set_option linter.all false
set_option maxRecDepth 100000
set_option maxHeartbeats 4000000
namespace DebtJ.Law
open PySem PySem.Spec PyProof.Rows L2 DebtJ
def top (i : Nat) : Stmt := PySem.Challenge.pw_debttree_k08_debts_and_ways.main.body.getD i (.Pass ⟨0, 0, 0, 0⟩)
abbrev s_law_many_by : Stmt := top 25
abbrev s_Post_init : Stmt := inClass (top 15) 0
abbrev s_Hand_init : Stmt := inClass (top 13) 0
abbrev s_Company_init : Stmt := inClass (top 19) 0
abbrev s_law_cell_at : Stmt := top 21
abbrev s_Company_tell : Stmt := inClass (top 19) 6
abbrev s_Company_begin : Stmt := inClass (top 19) 7
abbrev s_law_mixed : Stmt := top 22
abbrev s_Post_under : Stmt := inClass (top 15) 3
abbrev s_Company_under : Stmt := inClass (top 19) 3
abbrev s_Hand_told : Stmt := inClass (top 13) 1
abbrev s_Company_one : Stmt := inClass (top 19) 1
abbrev s_Company_hand : Stmt := inClass (top 19) 2
abbrev s_law_next : Stmt := top 27
abbrev s_Company_runs : Stmt := inClass (top 19) 4
abbrev s_is_in : Stmt := top 2
abbrev s_way : Stmt := top 3
abbrev s_debts : Stmt := top 1
abbrev s_law_whole : Stmt := top 23
abbrev s_law_alike : Stmt := top 24
abbrev s_law_debts_good : Stmt := top 32
abbrev s_woken_by : Stmt := top 4
abbrev s_law_woken_due : Stmt := top 30
abbrev s_law_woken_good : Stmt := top 31
abbrev s_law_way_good : Stmt := top 29
abbrev s_law_good : Stmt := top 33
abbrev s_law_pieces_by : Stmt := top 26
abbrev s_Post_take : Stmt := inClass (top 15) 2
abbrev s_Hand_leave : Stmt := inClass (top 13) 3
abbrev s_Hand_is_free : Stmt := inClass (top 13) 2
abbrev s_Post_put : Stmt := inClass (top 15) 1
abbrev s_Company_sent : Stmt := inClass (top 19) 10
abbrev s_Company_freed : Stmt := inClass (top 19) 13
abbrev s_Company_woken : Stmt := inClass (top 19) 12
abbrev s_Company_carry : Stmt := inClass (top 19) 11
abbrev s_Company_hand_on : Stmt := inClass (top 19) 9
abbrev s_Company_do : Stmt := inClass (top 19) 8
abbrev s_law_done : Stmt := top 28
abbrev s_law : Stmt := top 34
structure Ad where
  c_Hand : Addr
  c_Post : Addr
  c_Company : Addr
  x_DebtError : Addr
  x_NoCompany : Addr
  x_NoHand : Addr
  x_NoWork : Addr
  x_NoPlace : Addr
  x_Begun : Addr
  f_law_many_by : Addr
  d_law_many_by : FuncData
  f_Post_init : Addr
  d_Post_init : FuncData
  f_Hand_init : Addr
  d_Hand_init : FuncData
  f_Company_init : Addr
  d_Company_init : FuncData
  f_law_cell_at : Addr
  d_law_cell_at : FuncData
  f_Company_tell : Addr
  d_Company_tell : FuncData
  f_Company_begin : Addr
  d_Company_begin : FuncData
  f_law_mixed : Addr
  d_law_mixed : FuncData
  f_Post_under : Addr
  d_Post_under : FuncData
  f_Company_under : Addr
  d_Company_under : FuncData
  f_Hand_told : Addr
  d_Hand_told : FuncData
  f_Company_one : Addr
  d_Company_one : FuncData
  f_Company_hand : Addr
  d_Company_hand : FuncData
  f_law_next : Addr
  d_law_next : FuncData
  f_Company_runs : Addr
  d_Company_runs : FuncData
  f_is_in : Addr
  d_is_in : FuncData
  f_way : Addr
  d_way : FuncData
  f_debts : Addr
  d_debts : FuncData
  f_law_whole : Addr
  d_law_whole : FuncData
  f_law_alike : Addr
  d_law_alike : FuncData
  f_law_debts_good : Addr
  d_law_debts_good : FuncData
  f_woken_by : Addr
  d_woken_by : FuncData
  f_law_woken_due : Addr
  d_law_woken_due : FuncData
  f_law_woken_good : Addr
  d_law_woken_good : FuncData
  f_law_way_good : Addr
  d_law_way_good : FuncData
  f_law_good : Addr
  d_law_good : FuncData
  f_law_pieces_by : Addr
  d_law_pieces_by : FuncData
  f_Post_take : Addr
  d_Post_take : FuncData
  f_Hand_leave : Addr
  d_Hand_leave : FuncData
  f_Hand_is_free : Addr
  d_Hand_is_free : FuncData
  f_Post_put : Addr
  d_Post_put : FuncData
  f_Company_sent : Addr
  d_Company_sent : FuncData
  f_Company_freed : Addr
  d_Company_freed : FuncData
  f_Company_woken : Addr
  d_Company_woken : FuncData
  f_Company_carry : Addr
  d_Company_carry : FuncData
  f_Company_hand_on : Addr
  d_Company_hand_on : FuncData
  f_Company_do : Addr
  d_Company_do : FuncData
  f_law_done : Addr
  d_law_done : FuncData
  f_law : Addr
  d_law : FuncData
def Ad.ca (A : Ad) : Nat → Addr
  | 2 => A.c_Hand
  | 0 => A.c_Post
  | 1 => A.c_Company
  | 10 => A.x_DebtError
  | 11 => A.x_NoCompany
  | 12 => A.x_NoHand
  | 13 => A.x_NoWork
  | 14 => A.x_NoPlace
  | 15 => A.x_Begun
  | _ => A.x_DebtError
abbrev Ad.pm (A : Ad) (a : Addr) (ns : List Int) : Pm := ⟨A.ca, a, ns⟩
structure Txt (w : World) (K : PySem.W.Frag) (mg : Str → Option Value) (A : Ad) : Prop where
  b_all : mg "all" = none
  b_bool : mg "bool" = none
  b_dict : mg "dict" = none
  b_int : mg "int" = none
  b_isinstance : mg "isinstance" = none
  b_len : mg "len" = none
  b_list : mg "list" = none
  b_range : mg "range" = none
  b_set : mg "set" = none
  b_str : mg "str" = none
  b_tuple : mg "tuple" = none
  g_MOST_HANDS : ∃ t, mg "MOST_HANDS" = some (.int 60 t)
  g_MOST_PIECES : ∃ t, mg "MOST_PIECES" = some (.int 999999 t)
  cl_Hand : Cls K (A.ca 2)
  gc_Hand : mg "Hand" = some (.ref (A.ca 2))
  mk_Hand : Mk K (A.ca 2) A.f_Hand_init
  cl_Post : Cls K (A.ca 0)
  gc_Post : mg "Post" = some (.ref (A.ca 0))
  mk_Post : Mk K (A.ca 0) A.f_Post_init
  cl_Company : Cls K (A.ca 1)
  gc_Company : mg "Company" = some (.ref (A.ca 1))
  mk_Company : Mk K (A.ca 1) A.f_Company_init
  na_crew : NoAttr K (A.ca 1) "crew"
  na_post : NoAttr K (A.ca 1) "post"
  na_running : NoAttr K (A.ca 1) "running"
  na_spoken : NoAttr K (A.ca 1) "spoken"
  na_pieces : NoAttr K (A.ca 2) "pieces"
  na_tally : NoAttr K (A.ca 2) "tally"
  na_unanswered : NoAttr K (A.ca 2) "unanswered"
  na_waker : NoAttr K (A.ca 2) "waker"
  na_rows : NoAttr K (A.ca 0) "rows"
  fu_law_many_by : Fun K "_law_many_by" "_law_many_by" s_law_many_by A.f_law_many_by A.d_law_many_by
  gf_law_many_by : mg "_law_many_by" = some (.ref A.f_law_many_by)
  fu_Post_init : Fun K "__init__" "Post.__init__" s_Post_init A.f_Post_init A.d_Post_init
  fu_Hand_init : Fun K "__init__" "Hand.__init__" s_Hand_init A.f_Hand_init A.d_Hand_init
  fu_Company_init : Fun K "__init__" "Company.__init__" s_Company_init A.f_Company_init A.d_Company_init
  fu_law_cell_at : Fun K "_law_cell_at" "_law_cell_at" s_law_cell_at A.f_law_cell_at A.d_law_cell_at
  gf_law_cell_at : mg "_law_cell_at" = some (.ref A.f_law_cell_at)
  fu_Company_tell : Fun K "tell" "Company.tell" s_Company_tell A.f_Company_tell A.d_Company_tell
  me_Company_tell : Meth K (A.ca 1) "tell" A.f_Company_tell
  fu_Company_begin : Fun K "begin" "Company.begin" s_Company_begin A.f_Company_begin A.d_Company_begin
  me_Company_begin : Meth K (A.ca 1) "begin" A.f_Company_begin
  fu_law_mixed : Fun K "_law_mixed" "_law_mixed" s_law_mixed A.f_law_mixed A.d_law_mixed
  gf_law_mixed : mg "_law_mixed" = some (.ref A.f_law_mixed)
  fu_Post_under : Fun K "under" "Post.under" s_Post_under A.f_Post_under A.d_Post_under
  me_Post_under : Meth K (A.ca 0) "under" A.f_Post_under
  fu_Company_under : Fun K "under" "Company.under" s_Company_under A.f_Company_under A.d_Company_under
  me_Company_under : Meth K (A.ca 1) "under" A.f_Company_under
  fu_Hand_told : Fun K "told" "Hand.told" s_Hand_told A.f_Hand_told A.d_Hand_told
  me_Hand_told : Meth K (A.ca 2) "told" A.f_Hand_told
  fu_Company_one : Fun K "one" "Company.one" s_Company_one A.f_Company_one A.d_Company_one
  me_Company_one : Meth K (A.ca 1) "one" A.f_Company_one
  fu_Company_hand : Fun K "hand" "Company.hand" s_Company_hand A.f_Company_hand A.d_Company_hand
  me_Company_hand : Meth K (A.ca 1) "hand" A.f_Company_hand
  fu_law_next : Fun K "_law_next" "_law_next" s_law_next A.f_law_next A.d_law_next
  gf_law_next : mg "_law_next" = some (.ref A.f_law_next)
  fu_Company_runs : Fun K "runs" "Company.runs" s_Company_runs A.f_Company_runs A.d_Company_runs
  me_Company_runs : Meth K (A.ca 1) "runs" A.f_Company_runs
  fu_is_in : Fun K "is_in" "is_in" s_is_in A.f_is_in A.d_is_in
  gf_is_in : mg "is_in" = some (.ref A.f_is_in)
  fu_way : Fun K "way" "way" s_way A.f_way A.d_way
  gf_way : mg "way" = some (.ref A.f_way)
  fu_debts : Fun K "debts" "debts" s_debts A.f_debts A.d_debts
  gf_debts : mg "debts" = some (.ref A.f_debts)
  fu_law_whole : Fun K "_law_whole" "_law_whole" s_law_whole A.f_law_whole A.d_law_whole
  gf_law_whole : mg "_law_whole" = some (.ref A.f_law_whole)
  fu_law_alike : Fun K "_law_alike" "_law_alike" s_law_alike A.f_law_alike A.d_law_alike
  gf_law_alike : mg "_law_alike" = some (.ref A.f_law_alike)
  fu_law_debts_good : Fun K "_law_debts_good" "_law_debts_good" s_law_debts_good A.f_law_debts_good A.d_law_debts_good
  gf_law_debts_good : mg "_law_debts_good" = some (.ref A.f_law_debts_good)
  fu_woken_by : Fun K "woken_by" "woken_by" s_woken_by A.f_woken_by A.d_woken_by
  gf_woken_by : mg "woken_by" = some (.ref A.f_woken_by)
  fu_law_woken_due : Fun K "_law_woken_due" "_law_woken_due" s_law_woken_due A.f_law_woken_due A.d_law_woken_due
  gf_law_woken_due : mg "_law_woken_due" = some (.ref A.f_law_woken_due)
  fu_law_woken_good : Fun K "_law_woken_good" "_law_woken_good" s_law_woken_good A.f_law_woken_good A.d_law_woken_good
  gf_law_woken_good : mg "_law_woken_good" = some (.ref A.f_law_woken_good)
  fu_law_way_good : Fun K "_law_way_good" "_law_way_good" s_law_way_good A.f_law_way_good A.d_law_way_good
  gf_law_way_good : mg "_law_way_good" = some (.ref A.f_law_way_good)
  fu_law_good : Fun K "_law_good" "_law_good" s_law_good A.f_law_good A.d_law_good
  gf_law_good : mg "_law_good" = some (.ref A.f_law_good)
  fu_law_pieces_by : Fun K "_law_pieces_by" "_law_pieces_by" s_law_pieces_by A.f_law_pieces_by A.d_law_pieces_by
  gf_law_pieces_by : mg "_law_pieces_by" = some (.ref A.f_law_pieces_by)
  fu_Post_take : Fun K "take" "Post.take" s_Post_take A.f_Post_take A.d_Post_take
  me_Post_take : Meth K (A.ca 0) "take" A.f_Post_take
  fu_Hand_leave : Fun K "leave" "Hand.leave" s_Hand_leave A.f_Hand_leave A.d_Hand_leave
  me_Hand_leave : Meth K (A.ca 2) "leave" A.f_Hand_leave
  fu_Hand_is_free : Fun K "is_free" "Hand.is_free" s_Hand_is_free A.f_Hand_is_free A.d_Hand_is_free
  me_Hand_is_free : Meth K (A.ca 2) "is_free" A.f_Hand_is_free
  fu_Post_put : Fun K "put" "Post.put" s_Post_put A.f_Post_put A.d_Post_put
  me_Post_put : Meth K (A.ca 0) "put" A.f_Post_put
  fu_Company_sent : Fun K "sent" "Company.sent" s_Company_sent A.f_Company_sent A.d_Company_sent
  me_Company_sent : Meth K (A.ca 1) "sent" A.f_Company_sent
  fu_Company_freed : Fun K "freed" "Company.freed" s_Company_freed A.f_Company_freed A.d_Company_freed
  me_Company_freed : Meth K (A.ca 1) "freed" A.f_Company_freed
  fu_Company_woken : Fun K "woken" "Company.woken" s_Company_woken A.f_Company_woken A.d_Company_woken
  me_Company_woken : Meth K (A.ca 1) "woken" A.f_Company_woken
  fu_Company_carry : Fun K "carry" "Company.carry" s_Company_carry A.f_Company_carry A.d_Company_carry
  me_Company_carry : Meth K (A.ca 1) "carry" A.f_Company_carry
  fu_Company_hand_on : Fun K "hand_on" "Company.hand_on" s_Company_hand_on A.f_Company_hand_on A.d_Company_hand_on
  me_Company_hand_on : Meth K (A.ca 1) "hand_on" A.f_Company_hand_on
  fu_Company_do : Fun K "do" "Company.do" s_Company_do A.f_Company_do A.d_Company_do
  me_Company_do : Meth K (A.ca 1) "do" A.f_Company_do
  fu_law_done : Fun K "_law_done" "_law_done" s_law_done A.f_law_done A.d_law_done
  gf_law_done : mg "_law_done" = some (.ref A.f_law_done)
  fu_law : Fun K "law" "law" s_law A.f_law A.d_law
  gx_DebtError : mg "DebtError" = some (.ref (A.ca 10))
  gx_NoCompany : mg "NoCompany" = some (.ref (A.ca 11))
  gx_NoHand : mg "NoHand" = some (.ref (A.ca 12))
  gx_NoWork : mg "NoWork" = some (.ref (A.ca 13))
  gx_NoPlace : mg "NoPlace" = some (.ref (A.ca 14))
  gx_Begun : mg "Begun" = some (.ref (A.ca 15))
  xc_Begun : XC K mg (A.ca 15) "Begun"
  xc_NoCompany : XC K mg (A.ca 11) "NoCompany"
  xc_NoHand : XC K mg (A.ca 12) "NoHand"
  xc_NoPlace : XC K mg (A.ca 14) "NoPlace"
  xc_NoWork : XC K mg (A.ca 13) "NoWork"
section
variable {P : Program} {w : World} {K : PySem.W.Frag} {mg : Str → Option Value} {base : Heap} {A : Ad} {a : Addr} {ns : List Int}
theorem sc_law_many_by : FnScope ["_law_cell"] ["_law_cell"] (defScope s_law_many_by) := ⟨rfl, rfl, rfl, by decide +kernel, rfl, by decide +kernel, by decide +kernel⟩
theorem sc_Post_init : FnScope ["self"] ["self"] (defScope s_Post_init) := ⟨rfl, rfl, rfl, by decide +kernel, rfl, by decide +kernel, by decide +kernel⟩
theorem sc_Hand_init : FnScope ["self"] ["self"] (defScope s_Hand_init) := ⟨rfl, rfl, rfl, by decide +kernel, rfl, by decide +kernel, by decide +kernel⟩
theorem sc_Company_init : FnScope ["self", "many", "k"] ["self", "many"] (defScope s_Company_init) := ⟨rfl, rfl, rfl, by decide +kernel, rfl, by decide +kernel, by decide +kernel⟩
theorem sc_law_cell_at : FnScope ["_law_script", "_law_k"] ["_law_script", "_law_k"] (defScope s_law_cell_at) := ⟨rfl, rfl, rfl, by decide +kernel, rfl, by decide +kernel, by decide +kernel⟩
theorem sc_Company_tell : FnScope ["self", "rows"] ["self", "rows"] (defScope s_Company_tell) := ⟨rfl, rfl, rfl, by decide +kernel, rfl, by decide +kernel, by decide +kernel⟩
theorem sc_Company_begin : FnScope ["self", "pieces"] ["self", "pieces"] (defScope s_Company_begin) := ⟨rfl, rfl, rfl, by decide +kernel, rfl, by decide +kernel, by decide +kernel⟩
theorem sc_law_mixed : FnScope ["_law_script", "_law_k", "_law_cell", "_law_near"] ["_law_script", "_law_k"] (defScope s_law_mixed) := ⟨rfl, rfl, rfl, by decide +kernel, rfl, by decide +kernel, by decide +kernel⟩
theorem sc_Post_under : FnScope ["self"] ["self"] (defScope s_Post_under) := ⟨rfl, rfl, rfl, by decide +kernel, rfl, by decide +kernel, by decide +kernel⟩
theorem sc_Company_under : FnScope ["self"] ["self"] (defScope s_Company_under) := ⟨rfl, rfl, rfl, by decide +kernel, rfl, by decide +kernel, by decide +kernel⟩
theorem sc_Hand_told : FnScope ["self"] ["self"] (defScope s_Hand_told) := ⟨rfl, rfl, rfl, by decide +kernel, rfl, by decide +kernel, by decide +kernel⟩
theorem sc_Company_one : FnScope ["self", "number"] ["self", "number"] (defScope s_Company_one) := ⟨rfl, rfl, rfl, by decide +kernel, rfl, by decide +kernel, by decide +kernel⟩
theorem sc_Company_hand : FnScope ["self", "number"] ["self", "number"] (defScope s_Company_hand) := ⟨rfl, rfl, rfl, by decide +kernel, rfl, by decide +kernel, by decide +kernel⟩
theorem sc_law_next : FnScope ["_law_company", "_law_many", "_law_number", "_law_workers", "_law_under", "_law_hand", "_law_k"] ["_law_company", "_law_many", "_law_number"] (defScope s_law_next) := ⟨rfl, rfl, rfl, by decide +kernel, rfl, by decide +kernel, by decide +kernel⟩
theorem sc_Company_runs : FnScope ["self"] ["self"] (defScope s_Company_runs) := ⟨rfl, rfl, rfl, by decide +kernel, rfl, by decide +kernel, by decide +kernel⟩
theorem sc_is_in : FnScope ["company", "number", "waker"] ["company", "number"] (defScope s_is_in) := ⟨rfl, rfl, rfl, by decide +kernel, rfl, by decide +kernel, by decide +kernel⟩
theorem sc_way : FnScope ["company", "number", "found"] ["company", "number"] (defScope s_way) := ⟨rfl, rfl, rfl, by decide +kernel, rfl, by decide +kernel, by decide +kernel⟩
theorem sc_debts : FnScope ["company", "found", "number", "waker"] ["company"] (defScope s_debts) := ⟨rfl, rfl, rfl, by decide +kernel, rfl, by decide +kernel, by decide +kernel⟩
theorem sc_law_whole : FnScope ["_law_found"] ["_law_found"] (defScope s_law_whole) := ⟨rfl, rfl, rfl, by decide +kernel, rfl, by decide +kernel, by decide +kernel⟩
theorem sc_law_alike : FnScope ["_law_found", "_law_due", "_law_k"] ["_law_found", "_law_due"] (defScope s_law_alike) := ⟨rfl, rfl, rfl, by decide +kernel, rfl, by decide +kernel, by decide +kernel⟩
theorem sc_law_debts_good : FnScope ["_law_company", "_law_many", "_law_wakers", "_law_held", "_law_due", "_law_found", "_law_k"] ["_law_company", "_law_many", "_law_wakers", "_law_held"] (defScope s_law_debts_good) := ⟨rfl, rfl, rfl, by decide +kernel, rfl, by decide +kernel, by decide +kernel⟩
theorem sc_woken_by : FnScope ["company", "found", "number", "pair"] ["company"] (defScope s_woken_by) := ⟨rfl, rfl, rfl, by decide +kernel, rfl, by decide +kernel, by decide +kernel⟩
theorem sc_law_woken_due : FnScope ["_law_company", "_law_many", "_law_wakers", "_law_pairs", "_law_k", "_law_j"] ["_law_company", "_law_many", "_law_wakers"] (defScope s_law_woken_due) := ⟨rfl, rfl, rfl, by decide +kernel, rfl, by decide +kernel, by decide +kernel⟩
theorem sc_law_woken_good : FnScope ["_law_company", "_law_many", "_law_wakers", "_law_held", "_law_found", "_law_again", "_law_k"] ["_law_company", "_law_many", "_law_wakers", "_law_held"] (defScope s_law_woken_good) := ⟨rfl, rfl, rfl, by decide +kernel, rfl, by decide +kernel, by decide +kernel⟩
theorem sc_law_way_good : FnScope ["_law_company", "_law_many", "_law_wakers", "_law_number", "_law_found", "_law_k"] ["_law_company", "_law_many", "_law_wakers", "_law_number"] (defScope s_law_way_good) := ⟨rfl, rfl, rfl, by decide +kernel, rfl, by decide +kernel, by decide +kernel⟩
theorem sc_law_good : FnScope ["_law_company", "_law_many", "_law_number", "_law_held", "_law_pairs", "_law_first", "_law_wakers", "_law_k", "_law_told"] ["_law_company", "_law_many", "_law_number", "_law_held", "_law_pairs"] (defScope s_law_good) := ⟨rfl, rfl, rfl, by decide +kernel, rfl, by decide +kernel, by decide +kernel⟩
theorem sc_law_pieces_by : FnScope ["_law_cell"] ["_law_cell"] (defScope s_law_pieces_by) := ⟨rfl, rfl, rfl, by decide +kernel, rfl, by decide +kernel, by decide +kernel⟩
theorem sc_Post_take : FnScope ["self", "place"] ["self", "place"] (defScope s_Post_take) := ⟨rfl, rfl, rfl, by decide +kernel, rfl, by decide +kernel, by decide +kernel⟩
theorem sc_Hand_leave : FnScope ["self", "pair"] ["self"] (defScope s_Hand_leave) := ⟨rfl, rfl, rfl, by decide +kernel, rfl, by decide +kernel, by decide +kernel⟩
theorem sc_Hand_is_free : FnScope ["self"] ["self"] (defScope s_Hand_is_free) := ⟨rfl, rfl, rfl, by decide +kernel, rfl, by decide +kernel, by decide +kernel⟩
theorem sc_Post_put : FnScope ["self", "row"] ["self", "row"] (defScope s_Post_put) := ⟨rfl, rfl, rfl, by decide +kernel, rfl, by decide +kernel, by decide +kernel⟩
theorem sc_Company_sent : FnScope ["self", "row"] ["self", "row"] (defScope s_Company_sent) := ⟨rfl, rfl, rfl, by decide +kernel, rfl, by decide +kernel, by decide +kernel⟩
theorem sc_Company_freed : FnScope ["self", "hand", "one", "tally", "waker"] ["self", "hand"] (defScope s_Company_freed) := ⟨rfl, rfl, rfl, by decide +kernel, rfl, by decide +kernel, by decide +kernel⟩
theorem sc_Company_woken : FnScope ["self", "hand", "other", "pieces", "one"] ["self", "hand", "other", "pieces"] (defScope s_Company_woken) := ⟨rfl, rfl, rfl, by decide +kernel, rfl, by decide +kernel, by decide +kernel⟩
theorem sc_Company_carry : FnScope ["self", "place", "row", "one"] ["self", "place"] (defScope s_Company_carry) := ⟨rfl, rfl, rfl, by decide +kernel, rfl, by decide +kernel, by decide +kernel⟩
theorem sc_Company_hand_on : FnScope ["self", "hand", "other", "pieces", "one"] ["self", "hand", "other", "pieces"] (defScope s_Company_hand_on) := ⟨rfl, rfl, rfl, by decide +kernel, rfl, by decide +kernel, by decide +kernel⟩
theorem sc_Company_do : FnScope ["self", "hand", "one"] ["self", "hand"] (defScope s_Company_do) := ⟨rfl, rfl, rfl, by decide +kernel, rfl, by decide +kernel, by decide +kernel⟩
theorem sc_law_done : FnScope ["_law_company", "_law_deed"] ["_law_company", "_law_deed"] (defScope s_law_done) := ⟨rfl, rfl, rfl, by decide +kernel, rfl, by decide +kernel, by decide +kernel⟩
theorem sc_law : FnScope ["_law_script", "_law_many", "_law_company", "_law_held", "_law_pairs", "_law_k", "_law_one", "_law_number", "_law_deed"] ["_law_script"] (defScope s_law) := ⟨rfl, rfl, rfl, by decide +kernel, rfl, by decide +kernel, by decide +kernel⟩
theorem j_law_many_by (T : Txt w K mg A)  : FJ P w K mg base (A.pm a ns) 1 A.f_law_many_by A.d_law_many_by ["_law_cell"] (F_law_many_by ns) :=
  fj_of (k := 0) T.fu_law_many_by sc_law_many_by (fun _ _ _ _ _ _ us hl => match us, hl with | [_], _ => rfl) fun cdv Ar outer s H E hr => by
    have tk : Takes (cxOf (L2.CX P w) P w K mg base ["_law_cell"] "_law_many_by" (defScope s_law_many_by) A.f_law_many_by cdv Ar outer s H E) (fun c d _ H' => E c d H') := takes_of rfl rfl rfl rfl
    exact (js_cons (js_if (jt_cmp (op_eqA hr.units) o_eq (je_op op_mod o_mod (je_var 0) je_int) je_int (nomark _)) (js_one (js_ret (je_op op_addA o_add je_int (je_op op_mod o_mod (je_op op_fdiv o_fdiv (je_var 0) je_int) je_int)))) js_nil)
    (js_one (js_ret (je_op op_addA o_add je_int (je_op op_mod o_mod (je_op op_fdiv o_fdiv (je_var 0) je_int) je_int)))))
theorem j_Post_init (T : Txt w K mg A)  : FJ P w K mg base (A.pm a ns) 1 A.f_Post_init A.d_Post_init ["self"] (F_Post_init ns) :=
  fj_of (k := 0) T.fu_Post_init sc_Post_init (fun _ _ _ _ _ _ us hl => match us, hl with | [_], _ => rfl) fun cdv Ar outer s H E hr => by
    have tk : Takes (cxOf (L2.CX P w) P w K mg base ["self"] "Post.__init__" (defScope s_Post_init) A.f_Post_init cdv Ar outer s H E) (fun c d _ H' => E c d H') := takes_of rfl rfl rfl rfl
    exact (js_one (js_fld (je_var 0) (je_lst ja_nil) T.cl_Post T.na_rows))
theorem j_Hand_init (T : Txt w K mg A)  : FJ P w K mg base (A.pm a ns) 1 A.f_Hand_init A.d_Hand_init ["self"] (F_Hand_init ns) :=
  fj_of (k := 0) T.fu_Hand_init sc_Hand_init (fun _ _ _ _ _ _ us hl => match us, hl with | [_], _ => rfl) fun cdv Ar outer s H E hr => by
    have tk : Takes (cxOf (L2.CX P w) P w K mg base ["self"] "Hand.__init__" (defScope s_Hand_init) A.f_Hand_init cdv Ar outer s H E) (fun c d _ H' => E c d H') := takes_of rfl rfl rfl rfl
    exact (js_cons (js_fld (je_var 0) je_int T.cl_Hand T.na_pieces)
    (js_cons (js_fld (je_var 0) je_int T.cl_Hand T.na_unanswered)
    (js_cons (js_fld (je_var 0) je_non T.cl_Hand T.na_waker)
    (js_one (js_fld (je_var 0) je_int T.cl_Hand T.na_tally)))))
theorem j_Company_init (T : Txt w K mg A) (J_Post_init : FJ P w K mg base (A.pm a ns) 1 A.f_Post_init A.d_Post_init ["self"] (F_Post_init ns)) (J_Hand_init : FJ P w K mg base (A.pm a ns) 1 A.f_Hand_init A.d_Hand_init ["self"] (F_Hand_init ns)) : FJ P w K mg base (A.pm a ns) 3 A.f_Company_init A.d_Company_init ["self", "many"] (F_Company_init ns) :=
  fj_of (k := 2) T.fu_Company_init sc_Company_init (fun _ _ _ _ _ _ us hl => match us, hl with | [_, _], _ => rfl) fun cdv Ar outer s H E hr => by
    have tk : Takes (cxOf (L2.CX P w) P w K mg base ["self", "many", "k"] "Company.__init__" (defScope s_Company_init) A.f_Company_init cdv Ar outer s H E) (fun c d _ H' => E c d H') := takes_of rfl rfl rfl rfl
    exact (js_cons (js_if (jt_w (jw_or (jt_cmp op_lt o_lt (je_var 1) je_int (nomark _)) (jw_or1 (jt_cmp op_gt o_gt (je_var 1) (je_gint T.g_MOST_HANDS) (nomark _))))) (js_one (js_raise T.xc_NoCompany tk)) js_nil)
    (js_cons (js_fld (je_var 0) (je_lc sc_Company_init.nd (ji_rg1 T.b_range (ja_cons (je_var 1) ja_nil)) (blkOk_by (N := ["self", "many", "k"]) (sc := defScope s_Company_init) (by decide +kernel)) (fun _ _ _ _ _ => pg_name (i := 2) sc_Company_init.nd rfl (Or.inl rfl)) (fun _ _ _ _ _ => jts_nil) (fun _ _ _ _ _ => (je_make0 T.mk_Hand J_Hand_init (hr.mono (by decide)) rfl T.gc_Hand takes0))) T.cl_Company T.na_crew)
    (js_cons (js_fld (je_var 0) (je_make0 T.mk_Post J_Post_init (hr.mono (by decide)) rfl T.gc_Post tk) T.cl_Company T.na_post)
    (js_cons (js_fld (je_var 0) je_bl T.cl_Company T.na_running)
    (js_one (js_fld (je_var 0) (je_lst ja_nil) T.cl_Company T.na_spoken))))))
theorem j_law_cell_at (T : Txt w K mg A)  : FJ P w K mg base (A.pm a ns) 1 A.f_law_cell_at A.d_law_cell_at ["_law_script", "_law_k"] (F_law_cell_at ns) :=
  fj_of (k := 0) T.fu_law_cell_at sc_law_cell_at (fun _ _ _ _ _ _ us hl => match us, hl with | [_, _], _ => rfl) fun cdv Ar outer s H E hr => by
    have tk : Takes (cxOf (L2.CX P w) P w K mg base ["_law_script", "_law_k"] "_law_cell_at" (defScope s_law_cell_at) A.f_law_cell_at cdv Ar outer s H E) (fun c d _ H' => E c d H') := takes_of rfl rfl rfl rfl
    exact (js_cons (js_if (jt_cmp op_lt o_lt (je_var 1) (je_cb call_lenA c_len T.b_len (ja_cons (je_var 0) ja_nil)) (nomark _)) (js_one (js_ret (je_ix (je_var 0) (je_var 1)))) js_nil)
    (js_one (js_ret je_int)))
theorem j_Company_tell (T : Txt w K mg A)  : FJ P w K mg base (A.pm a ns) 1 A.f_Company_tell A.d_Company_tell ["self", "rows"] (F_Company_tell ns) :=
  fj_of (k := 0) T.fu_Company_tell sc_Company_tell (fun _ _ _ _ _ _ us hl => match us, hl with | [_, _], _ => rfl) fun cdv Ar outer s H E hr => by
    have tk : Takes (cxOf (L2.CX P w) P w K mg base ["self", "rows"] "Company.tell" (defScope s_Company_tell) A.f_Company_tell cdv Ar outer s H E) (fun c d _ H' => E c d H') := takes_of rfl rfl rfl rfl
    exact (js_cons (js_expr (je_bm PySem.F.plainAttrs_list PySem.F.slot_list_extend PySem.F.type_list_extend mt_extend m_extend (je_fld (je_var 0) T.cl_Company T.na_spoken) (ja_cons (je_var 1) ja_nil)))
    (js_one (js_ret (je_var 1))))
theorem j_Company_begin (T : Txt w K mg A) (J_Company_tell : FJ P w K mg base (A.pm a ns) 1 A.f_Company_tell A.d_Company_tell ["self", "rows"] (F_Company_tell ns)) : FJ P w K mg base (A.pm a ns) 2 A.f_Company_begin A.d_Company_begin ["self", "pieces"] (F_Company_begin ns) :=
  fj_of (k := 1) T.fu_Company_begin sc_Company_begin (fun _ _ _ _ _ _ us hl => match us, hl with | [_, _], _ => rfl) fun cdv Ar outer s H E hr => by
    have tk : Takes (cxOf (L2.CX P w) P w K mg base ["self", "pieces"] "Company.begin" (defScope s_Company_begin) A.f_Company_begin cdv Ar outer s H E) (fun c d _ H' => E c d H') := takes_of rfl rfl rfl rfl
    exact (js_cons (js_if (jt_val (je_fld (je_var 0) T.cl_Company T.na_running)) (js_one (js_raise T.xc_Begun tk)) js_nil)
    (js_cons (js_if (jt_w (jw_or (jt_cmp op_lt o_lt (je_var 1) je_int (nomark _)) (jw_or1 (jt_cmp op_gt o_gt (je_var 1) (je_gint T.g_MOST_PIECES) (nomark _))))) (js_one (js_raise T.xc_NoWork tk)) js_nil)
    (js_cons (js_fld (je_var 0) je_bl T.cl_Company T.na_running)
    (js_cons (js_fld (je_ix (je_fld (je_var 0) T.cl_Company T.na_crew) je_int) (je_var 1) T.cl_Hand T.na_pieces)
    (js_one (js_ret (je_meth (je_var 0) T.cl_Company T.me_Company_tell J_Company_tell (hr.mono (by decide)) tk (ja_cons (je_lst (ja_cons (je_tup (ja_cons je_str (ja_cons (je_var 1) ja_nil))) ja_nil)) ja_nil))))))))
theorem j_law_mixed (T : Txt w K mg A)  : FJ P w K mg base (A.pm a ns) 1 A.f_law_mixed A.d_law_mixed ["_law_script", "_law_k"] (F_law_mixed ns) :=
  fj_of (k := 0) T.fu_law_mixed sc_law_mixed (fun _ _ _ _ _ _ us hl => match us, hl with | [_, _], _ => rfl) fun cdv Ar outer s H E hr => by
    have tk : Takes (cxOf (L2.CX P w) P w K mg base ["_law_script", "_law_k", "_law_cell", "_law_near"] "_law_mixed" (defScope s_law_mixed) A.f_law_mixed cdv Ar outer s H E) (fun c d _ H' => E c d H') := takes_of rfl rfl rfl rfl
    exact (js_cons (js_asg (i := 2) je_int sc_law_mixed.nd)
    (js_cons (js_if (jt_cmp op_gt o_gt (je_cb call_lenA c_len T.b_len (ja_cons (je_var 0) ja_nil)) je_int (nomark _)) (js_one (js_asg (i := 2) (je_ix (je_var 0) (je_op op_mod o_mod (je_var 1) (je_cb call_lenA c_len T.b_len (ja_cons (je_var 0) ja_nil)))) sc_law_mixed.nd)) js_nil)
    (js_cons (js_asg (i := 3) (je_op op_mod o_mod (je_op op_mulA o_mul (je_op op_addA o_add (je_var 2) (je_op op_mulA o_mul je_int (je_var 1))) je_int) je_int) sc_law_mixed.nd)
    (js_one (js_ret (je_op op_mod o_mod (je_op op_addA o_add (je_op op_mulA o_mul (je_var 3) (je_var 3)) (je_op op_mulA o_mul je_int (je_var 1))) je_int))))))
theorem j_Post_under (T : Txt w K mg A)  : FJ P w K mg base (A.pm a ns) 1 A.f_Post_under A.d_Post_under ["self"] (F_Post_under ns) :=
  fj_of (k := 0) T.fu_Post_under sc_Post_under (fun _ _ _ _ _ _ us hl => match us, hl with | [_], _ => rfl) fun cdv Ar outer s H E hr => by
    have tk : Takes (cxOf (L2.CX P w) P w K mg base ["self"] "Post.under" (defScope s_Post_under) A.f_Post_under cdv Ar outer s H E) (fun c d _ H' => E c d H') := takes_of rfl rfl rfl rfl
    exact (js_one (js_ret (je_cty call_listA c_list T.b_list (ja_cons (je_fld (je_var 0) T.cl_Post T.na_rows) ja_nil))))
theorem j_Company_under (T : Txt w K mg A) (J_Post_under : FJ P w K mg base (A.pm a ns) 1 A.f_Post_under A.d_Post_under ["self"] (F_Post_under ns)) : FJ P w K mg base (A.pm a ns) 2 A.f_Company_under A.d_Company_under ["self"] (F_Company_under ns) :=
  fj_of (k := 1) T.fu_Company_under sc_Company_under (fun _ _ _ _ _ _ us hl => match us, hl with | [_], _ => rfl) fun cdv Ar outer s H E hr => by
    have tk : Takes (cxOf (L2.CX P w) P w K mg base ["self"] "Company.under" (defScope s_Company_under) A.f_Company_under cdv Ar outer s H E) (fun c d _ H' => E c d H') := takes_of rfl rfl rfl rfl
    exact (js_one (js_ret (je_meth0 (je_fld (je_var 0) T.cl_Company T.na_post) T.cl_Post T.me_Post_under J_Post_under (hr.mono (by decide)) tk)))
theorem j_Hand_told (T : Txt w K mg A)  : FJ P w K mg base (A.pm a ns) 1 A.f_Hand_told A.d_Hand_told ["self"] (F_Hand_told ns) :=
  fj_of (k := 0) T.fu_Hand_told sc_Hand_told (fun _ _ _ _ _ _ us hl => match us, hl with | [_], _ => rfl) fun cdv Ar outer s H E hr => by
    have tk : Takes (cxOf (L2.CX P w) P w K mg base ["self"] "Hand.told" (defScope s_Hand_told) A.f_Hand_told cdv Ar outer s H E) (fun c d _ H' => E c d H') := takes_of rfl rfl rfl rfl
    exact (js_one (js_ret (je_tup (ja_cons (je_fld (je_var 0) T.cl_Hand T.na_pieces) (ja_cons (je_fld (je_var 0) T.cl_Hand T.na_unanswered) (ja_cons (je_fld (je_var 0) T.cl_Hand T.na_waker) (ja_cons (je_fld (je_var 0) T.cl_Hand T.na_tally) ja_nil)))))))
theorem j_Company_one (T : Txt w K mg A)  : FJ P w K mg base (A.pm a ns) 1 A.f_Company_one A.d_Company_one ["self", "number"] (F_Company_one ns) :=
  fj_of (k := 0) T.fu_Company_one sc_Company_one (fun _ _ _ _ _ _ us hl => match us, hl with | [_, _], _ => rfl) fun cdv Ar outer s H E hr => by
    have tk : Takes (cxOf (L2.CX P w) P w K mg base ["self", "number"] "Company.one" (defScope s_Company_one) A.f_Company_one cdv Ar outer s H E) (fun c d _ H' => E c d H') := takes_of rfl rfl rfl rfl
    exact (js_cons (js_if (jt_w (jw_or (jt_cmp op_lt o_lt (je_var 1) je_int (nomark _)) (jw_or1 (jt_cmp op_ge o_ge (je_var 1) (je_cb call_lenA c_len T.b_len (ja_cons (je_fld (je_var 0) T.cl_Company T.na_crew) ja_nil)) (nomark _))))) (js_one (js_raise T.xc_NoHand tk)) js_nil)
    (js_one (js_ret (je_ix (je_fld (je_var 0) T.cl_Company T.na_crew) (je_var 1)))))
theorem j_Company_hand (T : Txt w K mg A) (J_Hand_told : FJ P w K mg base (A.pm a ns) 1 A.f_Hand_told A.d_Hand_told ["self"] (F_Hand_told ns)) (J_Company_one : FJ P w K mg base (A.pm a ns) 1 A.f_Company_one A.d_Company_one ["self", "number"] (F_Company_one ns)) : FJ P w K mg base (A.pm a ns) 2 A.f_Company_hand A.d_Company_hand ["self", "number"] (F_Company_hand ns) :=
  fj_of (k := 1) T.fu_Company_hand sc_Company_hand (fun _ _ _ _ _ _ us hl => match us, hl with | [_, _], _ => rfl) fun cdv Ar outer s H E hr => by
    have tk : Takes (cxOf (L2.CX P w) P w K mg base ["self", "number"] "Company.hand" (defScope s_Company_hand) A.f_Company_hand cdv Ar outer s H E) (fun c d _ H' => E c d H') := takes_of rfl rfl rfl rfl
    exact (js_one (js_ret (je_meth0 (je_meth (je_var 0) T.cl_Company T.me_Company_one J_Company_one (hr.mono (by decide)) tk (ja_cons (je_var 1) ja_nil)) T.cl_Hand T.me_Hand_told J_Hand_told (hr.mono (by decide)) tk)))
theorem j_law_next (T : Txt w K mg A) (J_Company_under : FJ P w K mg base (A.pm a ns) 2 A.f_Company_under A.d_Company_under ["self"] (F_Company_under ns)) (J_Company_hand : FJ P w K mg base (A.pm a ns) 2 A.f_Company_hand A.d_Company_hand ["self", "number"] (F_Company_hand ns)) : FJ P w K mg base (A.pm a ns) 3 A.f_law_next A.d_law_next ["_law_company", "_law_many", "_law_number"] (F_law_next ns) :=
  fj_of (k := 2) T.fu_law_next sc_law_next (fun _ _ _ _ _ _ us hl => match us, hl with | [_, _, _], _ => rfl) fun cdv Ar outer s H E hr => by
    have tk : Takes (cxOf (L2.CX P w) P w K mg base ["_law_company", "_law_many", "_law_number", "_law_workers", "_law_under", "_law_hand", "_law_k"] "_law_next" (defScope s_law_next) A.f_law_next cdv Ar outer s H E) (fun c d _ H' => E c d H') := takes_of rfl rfl rfl rfl
    exact (js_cons (js_setLc (i := 3) sc_law_next.nd (ji_rg1 T.b_range (ja_cons (je_var 1) ja_nil)) (blkOk_by (N := ["_law_company", "_law_many", "_law_number", "_law_workers", "_law_under", "_law_hand", "_law_k"]) (sc := defScope s_law_next) (by decide +kernel)) (fun _ _ _ _ _ => pg_name (i := 6) sc_law_next.nd rfl (Or.inl rfl)) (fun _ _ _ _ _ => jts_one (jt_cmp op_gt o_gt (je_ix (je_meth (je_var 0) T.cl_Company T.me_Company_hand J_Company_hand (hr.mono (by decide)) takes0 (ja_cons (je_var 6) ja_nil)) je_int) je_int (nomark _))) (fun _ _ _ _ _ => (je_var 6)) (sw_true rfl rfl rfl (by decide +kernel)))
    (js_cons (js_asg (i := 4) (je_meth0 (je_var 0) T.cl_Company T.me_Company_under J_Company_under (hr.mono (by decide)) tk) sc_law_next.nd)
    (js_cons (js_if (jt_w (jw_and (jt_cmp op_gt o_gt (je_cb call_lenA c_len T.b_len (ja_cons (je_var 3) ja_nil)) je_int (nomark _)) (jw_and1 (jt_w (jw_or (jt_cmp op_lt o_lt (je_op op_mod o_mod (je_var 2) je_int) je_int (nomark _)) (jw_or1 (jt_cmp (op_eqA hr.units) o_eq (je_cb call_lenA c_len T.b_len (ja_cons (je_var 4) ja_nil)) je_int (nomark _)))))))) (js_cons (js_asg (i := 5) (je_ix (je_var 3) (je_op op_mod o_mod (je_op op_fdiv o_fdiv (je_var 2) je_int) (je_cb call_lenA c_len T.b_len (ja_cons (je_var 3) ja_nil)))) sc_law_next.nd)
    (js_cons (js_if (jt_cmp op_lt o_lt (je_op op_mod o_mod (je_var 2) je_int) je_int (nomark _)) (js_one (js_ret (je_tup (ja_cons je_str (ja_cons (je_var 5) (ja_cons (je_op op_mod o_mod (je_op op_fdiv o_fdiv (je_var 2) je_int) (je_var 1)) (ja_cons (je_op op_addA o_add je_int (je_op op_mod o_mod (je_op op_fdiv o_fdiv (je_var 2) je_int) (je_ix (je_meth (je_var 0) T.cl_Company T.me_Company_hand J_Company_hand (hr.mono (by decide)) tk (ja_cons (je_var 5) ja_nil)) je_int))) ja_nil))))))) js_nil)
    (js_one (js_ret (je_tup (ja_cons je_str (ja_cons (je_var 5) ja_nil))))))) js_nil)
    (js_cons (js_if (jt_cmp (op_eqA hr.units) o_eq (je_cb call_lenA c_len T.b_len (ja_cons (je_var 4) ja_nil)) je_int (nomark _)) (js_one (js_ret je_non)) js_nil)
    (js_one (js_ret (je_tup (ja_cons je_str (ja_cons (je_op op_mod o_mod (je_op op_fdiv o_fdiv (je_var 2) je_int) (je_cb call_lenA c_len T.b_len (ja_cons (je_var 4) ja_nil))) ja_nil)))))))))
theorem j_Company_runs (T : Txt w K mg A)  : FJ P w K mg base (A.pm a ns) 1 A.f_Company_runs A.d_Company_runs ["self"] (F_Company_runs ns) :=
  fj_of (k := 0) T.fu_Company_runs sc_Company_runs (fun _ _ _ _ _ _ us hl => match us, hl with | [_], _ => rfl) fun cdv Ar outer s H E hr => by
    have tk : Takes (cxOf (L2.CX P w) P w K mg base ["self"] "Company.runs" (defScope s_Company_runs) A.f_Company_runs cdv Ar outer s H E) (fun c d _ H' => E c d H') := takes_of rfl rfl rfl rfl
    exact (js_one (js_ret (je_fld (je_var 0) T.cl_Company T.na_running)))
theorem j_is_in (T : Txt w K mg A) (J_Company_hand : FJ P w K mg base (A.pm a ns) 2 A.f_Company_hand A.d_Company_hand ["self", "number"] (F_Company_hand ns)) (J_Company_runs : FJ P w K mg base (A.pm a ns) 1 A.f_Company_runs A.d_Company_runs ["self"] (F_Company_runs ns)) : FJ P w K mg base (A.pm a ns) 3 A.f_is_in A.d_is_in ["company", "number"] (F_is_in ns) :=
  fj_of (k := 2) T.fu_is_in sc_is_in (fun _ _ _ _ _ _ us hl => match us, hl with | [_, _], _ => rfl) fun cdv Ar outer s H E hr => by
    have tk : Takes (cxOf (L2.CX P w) P w K mg base ["company", "number", "waker"] "is_in" (defScope s_is_in) A.f_is_in cdv Ar outer s H E) (fun c d _ H' => E c d H') := takes_of rfl rfl rfl rfl
    exact (js_cons (js_asg (i := 2) (je_ix (je_meth (je_var 0) T.cl_Company T.me_Company_hand J_Company_hand (hr.mono (by decide)) tk (ja_cons (je_var 1) ja_nil)) je_int) sc_is_in.nd)
    (js_one (js_ret (je_or (je_cmp op_isNotA o_isNot (je_var 2) je_non (nomark _)) (je_one (je_and (je_cmp (op_eqA hr.units) o_eq (je_var 1) je_int (nomark _)) (je_one (je_meth0 (je_var 0) T.cl_Company T.me_Company_runs J_Company_runs (hr.mono (by decide)) tk))))))))
theorem j_way (T : Txt w K mg A) (J_is_in : FJ P w K mg base (A.pm a ns) 3 A.f_is_in A.d_is_in ["company", "number"] (F_is_in ns)) (J_Company_hand : FJ P w K mg base (A.pm a ns) 2 A.f_Company_hand A.d_Company_hand ["self", "number"] (F_Company_hand ns)) : FJ P w K mg base (A.pm a ns) 4 A.f_way A.d_way ["company", "number"] (F_way ns) :=
  fj_of (k := 3) T.fu_way sc_way (fun _ _ _ _ _ _ us hl => match us, hl with | [_, _], _ => rfl) fun cdv Ar outer s H E hr => by
    have tk : Takes (cxOf (L2.CX P w) P w K mg base ["company", "number", "found"] "way" (defScope s_way) A.f_way cdv Ar outer s H E) (fun c d _ H' => E c d H') := takes_of rfl rfl rfl rfl
    exact (js_cons (js_if (jt_not (jt_val (je_call J_is_in (hr.mono (by decide)) rfl T.gf_is_in tk (ja_cons (je_var 0) (ja_cons (je_var 1) ja_nil))))) (js_one (js_ret (je_lst ja_nil))) js_nil)
    (js_cons (js_asg (i := 2) (je_lst (ja_cons (je_var 1) ja_nil)) sc_way.nd)
    (js_cons (js_while 200 (passes_of rfl) (jt_cmp (op_neA hr.units) o_ne (je_ix (je_var 2) (je_neg je_int)) je_int (nomark _)) (js_one (js_expr (je_bm PySem.F.plainAttrs_list PySem.F.slot_list_append PySem.F.type_list_append mt_append m_append (je_var 2) (ja_cons (je_ix (je_meth (je_var 0) T.cl_Company T.me_Company_hand J_Company_hand (hr.mono (by decide)) tk (ja_cons (je_ix (je_var 2) (je_neg je_int)) ja_nil)) je_int) ja_nil)))))
    (js_one (js_ret (je_var 2))))))
theorem j_debts (T : Txt w K mg A) (J_Company_hand : FJ P w K mg base (A.pm a ns) 2 A.f_Company_hand A.d_Company_hand ["self", "number"] (F_Company_hand ns)) : FJ P w K mg base (A.pm a ns) 3 A.f_debts A.d_debts ["company"] (F_debts ns) :=
  fj_of (k := 2) T.fu_debts sc_debts (fun _ _ _ _ _ _ us hl => match us, hl with | [_], _ => rfl) fun cdv Ar outer s H E hr => by
    have tk : Takes (cxOf (L2.CX P w) P w K mg base ["company", "found", "number", "waker"] "debts" (defScope s_debts) A.f_debts cdv Ar outer s H E) (fun c d _ H' => E c d H') := takes_of rfl rfl rfl rfl
    exact (js_cons (js_asg (i := 1) (je_lst ja_nil) sc_debts.nd)
    (js_cons (js_for (j := 2) (passes_of rfl) sc_debts.nd (ji_rg1 T.b_range (ja_cons (je_cb call_lenA c_len T.b_len (ja_cons (je_fld (je_var 0) T.cl_Company T.na_crew) ja_nil)) ja_nil)) (js_cons (js_asg (i := 3) (je_ix (je_meth (je_var 0) T.cl_Company T.me_Company_hand J_Company_hand (hr.mono (by decide)) tk (ja_cons (je_var 2) ja_nil)) je_int) sc_debts.nd)
    (js_one (js_if (jt_cmp op_isNotA o_isNot (je_var 3) je_non (nomark _)) (js_one (js_expr (je_bm PySem.F.plainAttrs_list PySem.F.slot_list_append PySem.F.type_list_append mt_append m_append (je_var 1) (ja_cons (je_tup (ja_cons (je_var 2) (ja_cons (je_var 3) ja_nil))) ja_nil)))) js_nil))))
    (js_one (js_ret (je_var 1)))))
theorem j_law_whole (T : Txt w K mg A)  : FJ P w K mg base (A.pm a ns) 1 A.f_law_whole A.d_law_whole ["_law_found"] (F_law_whole ns) :=
  fj_of (k := 0) T.fu_law_whole sc_law_whole (fun _ _ _ _ _ _ us hl => match us, hl with | [_], _ => rfl) fun cdv Ar outer s H E hr => by
    have tk : Takes (cxOf (L2.CX P w) P w K mg base ["_law_found"] "_law_whole" (defScope s_law_whole) A.f_law_whole cdv Ar outer s H E) (fun c d _ H' => E c d H') := takes_of rfl rfl rfl rfl
    exact (js_one (js_ret (je_and (je_isi (je_var 0) T.b_isinstance T.b_int) (je_one (je_not (je_isi (je_var 0) T.b_isinstance T.b_bool))))))
theorem j_law_alikeR (T : Txt w K mg A) (J_law_whole : FJ P w K mg base (A.pm a ns) 1 A.f_law_whole A.d_law_whole ["_law_found"] (F_law_whole ns)) : ∀ n : Nat, FJ P w K mg base (A.pm a ns) (1 + n) A.f_law_alike A.d_law_alike ["_law_found", "_law_due"] (F_law_alikeR ns n)
  | 0 => fj_no (T.fu_law_alike) (fun _ _ _ _ _ _ us hl => match us, hl with | [_, _], _ => rfl)
  | n + 1 => by
    have jr := j_law_alikeR T J_law_whole n
    exact fj_of (k := 1 + n) T.fu_law_alike sc_law_alike (fun _ _ _ _ _ _ us hl => match us, hl with | [_, _], _ => rfl) fun cdv Ar outer s H E hr => by
      have tk : Takes (cxOf (L2.CX P w) P w K mg base ["_law_found", "_law_due", "_law_k"] "_law_alike" (defScope s_law_alike) A.f_law_alike cdv Ar outer s H E) (fun c d _ H' => E c d H') := takes_of rfl rfl rfl rfl
      exact (js_cons (js_if (jt_cmp op_isA o_is (je_var 1) je_non (nomark _)) (js_one (js_ret (je_cmp op_isA o_is (je_var 0) je_non (nomark _)))) js_nil)
    (js_cons (js_if (jt_val (je_isi (je_var 1) T.b_isinstance T.b_str)) (js_one (js_ret (je_and (je_isi (je_var 0) T.b_isinstance T.b_str) (je_one (je_cmp (op_eqA hr.units) o_eq (je_var 0) (je_var 1) (nomark _)))))) js_nil)
    (js_cons (js_if (jt_val (je_isi (je_var 1) T.b_isinstance T.b_bool)) (js_one (js_ret (je_and (je_isi (je_var 0) T.b_isinstance T.b_bool) (je_one (je_cmp (op_eqA hr.units) o_eq (je_var 0) (je_var 1) (nomark _)))))) js_nil)
    (js_cons (js_if (jt_val (je_isi (je_var 1) T.b_isinstance T.b_int)) (js_one (js_ret (je_and (je_call J_law_whole (hr.mono (by omega)) rfl T.gf_law_whole tk (ja_cons (je_var 0) ja_nil)) (je_one (je_cmp (op_eqA hr.units) o_eq (je_var 0) (je_var 1) (nomark _)))))) js_nil)
    (js_cons (js_if (jt_w (jw_and (jt_val (je_isi (je_var 1) T.b_isinstance T.b_tuple)) (jw_and1 (jt_not (jt_val (je_isi (je_var 0) T.b_isinstance T.b_tuple)))))) (js_one (js_ret je_bl)) js_nil)
    (js_cons (js_if (jt_w (jw_and (jt_val (je_isi (je_var 1) T.b_isinstance T.b_list)) (jw_and1 (jt_not (jt_val (je_isi (je_var 0) T.b_isinstance T.b_list)))))) (js_one (js_ret je_bl)) js_nil)
    (js_cons (js_if (jt_cmp (op_neA hr.units) o_ne (je_cb call_lenA c_len T.b_len (ja_cons (je_var 0) ja_nil)) (je_cb call_lenA c_len T.b_len (ja_cons (je_var 1) ja_nil)) (nomark _)) (js_one (js_ret je_bl)) js_nil)
    (js_cons (js_for (j := 2) (passes_of rfl) sc_law_alike.nd (ji_rg1 T.b_range (ja_cons (je_cb call_lenA c_len T.b_len (ja_cons (je_var 1) ja_nil)) ja_nil)) (js_one (js_if (jt_not (jt_val (je_call jr hr rfl T.gf_law_alike tk (ja_cons (je_ix (je_var 0) (je_var 2)) (ja_cons (je_ix (je_var 1) (je_var 2)) ja_nil))))) (js_one (js_ret je_bl)) js_nil)))
    (js_one (js_ret je_bl))))))))))
theorem j_law_alike (T : Txt w K mg A) (J_law_whole : FJ P w K mg base (A.pm a ns) 1 A.f_law_whole A.d_law_whole ["_law_found"] (F_law_whole ns)) : FJ P w K mg base (A.pm a ns) 6 A.f_law_alike A.d_law_alike ["_law_found", "_law_due"] (F_law_alike ns) := j_law_alikeR T J_law_whole 5
theorem j_law_debts_good (T : Txt w K mg A) (J_debts : FJ P w K mg base (A.pm a ns) 3 A.f_debts A.d_debts ["company"] (F_debts ns)) (J_law_alike : FJ P w K mg base (A.pm a ns) 6 A.f_law_alike A.d_law_alike ["_law_found", "_law_due"] (F_law_alike ns)) : FJ P w K mg base (A.pm a ns) 7 A.f_law_debts_good A.d_law_debts_good ["_law_company", "_law_many", "_law_wakers", "_law_held"] (F_law_debts_good ns) :=
  fj_of (k := 6) T.fu_law_debts_good sc_law_debts_good (fun _ _ _ _ _ _ us hl => match us, hl with | [_, _, _, _], _ => rfl) fun cdv Ar outer s H E hr => by
    have tk : Takes (cxOf (L2.CX P w) P w K mg base ["_law_company", "_law_many", "_law_wakers", "_law_held", "_law_due", "_law_found", "_law_k"] "_law_debts_good" (defScope s_law_debts_good) A.f_law_debts_good cdv Ar outer s H E) (fun c d _ H' => E c d H') := takes_of rfl rfl rfl rfl
    exact (js_cons (js_setLc (i := 4) sc_law_debts_good.nd (ji_rg1 T.b_range (ja_cons (je_var 1) ja_nil)) (blkOk_by (N := ["_law_company", "_law_many", "_law_wakers", "_law_held", "_law_due", "_law_found", "_law_k"]) (sc := defScope s_law_debts_good) (by decide +kernel)) (fun _ _ _ _ _ => pg_name (i := 6) sc_law_debts_good.nd rfl (Or.inl rfl)) (fun _ _ _ _ _ => jts_one (jt_cmp op_isNotA o_isNot (je_ix (je_var 2) (je_var 6)) je_non (nomark _))) (fun _ _ _ _ _ => (je_tup (ja_cons (je_var 6) (ja_cons (je_ix (je_var 2) (je_var 6)) ja_nil)))) (sw_true rfl rfl rfl (by decide +kernel)))
    (js_cons (js_asg (i := 5) (je_call J_debts (hr.mono (by decide)) rfl T.gf_debts tk (ja_cons (je_var 0) ja_nil)) sc_law_debts_good.nd)
    (js_cons (js_if (jt_not (jt_val (je_call J_law_alike (hr.mono (by decide)) rfl T.gf_law_alike tk (ja_cons (je_var 5) (ja_cons (je_var 4) ja_nil))))) (js_one (js_ret je_bl)) js_nil)
    (js_cons (js_expr (je_bm PySem.F.plainAttrs_list PySem.F.slot_list_append PySem.F.type_list_append mt_append m_append (je_var 3) (ja_cons (je_lst (ja_cons (je_var 4) (ja_cons (je_var 5) ja_nil))) ja_nil)))
    (js_cons (js_expr (je_bm PySem.F.plainAttrs_list PySem.F.slot_list_append PySem.F.type_list_append mt_append m_append (je_call J_debts (hr.mono (by decide)) rfl T.gf_debts tk (ja_cons (je_var 0) ja_nil)) (ja_cons (je_tup (ja_cons je_int (ja_cons je_int ja_nil))) ja_nil)))
    (js_one (js_ret je_bl)))))))
theorem j_woken_by (T : Txt w K mg A) (J_is_in : FJ P w K mg base (A.pm a ns) 3 A.f_is_in A.d_is_in ["company", "number"] (F_is_in ns)) (J_debts : FJ P w K mg base (A.pm a ns) 3 A.f_debts A.d_debts ["company"] (F_debts ns)) : FJ P w K mg base (A.pm a ns) 4 A.f_woken_by A.d_woken_by ["company"] (F_woken_by ns) :=
  fj_of (k := 3) T.fu_woken_by sc_woken_by (fun _ _ _ _ _ _ us hl => match us, hl with | [_], _ => rfl) fun cdv Ar outer s H E hr => by
    have tk : Takes (cxOf (L2.CX P w) P w K mg base ["company", "found", "number", "pair"] "woken_by" (defScope s_woken_by) A.f_woken_by cdv Ar outer s H E) (fun c d _ H' => E c d H') := takes_of rfl rfl rfl rfl
    exact (js_cons (js_asg (i := 1) je_dnew sc_woken_by.nd)
    (js_cons (js_for (j := 2) (passes_of rfl) sc_woken_by.nd (ji_rg1 T.b_range (ja_cons (je_cb call_lenA c_len T.b_len (ja_cons (je_fld (je_var 0) T.cl_Company T.na_crew) ja_nil)) ja_nil)) (js_one (js_if (jt_val (je_call J_is_in (hr.mono (by decide)) rfl T.gf_is_in tk (ja_cons (je_var 0) (ja_cons (je_var 2) ja_nil)))) (js_one (js_dput (u1 hr) (je_var 1) (je_var 2) (je_lc sc_woken_by.nd (ji_lst (je_call J_debts (hr.mono (by decide)) rfl T.gf_debts tk (ja_cons (je_var 0) ja_nil))) (blkOk_by (N := ["company", "found", "number", "pair"]) (sc := defScope s_woken_by) (by decide +kernel)) (fun _ _ _ _ _ => pg_name (i := 3) sc_woken_by.nd rfl (Or.inl rfl)) (fun _ _ _ _ _ => jts_one (jt_cmp (op_eqA hr.units) o_eq (je_ix (je_var 3) je_int) (je_var 2) (nomark _))) (fun _ _ _ _ _ => (je_ix (je_var 3) je_int))))) js_nil)))
    (js_one (js_ret (je_var 1)))))
theorem j_law_woken_due (T : Txt w K mg A) (J_Company_runs : FJ P w K mg base (A.pm a ns) 1 A.f_Company_runs A.d_Company_runs ["self"] (F_Company_runs ns)) : FJ P w K mg base (A.pm a ns) 2 A.f_law_woken_due A.d_law_woken_due ["_law_company", "_law_many", "_law_wakers"] (F_law_woken_due ns) :=
  fj_of (k := 1) T.fu_law_woken_due sc_law_woken_due (fun _ _ _ _ _ _ us hl => match us, hl with | [_, _, _], _ => rfl) fun cdv Ar outer s H E hr => by
    have tk : Takes (cxOf (L2.CX P w) P w K mg base ["_law_company", "_law_many", "_law_wakers", "_law_pairs", "_law_k", "_law_j"] "_law_woken_due" (defScope s_law_woken_due) A.f_law_woken_due cdv Ar outer s H E) (fun c d _ H' => E c d H') := takes_of rfl rfl rfl rfl
    exact (js_cons (js_asg (i := 3) (je_lst ja_nil) sc_law_woken_due.nd)
    (js_cons (js_for (j := 4) (passes_of rfl) sc_law_woken_due.nd (ji_rg1 T.b_range (ja_cons (je_var 1) ja_nil)) (js_one (js_if (jt_w (jw_or (jt_cmp op_isNotA o_isNot (je_ix (je_var 2) (je_var 4)) je_non (nomark _)) (jw_or1 (jt_w (jw_and (jt_cmp (op_eqA hr.units) o_eq (je_var 4) je_int (nomark _)) (jw_and1 (jt_val (je_meth0 (je_var 0) T.cl_Company T.me_Company_runs J_Company_runs (hr.mono (by decide)) tk)))))))) (js_one (js_expr (je_bm PySem.F.plainAttrs_list PySem.F.slot_list_append PySem.F.type_list_append mt_append m_append (je_var 3) (ja_cons (je_tup (ja_cons (je_var 4) (ja_cons (je_lc sc_law_woken_due.nd (ji_rg1 T.b_range (ja_cons (je_var 1) ja_nil)) (blkOk_by (N := ["_law_company", "_law_many", "_law_wakers", "_law_pairs", "_law_k", "_law_j"]) (sc := defScope s_law_woken_due) (by decide +kernel)) (fun _ _ _ _ _ => pg_name (i := 5) sc_law_woken_due.nd rfl (Or.inl rfl)) (fun _ _ _ _ _ => jts_one (jt_cmp (op_eqA hr.units) o_eq (je_ix (je_var 2) (je_var 5)) (je_var 4) (nomark _))) (fun _ _ _ _ _ => (je_var 5))) ja_nil))) ja_nil)))) js_nil)))
    (js_one (js_ret (je_var 3)))))
theorem j_law_woken_good (T : Txt w K mg A) (J_woken_by : FJ P w K mg base (A.pm a ns) 4 A.f_woken_by A.d_woken_by ["company"] (F_woken_by ns)) (J_law_alike : FJ P w K mg base (A.pm a ns) 6 A.f_law_alike A.d_law_alike ["_law_found", "_law_due"] (F_law_alike ns)) (J_law_woken_due : FJ P w K mg base (A.pm a ns) 2 A.f_law_woken_due A.d_law_woken_due ["_law_company", "_law_many", "_law_wakers"] (F_law_woken_due ns)) : FJ P w K mg base (A.pm a ns) 7 A.f_law_woken_good A.d_law_woken_good ["_law_company", "_law_many", "_law_wakers", "_law_held"] (F_law_woken_good ns) :=
  fj_of (k := 6) T.fu_law_woken_good sc_law_woken_good (fun _ _ _ _ _ _ us hl => match us, hl with | [_, _, _, _], _ => rfl) fun cdv Ar outer s H E hr => by
    have tk : Takes (cxOf (L2.CX P w) P w K mg base ["_law_company", "_law_many", "_law_wakers", "_law_held", "_law_found", "_law_again", "_law_k"] "_law_woken_good" (defScope s_law_woken_good) A.f_law_woken_good cdv Ar outer s H E) (fun c d _ H' => E c d H') := takes_of rfl rfl rfl rfl
    exact (js_cons (js_asg (i := 4) (je_call J_woken_by (hr.mono (by decide)) rfl T.gf_woken_by tk (ja_cons (je_var 0) ja_nil)) sc_law_woken_good.nd)
    (js_cons (js_if (jt_w (jw_or (jt_not (jt_val (je_isi (je_var 4) T.b_isinstance T.b_dict))) (jw_or1 (jt_not (jt_val (je_call J_law_alike (hr.mono (by decide)) rfl T.gf_law_alike tk (ja_cons (je_items T.b_list (je_var 4)) (ja_cons (je_call J_law_woken_due (hr.mono (by decide)) rfl T.gf_law_woken_due tk (ja_cons (je_var 0) (ja_cons (je_var 1) (ja_cons (je_var 2) ja_nil)))) ja_nil)))))))) (js_one (js_ret je_bl)) js_nil)
    (js_cons (js_expr (je_bm PySem.F.plainAttrs_list PySem.F.slot_list_append PySem.F.type_list_append mt_append m_append (je_var 3) (ja_cons (je_lst (ja_cons (je_lock 4 (je_lc sc_law_woken_good.nd (ji_keys (je_var 4)) (blkOk_by (N := ["_law_company", "_law_many", "_law_wakers", "_law_held", "_law_found", "_law_again", "_law_k"]) (sc := defScope s_law_woken_good) (by decide +kernel)) (fun _ _ _ _ _ => pg_name (i := 6) sc_law_woken_good.nd rfl (Or.inl rfl)) (fun _ _ _ _ _ => jts_nil) (fun _ _ _ _ _ => (je_tup (ja_cons (je_var 6) (ja_cons (je_cty call_listA c_list T.b_list (ja_cons (je_dgetR (u1 hr) (je_var 4) (je_var 6)) ja_nil)) ja_nil)))))) (ja_cons (je_var 4) ja_nil))) ja_nil)))
    (js_cons (js_asg (i := 5) (je_call J_woken_by (hr.mono (by decide)) rfl T.gf_woken_by tk (ja_cons (je_var 0) ja_nil)) sc_law_woken_good.nd)
    (js_cons (js_lock 5 (js_for (j := 6) (passes_of rfl) sc_law_woken_good.nd (ji_keys (je_var 5)) (js_one (js_expr (je_bm PySem.F.plainAttrs_list PySem.F.slot_list_append PySem.F.type_list_append mt_append m_append (je_dgetR (u1 hr) (je_var 5) (je_var 6)) (ja_cons (je_var 6) ja_nil))))))
    (js_one (js_ret je_bl)))))))
theorem j_law_way_good (T : Txt w K mg A) (J_way : FJ P w K mg base (A.pm a ns) 4 A.f_way A.d_way ["company", "number"] (F_way ns)) (J_law_alike : FJ P w K mg base (A.pm a ns) 6 A.f_law_alike A.d_law_alike ["_law_found", "_law_due"] (F_law_alike ns)) (J_law_whole : FJ P w K mg base (A.pm a ns) 1 A.f_law_whole A.d_law_whole ["_law_found"] (F_law_whole ns)) (J_Company_runs : FJ P w K mg base (A.pm a ns) 1 A.f_Company_runs A.d_Company_runs ["self"] (F_Company_runs ns)) : FJ P w K mg base (A.pm a ns) 7 A.f_law_way_good A.d_law_way_good ["_law_company", "_law_many", "_law_wakers", "_law_number"] (F_law_way_good ns) :=
  fj_of (k := 6) T.fu_law_way_good sc_law_way_good (fun _ _ _ _ _ _ us hl => match us, hl with | [_, _, _, _], _ => rfl) fun cdv Ar outer s H E hr => by
    have tk : Takes (cxOf (L2.CX P w) P w K mg base ["_law_company", "_law_many", "_law_wakers", "_law_number", "_law_found", "_law_k"] "_law_way_good" (defScope s_law_way_good) A.f_law_way_good cdv Ar outer s H E) (fun c d _ H' => E c d H') := takes_of rfl rfl rfl rfl
    exact (js_cons (js_asg (i := 4) (je_call J_way (hr.mono (by decide)) rfl T.gf_way tk (ja_cons (je_var 0) (ja_cons (je_var 3) ja_nil))) sc_law_way_good.nd)
    (js_cons (js_if (jt_w (jw_and (jt_cmp op_isA o_is (je_ix (je_var 2) (je_var 3)) je_non (nomark _)) (jw_and1 (jt_w (jw_or (jt_cmp op_gt o_gt (je_var 3) je_int (nomark _)) (jw_or1 (jt_not (jt_val (je_meth0 (je_var 0) T.cl_Company T.me_Company_runs J_Company_runs (hr.mono (by decide)) tk))))))))) (js_one (js_ret (je_call J_law_alike (hr.mono (by decide)) rfl T.gf_law_alike tk (ja_cons (je_var 4) (ja_cons (je_lst ja_nil) ja_nil))))) js_nil)
    (js_cons (js_if (jt_w (jw_or (jt_not (jt_val (je_isi (je_var 4) T.b_isinstance T.b_list))) (jw_or (jt_cmp op_lt o_lt (je_cb call_lenA c_len T.b_len (ja_cons (je_var 4) ja_nil)) je_int (nomark _)) (jw_or (jt_cmp op_gt o_gt (je_cb call_lenA c_len T.b_len (ja_cons (je_var 4) ja_nil)) (je_var 1) (nomark _)) (jw_or1 (jt_cmp (op_neA hr.units) o_ne (je_lenSet T.b_len T.b_set (je_var 4)) (je_cb call_lenA c_len T.b_len (ja_cons (je_var 4) ja_nil)) (nomark _))))))) (js_one (js_ret je_bl)) js_nil)
    (js_cons (js_if (jt_w (jw_or (jt_not (jt_val (je_call J_law_whole (hr.mono (by decide)) rfl T.gf_law_whole tk (ja_cons (je_ix (je_var 4) je_int) ja_nil)))) (jw_or (jt_cmp (op_neA hr.units) o_ne (je_ix (je_var 4) je_int) (je_var 3) (nomark _)) (jw_or1 (jt_cmp (op_neA hr.units) o_ne (je_ix (je_var 4) (je_neg je_int)) je_int (nomark _)))))) (js_one (js_ret je_bl)) js_nil)
    (js_cons (js_for (j := 5) (passes_of rfl) sc_law_way_good.nd (ji_rg2 T.b_range (ja_cons je_int (ja_cons (je_cb call_lenA c_len T.b_len (ja_cons (je_var 4) ja_nil)) ja_nil))) (js_one (js_if (jt_w (jw_or (jt_not (jt_val (je_call J_law_whole (hr.mono (by decide)) rfl T.gf_law_whole tk (ja_cons (je_ix (je_var 4) (je_var 5)) ja_nil)))) (jw_or1 (jt_cmp (op_neA hr.units) o_ne (je_ix (je_var 2) (je_ix (je_var 4) (je_op op_sub o_sub (je_var 5) je_int))) (je_ix (je_var 4) (je_var 5)) (nomark _))))) (js_one (js_ret je_bl)) js_nil)))
    (js_one (js_ret (je_cmp op_isA o_is (je_ix (je_var 2) je_int) je_non (nomark _)))))))))
theorem j_law_good (T : Txt w K mg A) (J_way : FJ P w K mg base (A.pm a ns) 4 A.f_way A.d_way ["company", "number"] (F_way ns)) (J_law_debts_good : FJ P w K mg base (A.pm a ns) 7 A.f_law_debts_good A.d_law_debts_good ["_law_company", "_law_many", "_law_wakers", "_law_held"] (F_law_debts_good ns)) (J_Company_hand : FJ P w K mg base (A.pm a ns) 2 A.f_Company_hand A.d_Company_hand ["self", "number"] (F_Company_hand ns)) (J_law_woken_good : FJ P w K mg base (A.pm a ns) 7 A.f_law_woken_good A.d_law_woken_good ["_law_company", "_law_many", "_law_wakers", "_law_held"] (F_law_woken_good ns)) (J_law_way_good : FJ P w K mg base (A.pm a ns) 7 A.f_law_way_good A.d_law_way_good ["_law_company", "_law_many", "_law_wakers", "_law_number"] (F_law_way_good ns)) (J_Company_runs : FJ P w K mg base (A.pm a ns) 1 A.f_Company_runs A.d_Company_runs ["self"] (F_Company_runs ns)) : FJ P w K mg base (A.pm a ns) 8 A.f_law_good A.d_law_good ["_law_company", "_law_many", "_law_number", "_law_held", "_law_pairs"] (F_law_good ns) :=
  fj_of (k := 7) T.fu_law_good sc_law_good (fun _ _ _ _ _ _ us hl => match us, hl with | [_, _, _, _, _], _ => rfl) fun cdv Ar outer s H E hr => by
    have tk : Takes (cxOf (L2.CX P w) P w K mg base ["_law_company", "_law_many", "_law_number", "_law_held", "_law_pairs", "_law_first", "_law_wakers", "_law_k", "_law_told"] "_law_good" (defScope s_law_good) A.f_law_good cdv Ar outer s H E) (fun c d _ H' => E c d H') := takes_of rfl rfl rfl rfl
    exact (js_cons (js_asg (i := 5) (je_lst ja_nil) sc_law_good.nd)
    (js_cons (js_if (jt_cmp (op_eqA hr.units) o_eq (je_op op_mod o_mod (je_op op_fdiv o_fdiv (je_var 2) je_int) je_int) je_int (nomark _)) (js_cons (js_asg (i := 5) (je_call J_way (hr.mono (by decide)) rfl T.gf_way tk (ja_cons (je_var 0) (ja_cons (je_op op_mod o_mod (je_op op_fdiv o_fdiv (je_var 2) je_int) (je_var 1)) ja_nil))) sc_law_good.nd)
    (js_one (js_asg (i := 5) (je_lst (ja_cons (je_var 5) (ja_cons (je_cty call_listA c_list T.b_list (ja_cons (je_var 5) ja_nil)) (ja_cons (je_op op_mod o_mod (je_op op_fdiv o_fdiv (je_var 2) je_int) (je_var 1)) ja_nil)))) sc_law_good.nd))) js_nil)
    (js_cons (js_setLc (i := 6) sc_law_good.nd (ji_rg1 T.b_range (ja_cons (je_var 1) ja_nil)) (blkOk_by (N := ["_law_company", "_law_many", "_law_number", "_law_held", "_law_pairs", "_law_first", "_law_wakers", "_law_k", "_law_told"]) (sc := defScope s_law_good) (by decide +kernel)) (fun _ _ _ _ _ => pg_name (i := 7) sc_law_good.nd rfl (Or.inl rfl)) (fun _ _ _ _ _ => jts_nil) (fun _ _ _ _ _ => (je_ix (je_meth (je_var 0) T.cl_Company T.me_Company_hand J_Company_hand (hr.mono (by decide)) takes0 (ja_cons (je_var 7) ja_nil)) je_int)) (sw_true rfl rfl rfl (by decide +kernel)))
    (js_cons (js_if (jt_w (jw_and (jt_cmp (op_neA hr.units) o_ne (je_var 5) (je_lst ja_nil) (nomark _)) (jw_and1 (jt_w (jw_or (jt_cmp (op_neA hr.units) o_ne (je_ix (je_var 5) je_int) (je_call J_way (hr.mono (by decide)) rfl T.gf_way tk (ja_cons (je_var 0) (ja_cons (je_ix (je_var 5) je_int) ja_nil))) (nomark _)) (jw_or1 (jt_cmp (op_neA hr.units) o_ne (je_ix (je_var 5) je_int) (je_ix (je_var 5) je_int) (nomark _)))))))) (js_one (js_ret je_bl)) js_nil)
    (js_cons (js_if (jt_w (jw_and (jt_cmp (op_eqA hr.units) o_eq (je_op op_mod o_mod (je_var 2) je_int) je_int (nomark _)) (jw_and1 (jt_not (jt_val (je_call J_law_woken_good (hr.mono (by decide)) rfl T.gf_law_woken_good tk (ja_cons (je_var 0) (ja_cons (je_var 1) (ja_cons (je_var 6) (ja_cons (je_var 4) ja_nil)))))))))) (js_one (js_ret je_bl)) js_nil)
    (js_cons (js_if (jt_not (jt_val (je_call J_law_debts_good (hr.mono (by decide)) rfl T.gf_law_debts_good tk (ja_cons (je_var 0) (ja_cons (je_var 1) (ja_cons (je_var 6) (ja_cons (je_var 3) ja_nil))))))) (js_one (js_ret je_bl)) js_nil)
    (js_cons (js_for (j := 7) (passes_of rfl) sc_law_good.nd (ji_rg1 T.b_range (ja_cons (je_var 1) ja_nil)) (js_cons (js_asg (i := 8) (je_meth (je_var 0) T.cl_Company T.me_Company_hand J_Company_hand (hr.mono (by decide)) tk (ja_cons (je_var 7) ja_nil)) sc_law_good.nd)
    (js_cons (js_if (jt_w (jw_and (jt_cmp op_isA o_is (je_ix (je_var 6) (je_var 7)) je_non (nomark _)) (jw_and (jt_cmp (op_neA hr.units) o_ne (je_var 8) (je_tup (ja_cons je_int (ja_cons je_int (ja_cons je_non (ja_cons je_int ja_nil))))) (nomark _)) (jw_and1 (jt_w (jw_or (jt_cmp op_gt o_gt (je_var 7) je_int (nomark _)) (jw_or1 (jt_not (jt_val (je_meth0 (je_var 0) T.cl_Company T.me_Company_runs J_Company_runs (hr.mono (by decide)) tk)))))))))) (js_one (js_ret je_bl)) js_nil)
    (js_one (js_if (jt_w (jw_and (jt_w (jw_or (jt_cmp op_lt o_lt (je_var 1) je_int (nomark _)) (jw_or1 (jt_cmp (op_eqA hr.units) o_eq (je_op op_mod o_mod (je_var 7) je_int) (je_op op_mod o_mod (je_var 2) je_int) (nomark _))))) (jw_and1 (jt_not (jt_val (je_call J_law_way_good (hr.mono (by decide)) rfl T.gf_law_way_good tk (ja_cons (je_var 0) (ja_cons (je_var 1) (ja_cons (je_var 6) (ja_cons (je_var 7) ja_nil)))))))))) (js_one (js_ret je_bl)) js_nil)))))
    (js_one (js_ret (je_or (je_cmp (op_eqA hr.units) o_eq (je_op op_mod o_mod (je_var 2) je_int) je_int (nomark _)) (je_one (je_call J_law_woken_good (hr.mono (by decide)) rfl T.gf_law_woken_good tk (ja_cons (je_var 0) (ja_cons (je_var 1) (ja_cons (je_var 6) (ja_cons (je_var 4) ja_nil))))))))))))))))
theorem j_law_pieces_by (T : Txt w K mg A)  : FJ P w K mg base (A.pm a ns) 1 A.f_law_pieces_by A.d_law_pieces_by ["_law_cell"] (F_law_pieces_by ns) :=
  fj_of (k := 0) T.fu_law_pieces_by sc_law_pieces_by (fun _ _ _ _ _ _ us hl => match us, hl with | [_], _ => rfl) fun cdv Ar outer s H E hr => by
    have tk : Takes (cxOf (L2.CX P w) P w K mg base ["_law_cell"] "_law_pieces_by" (defScope s_law_pieces_by) A.f_law_pieces_by cdv Ar outer s H E) (fun c d _ H' => E c d H') := takes_of rfl rfl rfl rfl
    exact (js_cons (js_if (jt_cmp (op_eqA hr.units) o_eq (je_op op_mod o_mod (je_var 0) je_int) je_int (nomark _)) (js_one (js_ret (je_op op_addA o_add je_int (je_op op_mod o_mod (je_op op_fdiv o_fdiv (je_var 0) je_int) je_int)))) js_nil)
    (js_cons (js_if (jt_cmp (op_eqA hr.units) o_eq (je_op op_mod o_mod (je_var 0) je_int) je_int (nomark _)) (js_one (js_ret (je_op op_addA o_add je_int (je_op op_mod o_mod (je_op op_fdiv o_fdiv (je_var 0) je_int) je_int)))) js_nil)
    (js_one (js_ret (je_op op_addA o_add je_int (je_op op_mod o_mod (je_op op_fdiv o_fdiv (je_var 0) je_int) je_int))))))
theorem j_Post_take (T : Txt w K mg A)  : FJ P w K mg base (A.pm a ns) 1 A.f_Post_take A.d_Post_take ["self", "place"] (F_Post_take ns) :=
  fj_of (k := 0) T.fu_Post_take sc_Post_take (fun _ _ _ _ _ _ us hl => match us, hl with | [_, _], _ => rfl) fun cdv Ar outer s H E hr => by
    have tk : Takes (cxOf (L2.CX P w) P w K mg base ["self", "place"] "Post.take" (defScope s_Post_take) A.f_Post_take cdv Ar outer s H E) (fun c d _ H' => E c d H') := takes_of rfl rfl rfl rfl
    exact (js_cons (js_if (jt_w (jw_or (jt_cmp op_lt o_lt (je_var 1) je_int (nomark _)) (jw_or1 (jt_cmp op_ge o_ge (je_var 1) (je_cb call_lenA c_len T.b_len (ja_cons (je_fld (je_var 0) T.cl_Post T.na_rows) ja_nil)) (nomark _))))) (js_one (js_raise T.xc_NoPlace tk)) js_nil)
    (js_one (js_ret (je_bm PySem.F.plainAttrs_list PySem.F.slot_list_pop PySem.F.type_list_pop mt_popAt m_popAt (je_fld (je_var 0) T.cl_Post T.na_rows) (ja_cons (je_var 1) ja_nil)))))
theorem j_Hand_leave (T : Txt w K mg A)  : FJ P w K mg base (A.pm a ns) 1 A.f_Hand_leave A.d_Hand_leave ["self"] (F_Hand_leave ns) :=
  fj_of (k := 0) T.fu_Hand_leave sc_Hand_leave (fun _ _ _ _ _ _ us hl => match us, hl with | [_], _ => rfl) fun cdv Ar outer s H E hr => by
    have tk : Takes (cxOf (L2.CX P w) P w K mg base ["self", "pair"] "Hand.leave" (defScope s_Hand_leave) A.f_Hand_leave cdv Ar outer s H E) (fun c d _ H' => E c d H') := takes_of rfl rfl rfl rfl
    exact (js_cons (js_asg (i := 1) (je_tup (ja_cons (je_fld (je_var 0) T.cl_Hand T.na_tally) (ja_cons (je_fld (je_var 0) T.cl_Hand T.na_waker) ja_nil))) sc_Hand_leave.nd)
    (js_cons (js_fld (je_var 0) je_int T.cl_Hand T.na_tally)
    (js_cons (js_fld (je_var 0) je_non T.cl_Hand T.na_waker)
    (js_one (js_ret (je_var 1))))))
theorem j_Hand_is_free (T : Txt w K mg A)  : FJ P w K mg base (A.pm a ns) 1 A.f_Hand_is_free A.d_Hand_is_free ["self"] (F_Hand_is_free ns) :=
  fj_of (k := 0) T.fu_Hand_is_free sc_Hand_is_free (fun _ _ _ _ _ _ us hl => match us, hl with | [_], _ => rfl) fun cdv Ar outer s H E hr => by
    have tk : Takes (cxOf (L2.CX P w) P w K mg base ["self"] "Hand.is_free" (defScope s_Hand_is_free) A.f_Hand_is_free cdv Ar outer s H E) (fun c d _ H' => E c d H') := takes_of rfl rfl rfl rfl
    exact (js_one (js_ret (je_and (je_cmp (op_eqA hr.units) o_eq (je_fld (je_var 0) T.cl_Hand T.na_pieces) je_int (nomark _)) (je_one (je_cmp (op_eqA hr.units) o_eq (je_fld (je_var 0) T.cl_Hand T.na_unanswered) je_int (nomark _))))))
theorem j_Post_put (T : Txt w K mg A)  : FJ P w K mg base (A.pm a ns) 1 A.f_Post_put A.d_Post_put ["self", "row"] (F_Post_put ns) :=
  fj_of (k := 0) T.fu_Post_put sc_Post_put (fun _ _ _ _ _ _ us hl => match us, hl with | [_, _], _ => rfl) fun cdv Ar outer s H E hr => by
    have tk : Takes (cxOf (L2.CX P w) P w K mg base ["self", "row"] "Post.put" (defScope s_Post_put) A.f_Post_put cdv Ar outer s H E) (fun c d _ H' => E c d H') := takes_of rfl rfl rfl rfl
    exact (js_one (js_expr (je_bm PySem.F.plainAttrs_list PySem.F.slot_list_append PySem.F.type_list_append mt_append m_append (je_fld (je_var 0) T.cl_Post T.na_rows) (ja_cons (je_var 1) ja_nil))))
theorem j_Company_sent (T : Txt w K mg A) (J_Post_put : FJ P w K mg base (A.pm a ns) 1 A.f_Post_put A.d_Post_put ["self", "row"] (F_Post_put ns)) : FJ P w K mg base (A.pm a ns) 2 A.f_Company_sent A.d_Company_sent ["self", "row"] (F_Company_sent ns) :=
  fj_of (k := 1) T.fu_Company_sent sc_Company_sent (fun _ _ _ _ _ _ us hl => match us, hl with | [_, _], _ => rfl) fun cdv Ar outer s H E hr => by
    have tk : Takes (cxOf (L2.CX P w) P w K mg base ["self", "row"] "Company.sent" (defScope s_Company_sent) A.f_Company_sent cdv Ar outer s H E) (fun c d _ H' => E c d H') := takes_of rfl rfl rfl rfl
    exact (js_cons (js_expr (je_meth (je_fld (je_var 0) T.cl_Company T.na_post) T.cl_Post T.me_Post_put J_Post_put (hr.mono (by decide)) tk (ja_cons (je_var 1) ja_nil)))
    (js_one (js_ret (je_var 1))))
theorem j_Company_freed (T : Txt w K mg A) (J_Hand_leave : FJ P w K mg base (A.pm a ns) 1 A.f_Hand_leave A.d_Hand_leave ["self"] (F_Hand_leave ns)) (J_Hand_is_free : FJ P w K mg base (A.pm a ns) 1 A.f_Hand_is_free A.d_Hand_is_free ["self"] (F_Hand_is_free ns)) (J_Company_sent : FJ P w K mg base (A.pm a ns) 2 A.f_Company_sent A.d_Company_sent ["self", "row"] (F_Company_sent ns)) : FJ P w K mg base (A.pm a ns) 3 A.f_Company_freed A.d_Company_freed ["self", "hand"] (F_Company_freed ns) :=
  fj_of (k := 2) T.fu_Company_freed sc_Company_freed (fun _ _ _ _ _ _ us hl => match us, hl with | [_, _], _ => rfl) fun cdv Ar outer s H E hr => by
    have tk : Takes (cxOf (L2.CX P w) P w K mg base ["self", "hand", "one", "tally", "waker"] "Company.freed" (defScope s_Company_freed) A.f_Company_freed cdv Ar outer s H E) (fun c d _ H' => E c d H') := takes_of rfl rfl rfl rfl
    exact (js_cons (js_asg (i := 2) (je_ix (je_fld (je_var 0) T.cl_Company T.na_crew) (je_var 1)) sc_Company_freed.nd)
    (js_cons (js_if (jt_not (jt_val (je_meth0 (je_var 2) T.cl_Hand T.me_Hand_is_free J_Hand_is_free (hr.mono (by decide)) tk))) (js_one (js_ret (je_lst ja_nil))) js_nil)
    (js_cons (js_asg2 (i := 3) (j := 4) (je_meth0 (je_var 2) T.cl_Hand T.me_Hand_leave J_Hand_leave (hr.mono (by decide)) tk) sc_Company_freed.nd)
    (js_cons (js_if (jt_cmp (op_eqA hr.units) o_eq (je_var 1) je_int (nomark _)) (js_cons (js_fld (je_var 0) je_bl T.cl_Company T.na_running)
    (js_one (js_ret (je_lst (ja_cons (je_tup (ja_cons je_str (ja_cons (je_var 3) ja_nil))) ja_nil))))) js_nil)
    (js_one (js_ret (je_lst (ja_cons (je_meth (je_var 0) T.cl_Company T.me_Company_sent J_Company_sent (hr.mono (by decide)) tk (ja_cons (je_tup (ja_cons je_str (ja_cons (je_var 1) (ja_cons (je_var 4) (ja_cons (je_var 3) ja_nil))))) ja_nil)) ja_nil))))))))
theorem j_Company_woken (T : Txt w K mg A) (J_Company_sent : FJ P w K mg base (A.pm a ns) 2 A.f_Company_sent A.d_Company_sent ["self", "row"] (F_Company_sent ns)) : FJ P w K mg base (A.pm a ns) 3 A.f_Company_woken A.d_Company_woken ["self", "hand", "other", "pieces"] (F_Company_woken ns) :=
  fj_of (k := 2) T.fu_Company_woken sc_Company_woken (fun _ _ _ _ _ _ us hl => match us, hl with | [_, _, _, _], _ => rfl) fun cdv Ar outer s H E hr => by
    have tk : Takes (cxOf (L2.CX P w) P w K mg base ["self", "hand", "other", "pieces", "one"] "Company.woken" (defScope s_Company_woken) A.f_Company_woken cdv Ar outer s H E) (fun c d _ H' => E c d H') := takes_of rfl rfl rfl rfl
    exact (js_cons (js_asg (i := 4) (je_ix (je_fld (je_var 0) T.cl_Company T.na_crew) (je_var 2)) sc_Company_woken.nd)
    (js_cons (js_fld (je_var 4) (je_op op_addA o_add (je_fld (je_var 4) T.cl_Hand T.na_pieces) (je_var 3)) T.cl_Hand T.na_pieces)
    (js_cons (js_if (jt_w (jw_or (jt_cmp (op_eqA hr.units) o_eq (je_var 2) je_int (nomark _)) (jw_or1 (jt_cmp op_isNotA o_isNot (je_fld (je_var 4) T.cl_Hand T.na_waker) je_non (nomark _))))) (js_one (js_ret (je_meth (je_var 0) T.cl_Company T.me_Company_sent J_Company_sent (hr.mono (by decide)) tk (ja_cons (je_tup (ja_cons je_str (ja_cons (je_var 2) (ja_cons (je_var 1) (ja_cons je_int ja_nil))))) ja_nil)))) js_nil)
    (js_cons (js_fld (je_var 4) (je_var 1) T.cl_Hand T.na_waker)
    (js_one (js_ret (je_tup (ja_cons je_str (ja_cons (je_var 2) (ja_cons (je_var 1) ja_nil))))))))))
theorem j_Company_carry (T : Txt w K mg A) (J_Post_take : FJ P w K mg base (A.pm a ns) 1 A.f_Post_take A.d_Post_take ["self", "place"] (F_Post_take ns)) (J_Company_tell : FJ P w K mg base (A.pm a ns) 1 A.f_Company_tell A.d_Company_tell ["self", "rows"] (F_Company_tell ns)) (J_Company_freed : FJ P w K mg base (A.pm a ns) 3 A.f_Company_freed A.d_Company_freed ["self", "hand"] (F_Company_freed ns)) (J_Company_woken : FJ P w K mg base (A.pm a ns) 3 A.f_Company_woken A.d_Company_woken ["self", "hand", "other", "pieces"] (F_Company_woken ns)) : FJ P w K mg base (A.pm a ns) 4 A.f_Company_carry A.d_Company_carry ["self", "place"] (F_Company_carry ns) :=
  fj_of (k := 3) T.fu_Company_carry sc_Company_carry (fun _ _ _ _ _ _ us hl => match us, hl with | [_, _], _ => rfl) fun cdv Ar outer s H E hr => by
    have tk : Takes (cxOf (L2.CX P w) P w K mg base ["self", "place", "row", "one"] "Company.carry" (defScope s_Company_carry) A.f_Company_carry cdv Ar outer s H E) (fun c d _ H' => E c d H') := takes_of rfl rfl rfl rfl
    exact (js_cons (js_asg (i := 2) (je_meth (je_fld (je_var 0) T.cl_Company T.na_post) T.cl_Post T.me_Post_take J_Post_take (hr.mono (by decide)) tk (ja_cons (je_var 1) ja_nil)) sc_Company_carry.nd)
    (js_cons (js_if (jt_cmp (op_eqA hr.units) o_eq (je_ix (je_var 2) je_int) je_str (nomark _)) (js_one (js_ret (je_meth (je_var 0) T.cl_Company T.me_Company_tell J_Company_tell (hr.mono (by decide)) tk (ja_cons (je_lst (ja_cons (je_meth (je_var 0) T.cl_Company T.me_Company_woken J_Company_woken (hr.mono (by decide)) tk (ja_cons (je_ix (je_var 2) je_int) (ja_cons (je_ix (je_var 2) je_int) (ja_cons (je_ix (je_var 2) je_int) ja_nil)))) ja_nil)) ja_nil)))) js_nil)
    (js_cons (js_asg (i := 3) (je_ix (je_fld (je_var 0) T.cl_Company T.na_crew) (je_ix (je_var 2) je_int)) sc_Company_carry.nd)
    (js_cons (js_fld (je_var 3) (je_op op_sub o_sub (je_fld (je_var 3) T.cl_Hand T.na_unanswered) je_int) T.cl_Hand T.na_unanswered)
    (js_cons (js_fld (je_var 3) (je_op op_addA o_add (je_fld (je_var 3) T.cl_Hand T.na_tally) (je_ix (je_var 2) je_int)) T.cl_Hand T.na_tally)
    (js_one (js_ret (je_meth (je_var 0) T.cl_Company T.me_Company_tell J_Company_tell (hr.mono (by decide)) tk (ja_cons (je_meth (je_var 0) T.cl_Company T.me_Company_freed J_Company_freed (hr.mono (by decide)) tk (ja_cons (je_ix (je_var 2) je_int) ja_nil)) ja_nil)))))))))
theorem j_Company_hand_on (T : Txt w K mg A) (J_Company_one : FJ P w K mg base (A.pm a ns) 1 A.f_Company_one A.d_Company_one ["self", "number"] (F_Company_one ns)) (J_Company_tell : FJ P w K mg base (A.pm a ns) 1 A.f_Company_tell A.d_Company_tell ["self", "rows"] (F_Company_tell ns)) (J_Company_sent : FJ P w K mg base (A.pm a ns) 2 A.f_Company_sent A.d_Company_sent ["self", "row"] (F_Company_sent ns)) : FJ P w K mg base (A.pm a ns) 3 A.f_Company_hand_on A.d_Company_hand_on ["self", "hand", "other", "pieces"] (F_Company_hand_on ns) :=
  fj_of (k := 2) T.fu_Company_hand_on sc_Company_hand_on (fun _ _ _ _ _ _ us hl => match us, hl with | [_, _, _, _], _ => rfl) fun cdv Ar outer s H E hr => by
    have tk : Takes (cxOf (L2.CX P w) P w K mg base ["self", "hand", "other", "pieces", "one"] "Company.hand_on" (defScope s_Company_hand_on) A.f_Company_hand_on cdv Ar outer s H E) (fun c d _ H' => E c d H') := takes_of rfl rfl rfl rfl
    exact (js_cons (js_asg (i := 4) (je_meth (je_var 0) T.cl_Company T.me_Company_one J_Company_one (hr.mono (by decide)) tk (ja_cons (je_var 1) ja_nil)) sc_Company_hand_on.nd)
    (js_cons (js_expr (je_meth (je_var 0) T.cl_Company T.me_Company_one J_Company_one (hr.mono (by decide)) tk (ja_cons (je_var 2) ja_nil)))
    (js_cons (js_if (jt_w (jw_or (jt_cmp op_lt o_lt (je_var 3) je_int (nomark _)) (jw_or1 (jt_cmp op_gt o_gt (je_var 3) (je_fld (je_var 4) T.cl_Hand T.na_pieces) (nomark _))))) (js_one (js_raise T.xc_NoWork tk)) js_nil)
    (js_cons (js_fld (je_var 4) (je_op op_sub o_sub (je_fld (je_var 4) T.cl_Hand T.na_pieces) (je_var 3)) T.cl_Hand T.na_pieces)
    (js_cons (js_fld (je_var 4) (je_op op_addA o_add (je_fld (je_var 4) T.cl_Hand T.na_unanswered) je_int) T.cl_Hand T.na_unanswered)
    (js_one (js_ret (je_meth (je_var 0) T.cl_Company T.me_Company_tell J_Company_tell (hr.mono (by decide)) tk (ja_cons (je_lst (ja_cons (je_meth (je_var 0) T.cl_Company T.me_Company_sent J_Company_sent (hr.mono (by decide)) tk (ja_cons (je_tup (ja_cons je_str (ja_cons (je_var 1) (ja_cons (je_var 2) (ja_cons (je_var 3) ja_nil))))) ja_nil)) ja_nil)) ja_nil)))))))))
theorem j_Company_do (T : Txt w K mg A) (J_Company_one : FJ P w K mg base (A.pm a ns) 1 A.f_Company_one A.d_Company_one ["self", "number"] (F_Company_one ns)) (J_Company_tell : FJ P w K mg base (A.pm a ns) 1 A.f_Company_tell A.d_Company_tell ["self", "rows"] (F_Company_tell ns)) (J_Company_freed : FJ P w K mg base (A.pm a ns) 3 A.f_Company_freed A.d_Company_freed ["self", "hand"] (F_Company_freed ns)) : FJ P w K mg base (A.pm a ns) 4 A.f_Company_do A.d_Company_do ["self", "hand"] (F_Company_do ns) :=
  fj_of (k := 3) T.fu_Company_do sc_Company_do (fun _ _ _ _ _ _ us hl => match us, hl with | [_, _], _ => rfl) fun cdv Ar outer s H E hr => by
    have tk : Takes (cxOf (L2.CX P w) P w K mg base ["self", "hand", "one"] "Company.do" (defScope s_Company_do) A.f_Company_do cdv Ar outer s H E) (fun c d _ H' => E c d H') := takes_of rfl rfl rfl rfl
    exact (js_cons (js_asg (i := 2) (je_meth (je_var 0) T.cl_Company T.me_Company_one J_Company_one (hr.mono (by decide)) tk (ja_cons (je_var 1) ja_nil)) sc_Company_do.nd)
    (js_cons (js_if (jt_cmp op_lt o_lt (je_fld (je_var 2) T.cl_Hand T.na_pieces) je_int (nomark _)) (js_one (js_raise T.xc_NoWork tk)) js_nil)
    (js_cons (js_fld (je_var 2) (je_op op_sub o_sub (je_fld (je_var 2) T.cl_Hand T.na_pieces) je_int) T.cl_Hand T.na_pieces)
    (js_cons (js_fld (je_var 2) (je_op op_addA o_add (je_fld (je_var 2) T.cl_Hand T.na_tally) je_int) T.cl_Hand T.na_tally)
    (js_one (js_ret (je_meth (je_var 0) T.cl_Company T.me_Company_tell J_Company_tell (hr.mono (by decide)) tk (ja_cons (je_meth (je_var 0) T.cl_Company T.me_Company_freed J_Company_freed (hr.mono (by decide)) tk (ja_cons (je_var 1) ja_nil)) ja_nil))))))))
theorem j_law_done (T : Txt w K mg A) (J_Company_carry : FJ P w K mg base (A.pm a ns) 4 A.f_Company_carry A.d_Company_carry ["self", "place"] (F_Company_carry ns)) (J_Company_hand_on : FJ P w K mg base (A.pm a ns) 3 A.f_Company_hand_on A.d_Company_hand_on ["self", "hand", "other", "pieces"] (F_Company_hand_on ns)) (J_Company_do : FJ P w K mg base (A.pm a ns) 4 A.f_Company_do A.d_Company_do ["self", "hand"] (F_Company_do ns)) : FJ P w K mg base (A.pm a ns) 5 A.f_law_done A.d_law_done ["_law_company", "_law_deed"] (F_law_done ns) :=
  fj_of (k := 4) T.fu_law_done sc_law_done (fun _ _ _ _ _ _ us hl => match us, hl with | [_, _], _ => rfl) fun cdv Ar outer s H E hr => by
    have tk : Takes (cxOf (L2.CX P w) P w K mg base ["_law_company", "_law_deed"] "_law_done" (defScope s_law_done) A.f_law_done cdv Ar outer s H E) (fun c d _ H' => E c d H') := takes_of rfl rfl rfl rfl
    exact (js_cons (js_if (jt_cmp (op_eqA hr.units) o_eq (je_ix (je_var 1) je_int) je_str (nomark _)) (js_one (js_ret (je_meth (je_var 0) T.cl_Company T.me_Company_hand_on J_Company_hand_on (hr.mono (by decide)) tk (ja_cons (je_ix (je_var 1) je_int) (ja_cons (je_ix (je_var 1) je_int) (ja_cons (je_ix (je_var 1) je_int) ja_nil)))))) js_nil)
    (js_cons (js_if (jt_cmp (op_eqA hr.units) o_eq (je_ix (je_var 1) je_int) je_str (nomark _)) (js_one (js_ret (je_meth (je_var 0) T.cl_Company T.me_Company_do J_Company_do (hr.mono (by decide)) tk (ja_cons (je_ix (je_var 1) je_int) ja_nil)))) js_nil)
    (js_one (js_ret (je_meth (je_var 0) T.cl_Company T.me_Company_carry J_Company_carry (hr.mono (by decide)) tk (ja_cons (je_ix (je_var 1) je_int) ja_nil))))))
theorem j_law (T : Txt w K mg A) (J_law_many_by : FJ P w K mg base (A.pm a ns) 1 A.f_law_many_by A.d_law_many_by ["_law_cell"] (F_law_many_by ns)) (J_Company_init : FJ P w K mg base (A.pm a ns) 3 A.f_Company_init A.d_Company_init ["self", "many"] (F_Company_init ns)) (J_law_cell_at : FJ P w K mg base (A.pm a ns) 1 A.f_law_cell_at A.d_law_cell_at ["_law_script", "_law_k"] (F_law_cell_at ns)) (J_Company_begin : FJ P w K mg base (A.pm a ns) 2 A.f_Company_begin A.d_Company_begin ["self", "pieces"] (F_Company_begin ns)) (J_law_mixed : FJ P w K mg base (A.pm a ns) 1 A.f_law_mixed A.d_law_mixed ["_law_script", "_law_k"] (F_law_mixed ns)) (J_law_next : FJ P w K mg base (A.pm a ns) 3 A.f_law_next A.d_law_next ["_law_company", "_law_many", "_law_number"] (F_law_next ns)) (J_law_good : FJ P w K mg base (A.pm a ns) 8 A.f_law_good A.d_law_good ["_law_company", "_law_many", "_law_number", "_law_held", "_law_pairs"] (F_law_good ns)) (J_law_pieces_by : FJ P w K mg base (A.pm a ns) 1 A.f_law_pieces_by A.d_law_pieces_by ["_law_cell"] (F_law_pieces_by ns)) (J_law_done : FJ P w K mg base (A.pm a ns) 5 A.f_law_done A.d_law_done ["_law_company", "_law_deed"] (F_law_done ns)) : FJ P w K mg base (A.pm a ns) 9 A.f_law A.d_law ["_law_script"] (F_law ns) :=
  fj_of (k := 8) T.fu_law sc_law (fun _ _ _ _ _ _ us hl => match us, hl with | [_], _ => rfl) fun cdv Ar outer s H E hr => by
    have tk : Takes (cxOf (L2.CX P w) P w K mg base ["_law_script", "_law_many", "_law_company", "_law_held", "_law_pairs", "_law_k", "_law_one", "_law_number", "_law_deed"] "law" (defScope s_law) A.f_law cdv Ar outer s H E) (fun c d _ H' => E c d H') := takes_of rfl rfl rfl rfl
    exact (js_cons (js_asg (i := 1) (je_call J_law_many_by (hr.mono (by decide)) rfl T.gf_law_many_by tk (ja_cons (je_call J_law_cell_at (hr.mono (by decide)) rfl T.gf_law_cell_at tk (ja_cons (je_var 0) (ja_cons je_int ja_nil))) ja_nil)) sc_law.nd)
    (js_cons (js_asg (i := 2) (je_make T.mk_Company J_Company_init (hr.mono (by decide)) rfl T.gc_Company tk (ja_cons (je_var 1) ja_nil)) sc_law.nd)
    (js_cons (js_if (jt_cmp (op_neA hr.units) o_ne (je_op op_mod o_mod (je_call J_law_cell_at (hr.mono (by decide)) rfl T.gf_law_cell_at tk (ja_cons (je_var 0) (ja_cons je_int ja_nil))) je_int) je_int (nomark _)) (js_one (js_expr (je_meth (je_var 2) T.cl_Company T.me_Company_begin J_Company_begin (hr.mono (by decide)) tk (ja_cons (je_call J_law_pieces_by (hr.mono (by decide)) rfl T.gf_law_pieces_by tk (ja_cons (je_op op_fdiv o_fdiv (je_call J_law_cell_at (hr.mono (by decide)) rfl T.gf_law_cell_at tk (ja_cons (je_var 0) (ja_cons je_int ja_nil))) je_int) ja_nil)) ja_nil)))) js_nil)
    (js_cons (js_asg (i := 3) (je_lst ja_nil) sc_law.nd)
    (js_cons (js_asg (i := 4) (je_lst ja_nil) sc_law.nd)
    (js_cons (js_for (j := 5) (passes_of rfl) sc_law.nd (ji_rg1 T.b_range (ja_cons (je_op op_mod o_mod (je_call J_law_cell_at (hr.mono (by decide)) rfl T.gf_law_cell_at tk (ja_cons (je_var 0) (ja_cons je_int ja_nil))) je_int) ja_nil)) (js_cons (js_asg (i := 7) (je_call J_law_mixed (hr.mono (by decide)) rfl T.gf_law_mixed tk (ja_cons (je_var 0) (ja_cons (je_op op_addA o_add je_int (je_var 5)) ja_nil))) sc_law.nd)
    (js_cons (js_asg (i := 8) (je_call J_law_next (hr.mono (by decide)) rfl T.gf_law_next tk (ja_cons (je_var 2) (ja_cons (je_var 1) (ja_cons (je_var 7) ja_nil)))) sc_law.nd)
    (js_cons (js_if (jt_cmp op_isNotA o_isNot (je_var 8) je_non (nomark _)) (js_one (js_expr (je_call J_law_done (hr.mono (by decide)) rfl T.gf_law_done tk (ja_cons (je_var 2) (ja_cons (je_var 8) ja_nil))))) js_nil)
    (js_one (js_if (jt_w (jw_and (jt_cmp (op_eqA hr.units) o_eq (je_op op_mod o_mod (je_op op_fdiv o_fdiv (je_var 7) je_int) (je_op op_addA o_add je_int (je_op op_fdiv o_fdiv (je_var 1) je_int))) je_int (nomark _)) (jw_and1 (jt_not (jt_val (je_call J_law_good (hr.mono (by decide)) rfl T.gf_law_good tk (ja_cons (je_var 2) (ja_cons (je_var 1) (ja_cons (je_op op_fdiv o_fdiv (je_var 7) je_int) (ja_cons (je_var 3) (ja_cons (je_var 4) ja_nil))))))))))) (js_one (js_ret je_bl)) js_nil))))))
    (js_cons (js_for (j := 6) (passes_of rfl) sc_law.nd (ji_lst (je_var 4)) (js_one (js_if (jt_cmp (op_neA hr.units) o_ne (je_ix (je_var 6) je_int) (je_items T.b_list (je_ix (je_var 6) je_int)) (nomark _)) (js_one (js_ret je_bl)) js_nil)))
    (js_one (js_ret (je_and (je_call J_law_good (hr.mono (by decide)) rfl T.gf_law_good tk (ja_cons (je_var 2) (ja_cons (je_var 1) (ja_cons (je_cb call_lenA c_len T.b_len (ja_cons (je_var 0) ja_nil)) (ja_cons (je_var 3) (ja_cons (je_var 4) ja_nil)))))) (je_one (je_cb (cr_all rfl) c_all T.b_all (ja_cons (je_lc sc_law.nd (ji_lst (je_var 3)) (blkOk_by (N := ["_law_script", "_law_many", "_law_company", "_law_held", "_law_pairs", "_law_k", "_law_one", "_law_number", "_law_deed"]) (sc := defScope s_law) (by decide +kernel)) (fun _ _ _ _ _ => pg_name (i := 6) sc_law.nd rfl (Or.inl rfl)) (fun _ _ _ _ _ => jts_nil) (fun _ _ _ _ _ => (je_cmp (op_eqA hr.units) o_eq (je_ix (je_var 6) je_int) (je_ix (je_var 6) je_int) (nomark _)))) ja_nil)))))))))))))
theorem all_j (T : Txt w K mg A) : FJ P w K mg base (A.pm a ns) 9 A.f_law A.d_law ["_law_script"] (F_law ns) := by
  have J_law_many_by : FJ P w K mg base (A.pm a ns) 1 A.f_law_many_by A.d_law_many_by ["_law_cell"] (F_law_many_by ns) := j_law_many_by T 
  have J_Post_init : FJ P w K mg base (A.pm a ns) 1 A.f_Post_init A.d_Post_init ["self"] (F_Post_init ns) := j_Post_init T 
  have J_Hand_init : FJ P w K mg base (A.pm a ns) 1 A.f_Hand_init A.d_Hand_init ["self"] (F_Hand_init ns) := j_Hand_init T 
  have J_Company_init : FJ P w K mg base (A.pm a ns) 3 A.f_Company_init A.d_Company_init ["self", "many"] (F_Company_init ns) := j_Company_init T J_Post_init J_Hand_init
  have J_law_cell_at : FJ P w K mg base (A.pm a ns) 1 A.f_law_cell_at A.d_law_cell_at ["_law_script", "_law_k"] (F_law_cell_at ns) := j_law_cell_at T 
  have J_Company_tell : FJ P w K mg base (A.pm a ns) 1 A.f_Company_tell A.d_Company_tell ["self", "rows"] (F_Company_tell ns) := j_Company_tell T 
  have J_Company_begin : FJ P w K mg base (A.pm a ns) 2 A.f_Company_begin A.d_Company_begin ["self", "pieces"] (F_Company_begin ns) := j_Company_begin T J_Company_tell
  have J_law_mixed : FJ P w K mg base (A.pm a ns) 1 A.f_law_mixed A.d_law_mixed ["_law_script", "_law_k"] (F_law_mixed ns) := j_law_mixed T 
  have J_Post_under : FJ P w K mg base (A.pm a ns) 1 A.f_Post_under A.d_Post_under ["self"] (F_Post_under ns) := j_Post_under T 
  have J_Company_under : FJ P w K mg base (A.pm a ns) 2 A.f_Company_under A.d_Company_under ["self"] (F_Company_under ns) := j_Company_under T J_Post_under
  have J_Hand_told : FJ P w K mg base (A.pm a ns) 1 A.f_Hand_told A.d_Hand_told ["self"] (F_Hand_told ns) := j_Hand_told T 
  have J_Company_one : FJ P w K mg base (A.pm a ns) 1 A.f_Company_one A.d_Company_one ["self", "number"] (F_Company_one ns) := j_Company_one T 
  have J_Company_hand : FJ P w K mg base (A.pm a ns) 2 A.f_Company_hand A.d_Company_hand ["self", "number"] (F_Company_hand ns) := j_Company_hand T J_Hand_told J_Company_one
  have J_law_next : FJ P w K mg base (A.pm a ns) 3 A.f_law_next A.d_law_next ["_law_company", "_law_many", "_law_number"] (F_law_next ns) := j_law_next T J_Company_under J_Company_hand
  have J_Company_runs : FJ P w K mg base (A.pm a ns) 1 A.f_Company_runs A.d_Company_runs ["self"] (F_Company_runs ns) := j_Company_runs T 
  have J_is_in : FJ P w K mg base (A.pm a ns) 3 A.f_is_in A.d_is_in ["company", "number"] (F_is_in ns) := j_is_in T J_Company_hand J_Company_runs
  have J_way : FJ P w K mg base (A.pm a ns) 4 A.f_way A.d_way ["company", "number"] (F_way ns) := j_way T J_is_in J_Company_hand
  have J_debts : FJ P w K mg base (A.pm a ns) 3 A.f_debts A.d_debts ["company"] (F_debts ns) := j_debts T J_Company_hand
  have J_law_whole : FJ P w K mg base (A.pm a ns) 1 A.f_law_whole A.d_law_whole ["_law_found"] (F_law_whole ns) := j_law_whole T 
  have J_law_alike : FJ P w K mg base (A.pm a ns) 6 A.f_law_alike A.d_law_alike ["_law_found", "_law_due"] (F_law_alike ns) := j_law_alike T J_law_whole
  have J_law_debts_good : FJ P w K mg base (A.pm a ns) 7 A.f_law_debts_good A.d_law_debts_good ["_law_company", "_law_many", "_law_wakers", "_law_held"] (F_law_debts_good ns) := j_law_debts_good T J_debts J_law_alike
  have J_woken_by : FJ P w K mg base (A.pm a ns) 4 A.f_woken_by A.d_woken_by ["company"] (F_woken_by ns) := j_woken_by T J_is_in J_debts
  have J_law_woken_due : FJ P w K mg base (A.pm a ns) 2 A.f_law_woken_due A.d_law_woken_due ["_law_company", "_law_many", "_law_wakers"] (F_law_woken_due ns) := j_law_woken_due T J_Company_runs
  have J_law_woken_good : FJ P w K mg base (A.pm a ns) 7 A.f_law_woken_good A.d_law_woken_good ["_law_company", "_law_many", "_law_wakers", "_law_held"] (F_law_woken_good ns) := j_law_woken_good T J_woken_by J_law_alike J_law_woken_due
  have J_law_way_good : FJ P w K mg base (A.pm a ns) 7 A.f_law_way_good A.d_law_way_good ["_law_company", "_law_many", "_law_wakers", "_law_number"] (F_law_way_good ns) := j_law_way_good T J_way J_law_alike J_law_whole J_Company_runs
  have J_law_good : FJ P w K mg base (A.pm a ns) 8 A.f_law_good A.d_law_good ["_law_company", "_law_many", "_law_number", "_law_held", "_law_pairs"] (F_law_good ns) := j_law_good T J_way J_law_debts_good J_Company_hand J_law_woken_good J_law_way_good J_Company_runs
  have J_law_pieces_by : FJ P w K mg base (A.pm a ns) 1 A.f_law_pieces_by A.d_law_pieces_by ["_law_cell"] (F_law_pieces_by ns) := j_law_pieces_by T 
  have J_Post_take : FJ P w K mg base (A.pm a ns) 1 A.f_Post_take A.d_Post_take ["self", "place"] (F_Post_take ns) := j_Post_take T 
  have J_Hand_leave : FJ P w K mg base (A.pm a ns) 1 A.f_Hand_leave A.d_Hand_leave ["self"] (F_Hand_leave ns) := j_Hand_leave T 
  have J_Hand_is_free : FJ P w K mg base (A.pm a ns) 1 A.f_Hand_is_free A.d_Hand_is_free ["self"] (F_Hand_is_free ns) := j_Hand_is_free T 
  have J_Post_put : FJ P w K mg base (A.pm a ns) 1 A.f_Post_put A.d_Post_put ["self", "row"] (F_Post_put ns) := j_Post_put T 
  have J_Company_sent : FJ P w K mg base (A.pm a ns) 2 A.f_Company_sent A.d_Company_sent ["self", "row"] (F_Company_sent ns) := j_Company_sent T J_Post_put
  have J_Company_freed : FJ P w K mg base (A.pm a ns) 3 A.f_Company_freed A.d_Company_freed ["self", "hand"] (F_Company_freed ns) := j_Company_freed T J_Hand_leave J_Hand_is_free J_Company_sent
  have J_Company_woken : FJ P w K mg base (A.pm a ns) 3 A.f_Company_woken A.d_Company_woken ["self", "hand", "other", "pieces"] (F_Company_woken ns) := j_Company_woken T J_Company_sent
  have J_Company_carry : FJ P w K mg base (A.pm a ns) 4 A.f_Company_carry A.d_Company_carry ["self", "place"] (F_Company_carry ns) := j_Company_carry T J_Post_take J_Company_tell J_Company_freed J_Company_woken
  have J_Company_hand_on : FJ P w K mg base (A.pm a ns) 3 A.f_Company_hand_on A.d_Company_hand_on ["self", "hand", "other", "pieces"] (F_Company_hand_on ns) := j_Company_hand_on T J_Company_one J_Company_tell J_Company_sent
  have J_Company_do : FJ P w K mg base (A.pm a ns) 4 A.f_Company_do A.d_Company_do ["self", "hand"] (F_Company_do ns) := j_Company_do T J_Company_one J_Company_tell J_Company_freed
  have J_law_done : FJ P w K mg base (A.pm a ns) 5 A.f_law_done A.d_law_done ["_law_company", "_law_deed"] (F_law_done ns) := j_law_done T J_Company_carry J_Company_hand_on J_Company_do
  have J_law : FJ P w K mg base (A.pm a ns) 9 A.f_law A.d_law ["_law_script"] (F_law ns) := j_law T J_law_many_by J_Company_init J_law_cell_at J_Company_begin J_law_mixed J_law_next J_law_good J_law_pieces_by J_law_done
  exact J_law
end
theorem all_mk {P : Program} {w : World} {K : PySem.W.Frag} {h : Heap} {mg : Str → Option Value} {fa : Addr} (math : ∀ ns : List Int, ns.length ≤ 63 → ∃ S, F_law ns [.scr] [] = .ok (.bl true) S) (X : K.In h) (Gm : h.Ns mainGlobals mg) (hfa : mg "law" = some (.ref fa))
    {C_Hand C_Post C_Company X_DebtError X_NoCompany X_NoHand X_NoWork X_NoPlace X_Begun f0 f1 f2 f3 f4 f5 f6 f7 f8 f9 f10 f11 f12 f13 f14 f15 f16 f17 f18 f19 f20 f21 f22 f23 f24 f25 f26 f27 f28 f29 f30 f31 f32 f33 f34 f35 f36 f37 f38 : Addr}
    {t_MOST_HANDS t_MOST_PIECES : Tok}
    {od0 an0 od1 an1 od2 an2 od3 an3 od4 an4 od5 an5 od6 an6 od7 an7 od8 an8 od9 an9 od10 an10 od11 an11 od12 an12 od13 an13 od14 an14 od15 an15 od16 an16 od17 an17 od18 an18 od19 an19 od20 an20 od21 an21 od22 an22 od23 an23 od24 an24 od25 an25 od26 an26 od27 an27 od28 an28 od29 an29 od30 an30 od31 an31 od32 an32 od33 an33 od34 an34 od35 an35 od36 an36 od37 an37 od38 an38 : Option Addr} {sl0 sl1 sl2 sl3 sl4 sl5 sl6 sl7 sl8 sl9 sl10 sl11 sl12 sl13 sl14 sl15 sl16 sl17 sl18 sl19 sl20 sl21 sl22 sl23 sl24 sl25 sl26 sl27 sl28 sl29 sl30 sl31 sl32 sl33 sl34 sl35 sl36 sl37 sl38 : Array (Option Value)} {oc0 kV0 dc0 pm0 cd0 ct0 oc1 kV1 dc1 pm1 cd1 ct1 oc2 kV2 dc2 pm2 cd2 ct2 oc3 kV3 dc3 pm3 cd3 ct3 oc4 kV4 dc4 pm4 cd4 ct4 oc5 kV5 dc5 pm5 cd5 ct5 oc6 kV6 dc6 pm6 cd6 ct6 oc7 kV7 dc7 pm7 cd7 ct7 oc8 kV8 dc8 pm8 cd8 ct8 oc9 kV9 dc9 pm9 cd9 ct9 oc10 kV10 dc10 pm10 cd10 ct10 oc11 kV11 dc11 pm11 cd11 ct11 oc12 kV12 dc12 pm12 cd12 ct12 oc13 kV13 dc13 pm13 cd13 ct13 oc14 kV14 dc14 pm14 cd14 ct14 oc15 kV15 dc15 pm15 cd15 ct15 oc16 kV16 dc16 pm16 cd16 ct16 oc17 kV17 dc17 pm17 cd17 ct17 oc18 kV18 dc18 pm18 cd18 ct18 oc19 kV19 dc19 pm19 cd19 ct19 oc20 kV20 dc20 pm20 cd20 ct20 oc21 kV21 dc21 pm21 cd21 ct21 oc22 kV22 dc22 pm22 cd22 ct22 oc23 kV23 dc23 pm23 cd23 ct23 oc24 kV24 dc24 pm24 cd24 ct24 oc25 kV25 dc25 pm25 cd25 ct25 oc26 kV26 dc26 pm26 cd26 ct26 oc27 kV27 dc27 pm27 cd27 ct27 oc28 kV28 dc28 pm28 cd28 ct28 oc29 kV29 dc29 pm29 cd29 ct29 oc30 kV30 dc30 pm30 cd30 ct30 oc31 kV31 dc31 pm31 cd31 ct31 oc32 kV32 dc32 pm32 cd32 ct32 oc33 kV33 dc33 pm33 cd33 ct33 oc34 kV34 dc34 pm34 cd34 ct34 oc35 kV35 dc35 pm35 cd35 ct35 oc36 kV36 dc36 pm36 cd36 ct36 oc37 kV37 dc37 pm37 cd37 ct37 oc38 kV38 dc38 pm38 cd38 ct38 : Value}
    (b_all : PySem.W.nsIn K mainGlobals "all" = some none)
    (b_bool : PySem.W.nsIn K mainGlobals "bool" = some none)
    (b_dict : PySem.W.nsIn K mainGlobals "dict" = some none)
    (b_int : PySem.W.nsIn K mainGlobals "int" = some none)
    (b_isinstance : PySem.W.nsIn K mainGlobals "isinstance" = some none)
    (b_len : PySem.W.nsIn K mainGlobals "len" = some none)
    (b_list : PySem.W.nsIn K mainGlobals "list" = some none)
    (b_range : PySem.W.nsIn K mainGlobals "range" = some none)
    (b_set : PySem.W.nsIn K mainGlobals "set" = some none)
    (b_str : PySem.W.nsIn K mainGlobals "str" = some none)
    (b_tuple : PySem.W.nsIn K mainGlobals "tuple" = some none)
    (g_MOST_HANDS : PySem.W.nsIn K mainGlobals "MOST_HANDS" = some (some (.int 60 t_MOST_HANDS)))
    (g_MOST_PIECES : PySem.W.nsIn K mainGlobals "MOST_PIECES" = some (some (.int 999999 t_MOST_PIECES)))
    (aC_Hand : PySem.W.nsIn K mainGlobals "Hand" = some (some (.ref C_Hand)))
    (pg_Hand : PySem.W.plainGet K C_Hand Str.empty = true)
    (hd_Hand : PySem.W.hasDictIn K C_Hand = true)
    (po_Hand : PySem.W.plainOver K C_Hand = true)
    (sa_Hand : PySem.W.findIn K (.ref C_Hand) "__setattr__" = some (some (.builtin "object.__setattr__")))
    (mk_Hand : PySem.W.makesIn K C_Hand = true)
    (kc_Hand : PySem.W.keepIn K (.ref C_Hand) = true)
    (aC_Post : PySem.W.nsIn K mainGlobals "Post" = some (some (.ref C_Post)))
    (pg_Post : PySem.W.plainGet K C_Post Str.empty = true)
    (hd_Post : PySem.W.hasDictIn K C_Post = true)
    (po_Post : PySem.W.plainOver K C_Post = true)
    (sa_Post : PySem.W.findIn K (.ref C_Post) "__setattr__" = some (some (.builtin "object.__setattr__")))
    (mk_Post : PySem.W.makesIn K C_Post = true)
    (kc_Post : PySem.W.keepIn K (.ref C_Post) = true)
    (aC_Company : PySem.W.nsIn K mainGlobals "Company" = some (some (.ref C_Company)))
    (pg_Company : PySem.W.plainGet K C_Company Str.empty = true)
    (hd_Company : PySem.W.hasDictIn K C_Company = true)
    (po_Company : PySem.W.plainOver K C_Company = true)
    (sa_Company : PySem.W.findIn K (.ref C_Company) "__setattr__" = some (some (.builtin "object.__setattr__")))
    (mk_Company : PySem.W.makesIn K C_Company = true)
    (kc_Company : PySem.W.keepIn K (.ref C_Company) = true)
    (a0 : PySem.W.nsIn K mainGlobals "_law_many_by" = some (some (.ref f0)))
    (l0 : K.lookup f0 = some ⟨oc0, od0, .func (PySem.W.fnOf "_law_many_by" "_law_many_by" (defArgs s_law_many_by) (defBody s_law_many_by) (defScope s_law_many_by) .none kV0 dc0 pm0 an0 cd0 ct0), sl0⟩)
    (c0 : PySem.W.codeIn K cd0 "_law_many_by" = true)
    (k0 : PySem.W.keepIn K (.ref f0) = true)
    (a1 : PySem.W.findIn K (.ref C_Post) "__init__" = some (some (.ref f1)))
    (i1 : PySem.W.isFn K (.ref f1) = true)
    (l1 : K.lookup f1 = some ⟨oc1, od1, .func (PySem.W.fnOf "__init__" "Post.__init__" (defArgs s_Post_init) (defBody s_Post_init) (defScope s_Post_init) .none kV1 dc1 pm1 an1 cd1 ct1), sl1⟩)
    (c1 : PySem.W.codeIn K cd1 "Post.__init__" = true)
    (k1 : PySem.W.keepIn K (.ref f1) = true)
    (a2 : PySem.W.findIn K (.ref C_Hand) "__init__" = some (some (.ref f2)))
    (i2 : PySem.W.isFn K (.ref f2) = true)
    (l2 : K.lookup f2 = some ⟨oc2, od2, .func (PySem.W.fnOf "__init__" "Hand.__init__" (defArgs s_Hand_init) (defBody s_Hand_init) (defScope s_Hand_init) .none kV2 dc2 pm2 an2 cd2 ct2), sl2⟩)
    (c2 : PySem.W.codeIn K cd2 "Hand.__init__" = true)
    (k2 : PySem.W.keepIn K (.ref f2) = true)
    (a3 : PySem.W.findIn K (.ref C_Company) "__init__" = some (some (.ref f3)))
    (i3 : PySem.W.isFn K (.ref f3) = true)
    (l3 : K.lookup f3 = some ⟨oc3, od3, .func (PySem.W.fnOf "__init__" "Company.__init__" (defArgs s_Company_init) (defBody s_Company_init) (defScope s_Company_init) .none kV3 dc3 pm3 an3 cd3 ct3), sl3⟩)
    (c3 : PySem.W.codeIn K cd3 "Company.__init__" = true)
    (k3 : PySem.W.keepIn K (.ref f3) = true)
    (a4 : PySem.W.nsIn K mainGlobals "_law_cell_at" = some (some (.ref f4)))
    (l4 : K.lookup f4 = some ⟨oc4, od4, .func (PySem.W.fnOf "_law_cell_at" "_law_cell_at" (defArgs s_law_cell_at) (defBody s_law_cell_at) (defScope s_law_cell_at) .none kV4 dc4 pm4 an4 cd4 ct4), sl4⟩)
    (c4 : PySem.W.codeIn K cd4 "_law_cell_at" = true)
    (k4 : PySem.W.keepIn K (.ref f4) = true)
    (a5 : PySem.W.findIn K (.ref C_Company) "tell" = some (some (.ref f5)))
    (i5 : PySem.W.isFn K (.ref f5) = true)
    (l5 : K.lookup f5 = some ⟨oc5, od5, .func (PySem.W.fnOf "tell" "Company.tell" (defArgs s_Company_tell) (defBody s_Company_tell) (defScope s_Company_tell) .none kV5 dc5 pm5 an5 cd5 ct5), sl5⟩)
    (c5 : PySem.W.codeIn K cd5 "Company.tell" = true)
    (k5 : PySem.W.keepIn K (.ref f5) = true)
    (a6 : PySem.W.findIn K (.ref C_Company) "begin" = some (some (.ref f6)))
    (i6 : PySem.W.isFn K (.ref f6) = true)
    (l6 : K.lookup f6 = some ⟨oc6, od6, .func (PySem.W.fnOf "begin" "Company.begin" (defArgs s_Company_begin) (defBody s_Company_begin) (defScope s_Company_begin) .none kV6 dc6 pm6 an6 cd6 ct6), sl6⟩)
    (c6 : PySem.W.codeIn K cd6 "Company.begin" = true)
    (k6 : PySem.W.keepIn K (.ref f6) = true)
    (a7 : PySem.W.nsIn K mainGlobals "_law_mixed" = some (some (.ref f7)))
    (l7 : K.lookup f7 = some ⟨oc7, od7, .func (PySem.W.fnOf "_law_mixed" "_law_mixed" (defArgs s_law_mixed) (defBody s_law_mixed) (defScope s_law_mixed) .none kV7 dc7 pm7 an7 cd7 ct7), sl7⟩)
    (c7 : PySem.W.codeIn K cd7 "_law_mixed" = true)
    (k7 : PySem.W.keepIn K (.ref f7) = true)
    (a8 : PySem.W.findIn K (.ref C_Post) "under" = some (some (.ref f8)))
    (i8 : PySem.W.isFn K (.ref f8) = true)
    (l8 : K.lookup f8 = some ⟨oc8, od8, .func (PySem.W.fnOf "under" "Post.under" (defArgs s_Post_under) (defBody s_Post_under) (defScope s_Post_under) .none kV8 dc8 pm8 an8 cd8 ct8), sl8⟩)
    (c8 : PySem.W.codeIn K cd8 "Post.under" = true)
    (k8 : PySem.W.keepIn K (.ref f8) = true)
    (a9 : PySem.W.findIn K (.ref C_Company) "under" = some (some (.ref f9)))
    (i9 : PySem.W.isFn K (.ref f9) = true)
    (l9 : K.lookup f9 = some ⟨oc9, od9, .func (PySem.W.fnOf "under" "Company.under" (defArgs s_Company_under) (defBody s_Company_under) (defScope s_Company_under) .none kV9 dc9 pm9 an9 cd9 ct9), sl9⟩)
    (c9 : PySem.W.codeIn K cd9 "Company.under" = true)
    (k9 : PySem.W.keepIn K (.ref f9) = true)
    (a10 : PySem.W.findIn K (.ref C_Hand) "told" = some (some (.ref f10)))
    (i10 : PySem.W.isFn K (.ref f10) = true)
    (l10 : K.lookup f10 = some ⟨oc10, od10, .func (PySem.W.fnOf "told" "Hand.told" (defArgs s_Hand_told) (defBody s_Hand_told) (defScope s_Hand_told) .none kV10 dc10 pm10 an10 cd10 ct10), sl10⟩)
    (c10 : PySem.W.codeIn K cd10 "Hand.told" = true)
    (k10 : PySem.W.keepIn K (.ref f10) = true)
    (a11 : PySem.W.findIn K (.ref C_Company) "one" = some (some (.ref f11)))
    (i11 : PySem.W.isFn K (.ref f11) = true)
    (l11 : K.lookup f11 = some ⟨oc11, od11, .func (PySem.W.fnOf "one" "Company.one" (defArgs s_Company_one) (defBody s_Company_one) (defScope s_Company_one) .none kV11 dc11 pm11 an11 cd11 ct11), sl11⟩)
    (c11 : PySem.W.codeIn K cd11 "Company.one" = true)
    (k11 : PySem.W.keepIn K (.ref f11) = true)
    (a12 : PySem.W.findIn K (.ref C_Company) "hand" = some (some (.ref f12)))
    (i12 : PySem.W.isFn K (.ref f12) = true)
    (l12 : K.lookup f12 = some ⟨oc12, od12, .func (PySem.W.fnOf "hand" "Company.hand" (defArgs s_Company_hand) (defBody s_Company_hand) (defScope s_Company_hand) .none kV12 dc12 pm12 an12 cd12 ct12), sl12⟩)
    (c12 : PySem.W.codeIn K cd12 "Company.hand" = true)
    (k12 : PySem.W.keepIn K (.ref f12) = true)
    (a13 : PySem.W.nsIn K mainGlobals "_law_next" = some (some (.ref f13)))
    (l13 : K.lookup f13 = some ⟨oc13, od13, .func (PySem.W.fnOf "_law_next" "_law_next" (defArgs s_law_next) (defBody s_law_next) (defScope s_law_next) .none kV13 dc13 pm13 an13 cd13 ct13), sl13⟩)
    (c13 : PySem.W.codeIn K cd13 "_law_next" = true)
    (k13 : PySem.W.keepIn K (.ref f13) = true)
    (a14 : PySem.W.findIn K (.ref C_Company) "runs" = some (some (.ref f14)))
    (i14 : PySem.W.isFn K (.ref f14) = true)
    (l14 : K.lookup f14 = some ⟨oc14, od14, .func (PySem.W.fnOf "runs" "Company.runs" (defArgs s_Company_runs) (defBody s_Company_runs) (defScope s_Company_runs) .none kV14 dc14 pm14 an14 cd14 ct14), sl14⟩)
    (c14 : PySem.W.codeIn K cd14 "Company.runs" = true)
    (k14 : PySem.W.keepIn K (.ref f14) = true)
    (a15 : PySem.W.nsIn K mainGlobals "is_in" = some (some (.ref f15)))
    (l15 : K.lookup f15 = some ⟨oc15, od15, .func (PySem.W.fnOf "is_in" "is_in" (defArgs s_is_in) (defBody s_is_in) (defScope s_is_in) .none kV15 dc15 pm15 an15 cd15 ct15), sl15⟩)
    (c15 : PySem.W.codeIn K cd15 "is_in" = true)
    (k15 : PySem.W.keepIn K (.ref f15) = true)
    (a16 : PySem.W.nsIn K mainGlobals "way" = some (some (.ref f16)))
    (l16 : K.lookup f16 = some ⟨oc16, od16, .func (PySem.W.fnOf "way" "way" (defArgs s_way) (defBody s_way) (defScope s_way) .none kV16 dc16 pm16 an16 cd16 ct16), sl16⟩)
    (c16 : PySem.W.codeIn K cd16 "way" = true)
    (k16 : PySem.W.keepIn K (.ref f16) = true)
    (a17 : PySem.W.nsIn K mainGlobals "debts" = some (some (.ref f17)))
    (l17 : K.lookup f17 = some ⟨oc17, od17, .func (PySem.W.fnOf "debts" "debts" (defArgs s_debts) (defBody s_debts) (defScope s_debts) .none kV17 dc17 pm17 an17 cd17 ct17), sl17⟩)
    (c17 : PySem.W.codeIn K cd17 "debts" = true)
    (k17 : PySem.W.keepIn K (.ref f17) = true)
    (a18 : PySem.W.nsIn K mainGlobals "_law_whole" = some (some (.ref f18)))
    (l18 : K.lookup f18 = some ⟨oc18, od18, .func (PySem.W.fnOf "_law_whole" "_law_whole" (defArgs s_law_whole) (defBody s_law_whole) (defScope s_law_whole) .none kV18 dc18 pm18 an18 cd18 ct18), sl18⟩)
    (c18 : PySem.W.codeIn K cd18 "_law_whole" = true)
    (k18 : PySem.W.keepIn K (.ref f18) = true)
    (a19 : PySem.W.nsIn K mainGlobals "_law_alike" = some (some (.ref f19)))
    (l19 : K.lookup f19 = some ⟨oc19, od19, .func (PySem.W.fnOf "_law_alike" "_law_alike" (defArgs s_law_alike) (defBody s_law_alike) (defScope s_law_alike) .none kV19 dc19 pm19 an19 cd19 ct19), sl19⟩)
    (c19 : PySem.W.codeIn K cd19 "_law_alike" = true)
    (k19 : PySem.W.keepIn K (.ref f19) = true)
    (a20 : PySem.W.nsIn K mainGlobals "_law_debts_good" = some (some (.ref f20)))
    (l20 : K.lookup f20 = some ⟨oc20, od20, .func (PySem.W.fnOf "_law_debts_good" "_law_debts_good" (defArgs s_law_debts_good) (defBody s_law_debts_good) (defScope s_law_debts_good) .none kV20 dc20 pm20 an20 cd20 ct20), sl20⟩)
    (c20 : PySem.W.codeIn K cd20 "_law_debts_good" = true)
    (k20 : PySem.W.keepIn K (.ref f20) = true)
    (a21 : PySem.W.nsIn K mainGlobals "woken_by" = some (some (.ref f21)))
    (l21 : K.lookup f21 = some ⟨oc21, od21, .func (PySem.W.fnOf "woken_by" "woken_by" (defArgs s_woken_by) (defBody s_woken_by) (defScope s_woken_by) .none kV21 dc21 pm21 an21 cd21 ct21), sl21⟩)
    (c21 : PySem.W.codeIn K cd21 "woken_by" = true)
    (k21 : PySem.W.keepIn K (.ref f21) = true)
    (a22 : PySem.W.nsIn K mainGlobals "_law_woken_due" = some (some (.ref f22)))
    (l22 : K.lookup f22 = some ⟨oc22, od22, .func (PySem.W.fnOf "_law_woken_due" "_law_woken_due" (defArgs s_law_woken_due) (defBody s_law_woken_due) (defScope s_law_woken_due) .none kV22 dc22 pm22 an22 cd22 ct22), sl22⟩)
    (c22 : PySem.W.codeIn K cd22 "_law_woken_due" = true)
    (k22 : PySem.W.keepIn K (.ref f22) = true)
    (a23 : PySem.W.nsIn K mainGlobals "_law_woken_good" = some (some (.ref f23)))
    (l23 : K.lookup f23 = some ⟨oc23, od23, .func (PySem.W.fnOf "_law_woken_good" "_law_woken_good" (defArgs s_law_woken_good) (defBody s_law_woken_good) (defScope s_law_woken_good) .none kV23 dc23 pm23 an23 cd23 ct23), sl23⟩)
    (c23 : PySem.W.codeIn K cd23 "_law_woken_good" = true)
    (k23 : PySem.W.keepIn K (.ref f23) = true)
    (a24 : PySem.W.nsIn K mainGlobals "_law_way_good" = some (some (.ref f24)))
    (l24 : K.lookup f24 = some ⟨oc24, od24, .func (PySem.W.fnOf "_law_way_good" "_law_way_good" (defArgs s_law_way_good) (defBody s_law_way_good) (defScope s_law_way_good) .none kV24 dc24 pm24 an24 cd24 ct24), sl24⟩)
    (c24 : PySem.W.codeIn K cd24 "_law_way_good" = true)
    (k24 : PySem.W.keepIn K (.ref f24) = true)
    (a25 : PySem.W.nsIn K mainGlobals "_law_good" = some (some (.ref f25)))
    (l25 : K.lookup f25 = some ⟨oc25, od25, .func (PySem.W.fnOf "_law_good" "_law_good" (defArgs s_law_good) (defBody s_law_good) (defScope s_law_good) .none kV25 dc25 pm25 an25 cd25 ct25), sl25⟩)
    (c25 : PySem.W.codeIn K cd25 "_law_good" = true)
    (k25 : PySem.W.keepIn K (.ref f25) = true)
    (a26 : PySem.W.nsIn K mainGlobals "_law_pieces_by" = some (some (.ref f26)))
    (l26 : K.lookup f26 = some ⟨oc26, od26, .func (PySem.W.fnOf "_law_pieces_by" "_law_pieces_by" (defArgs s_law_pieces_by) (defBody s_law_pieces_by) (defScope s_law_pieces_by) .none kV26 dc26 pm26 an26 cd26 ct26), sl26⟩)
    (c26 : PySem.W.codeIn K cd26 "_law_pieces_by" = true)
    (k26 : PySem.W.keepIn K (.ref f26) = true)
    (a27 : PySem.W.findIn K (.ref C_Post) "take" = some (some (.ref f27)))
    (i27 : PySem.W.isFn K (.ref f27) = true)
    (l27 : K.lookup f27 = some ⟨oc27, od27, .func (PySem.W.fnOf "take" "Post.take" (defArgs s_Post_take) (defBody s_Post_take) (defScope s_Post_take) .none kV27 dc27 pm27 an27 cd27 ct27), sl27⟩)
    (c27 : PySem.W.codeIn K cd27 "Post.take" = true)
    (k27 : PySem.W.keepIn K (.ref f27) = true)
    (a28 : PySem.W.findIn K (.ref C_Hand) "leave" = some (some (.ref f28)))
    (i28 : PySem.W.isFn K (.ref f28) = true)
    (l28 : K.lookup f28 = some ⟨oc28, od28, .func (PySem.W.fnOf "leave" "Hand.leave" (defArgs s_Hand_leave) (defBody s_Hand_leave) (defScope s_Hand_leave) .none kV28 dc28 pm28 an28 cd28 ct28), sl28⟩)
    (c28 : PySem.W.codeIn K cd28 "Hand.leave" = true)
    (k28 : PySem.W.keepIn K (.ref f28) = true)
    (a29 : PySem.W.findIn K (.ref C_Hand) "is_free" = some (some (.ref f29)))
    (i29 : PySem.W.isFn K (.ref f29) = true)
    (l29 : K.lookup f29 = some ⟨oc29, od29, .func (PySem.W.fnOf "is_free" "Hand.is_free" (defArgs s_Hand_is_free) (defBody s_Hand_is_free) (defScope s_Hand_is_free) .none kV29 dc29 pm29 an29 cd29 ct29), sl29⟩)
    (c29 : PySem.W.codeIn K cd29 "Hand.is_free" = true)
    (k29 : PySem.W.keepIn K (.ref f29) = true)
    (a30 : PySem.W.findIn K (.ref C_Post) "put" = some (some (.ref f30)))
    (i30 : PySem.W.isFn K (.ref f30) = true)
    (l30 : K.lookup f30 = some ⟨oc30, od30, .func (PySem.W.fnOf "put" "Post.put" (defArgs s_Post_put) (defBody s_Post_put) (defScope s_Post_put) .none kV30 dc30 pm30 an30 cd30 ct30), sl30⟩)
    (c30 : PySem.W.codeIn K cd30 "Post.put" = true)
    (k30 : PySem.W.keepIn K (.ref f30) = true)
    (a31 : PySem.W.findIn K (.ref C_Company) "sent" = some (some (.ref f31)))
    (i31 : PySem.W.isFn K (.ref f31) = true)
    (l31 : K.lookup f31 = some ⟨oc31, od31, .func (PySem.W.fnOf "sent" "Company.sent" (defArgs s_Company_sent) (defBody s_Company_sent) (defScope s_Company_sent) .none kV31 dc31 pm31 an31 cd31 ct31), sl31⟩)
    (c31 : PySem.W.codeIn K cd31 "Company.sent" = true)
    (k31 : PySem.W.keepIn K (.ref f31) = true)
    (a32 : PySem.W.findIn K (.ref C_Company) "freed" = some (some (.ref f32)))
    (i32 : PySem.W.isFn K (.ref f32) = true)
    (l32 : K.lookup f32 = some ⟨oc32, od32, .func (PySem.W.fnOf "freed" "Company.freed" (defArgs s_Company_freed) (defBody s_Company_freed) (defScope s_Company_freed) .none kV32 dc32 pm32 an32 cd32 ct32), sl32⟩)
    (c32 : PySem.W.codeIn K cd32 "Company.freed" = true)
    (k32 : PySem.W.keepIn K (.ref f32) = true)
    (a33 : PySem.W.findIn K (.ref C_Company) "woken" = some (some (.ref f33)))
    (i33 : PySem.W.isFn K (.ref f33) = true)
    (l33 : K.lookup f33 = some ⟨oc33, od33, .func (PySem.W.fnOf "woken" "Company.woken" (defArgs s_Company_woken) (defBody s_Company_woken) (defScope s_Company_woken) .none kV33 dc33 pm33 an33 cd33 ct33), sl33⟩)
    (c33 : PySem.W.codeIn K cd33 "Company.woken" = true)
    (k33 : PySem.W.keepIn K (.ref f33) = true)
    (a34 : PySem.W.findIn K (.ref C_Company) "carry" = some (some (.ref f34)))
    (i34 : PySem.W.isFn K (.ref f34) = true)
    (l34 : K.lookup f34 = some ⟨oc34, od34, .func (PySem.W.fnOf "carry" "Company.carry" (defArgs s_Company_carry) (defBody s_Company_carry) (defScope s_Company_carry) .none kV34 dc34 pm34 an34 cd34 ct34), sl34⟩)
    (c34 : PySem.W.codeIn K cd34 "Company.carry" = true)
    (k34 : PySem.W.keepIn K (.ref f34) = true)
    (a35 : PySem.W.findIn K (.ref C_Company) "hand_on" = some (some (.ref f35)))
    (i35 : PySem.W.isFn K (.ref f35) = true)
    (l35 : K.lookup f35 = some ⟨oc35, od35, .func (PySem.W.fnOf "hand_on" "Company.hand_on" (defArgs s_Company_hand_on) (defBody s_Company_hand_on) (defScope s_Company_hand_on) .none kV35 dc35 pm35 an35 cd35 ct35), sl35⟩)
    (c35 : PySem.W.codeIn K cd35 "Company.hand_on" = true)
    (k35 : PySem.W.keepIn K (.ref f35) = true)
    (a36 : PySem.W.findIn K (.ref C_Company) "do" = some (some (.ref f36)))
    (i36 : PySem.W.isFn K (.ref f36) = true)
    (l36 : K.lookup f36 = some ⟨oc36, od36, .func (PySem.W.fnOf "do" "Company.do" (defArgs s_Company_do) (defBody s_Company_do) (defScope s_Company_do) .none kV36 dc36 pm36 an36 cd36 ct36), sl36⟩)
    (c36 : PySem.W.codeIn K cd36 "Company.do" = true)
    (k36 : PySem.W.keepIn K (.ref f36) = true)
    (a37 : PySem.W.nsIn K mainGlobals "_law_done" = some (some (.ref f37)))
    (l37 : K.lookup f37 = some ⟨oc37, od37, .func (PySem.W.fnOf "_law_done" "_law_done" (defArgs s_law_done) (defBody s_law_done) (defScope s_law_done) .none kV37 dc37 pm37 an37 cd37 ct37), sl37⟩)
    (c37 : PySem.W.codeIn K cd37 "_law_done" = true)
    (k37 : PySem.W.keepIn K (.ref f37) = true)
    (a38 : PySem.W.nsIn K mainGlobals "law" = some (some (.ref f38)))
    (l38 : K.lookup f38 = some ⟨oc38, od38, .func (PySem.W.fnOf "law" "law" (defArgs s_law) (defBody s_law) (defScope s_law) .none kV38 dc38 pm38 an38 cd38 ct38), sl38⟩)
    (c38 : PySem.W.codeIn K cd38 "law" = true)
    (k38 : PySem.W.keepIn K (.ref f38) = true)
    (na_crew : PySem.W.findIn K (.ref C_Company) "crew" = some none)
    (na_post : PySem.W.findIn K (.ref C_Company) "post" = some none)
    (na_running : PySem.W.findIn K (.ref C_Company) "running" = some none)
    (na_spoken : PySem.W.findIn K (.ref C_Company) "spoken" = some none)
    (na_pieces : PySem.W.findIn K (.ref C_Hand) "pieces" = some none)
    (na_tally : PySem.W.findIn K (.ref C_Hand) "tally" = some none)
    (na_unanswered : PySem.W.findIn K (.ref C_Hand) "unanswered" = some none)
    (na_waker : PySem.W.findIn K (.ref C_Hand) "waker" = some none)
    (na_rows : PySem.W.findIn K (.ref C_Post) "rows" = some none)
    (aX_DebtError : PySem.W.nsIn K mainGlobals "DebtError" = some (some (.ref X_DebtError)))
    (aX_NoCompany : PySem.W.nsIn K mainGlobals "NoCompany" = some (some (.ref X_NoCompany)))
    (aX_NoHand : PySem.W.nsIn K mainGlobals "NoHand" = some (some (.ref X_NoHand)))
    (aX_NoWork : PySem.W.nsIn K mainGlobals "NoWork" = some (some (.ref X_NoWork)))
    (aX_NoPlace : PySem.W.nsIn K mainGlobals "NoPlace" = some (some (.ref X_NoPlace)))
    (aX_Begun : PySem.W.nsIn K mainGlobals "Begun" = some (some (.ref X_Begun)))
    (xq_Begun : PySem.W.excIn K X_Begun [.type "ValueError", .type "Exception", .type "BaseException", .type "object"] "ValueError.__new__" = true)
    (xk_Begun : PySem.W.keepIn K (.ref X_Begun) = true)
    (xq_NoCompany : PySem.W.excIn K X_NoCompany [.type "ValueError", .type "Exception", .type "BaseException", .type "object"] "ValueError.__new__" = true)
    (xk_NoCompany : PySem.W.keepIn K (.ref X_NoCompany) = true)
    (xq_NoHand : PySem.W.excIn K X_NoHand [.type "ValueError", .type "Exception", .type "BaseException", .type "object"] "ValueError.__new__" = true)
    (xk_NoHand : PySem.W.keepIn K (.ref X_NoHand) = true)
    (xq_NoPlace : PySem.W.excIn K X_NoPlace [.type "ValueError", .type "Exception", .type "BaseException", .type "object"] "ValueError.__new__" = true)
    (xk_NoPlace : PySem.W.keepIn K (.ref X_NoPlace) = true)
    (xq_NoWork : PySem.W.excIn K X_NoWork [.type "ValueError", .type "Exception", .type "BaseException", .type "object"] "ValueError.__new__" = true)
    (xk_NoWork : PySem.W.keepIn K (.ref X_NoWork) = true)
    (xb_NoCompany : PySem.W.subIn K (.ref X_NoCompany) (.type "BaseException") = some true)
    (xt_NoCompany : PySem.W.typeIn K (.ref X_NoCompany) = some (.type "type"))
    (xb_NoHand : PySem.W.subIn K (.ref X_NoHand) (.type "BaseException") = some true)
    (xt_NoHand : PySem.W.typeIn K (.ref X_NoHand) = some (.type "type"))
    (xb_NoWork : PySem.W.subIn K (.ref X_NoWork) (.type "BaseException") = some true)
    (xt_NoWork : PySem.W.typeIn K (.ref X_NoWork) = some (.type "type"))
    (xb_NoPlace : PySem.W.subIn K (.ref X_NoPlace) (.type "BaseException") = some true)
    (xt_NoPlace : PySem.W.typeIn K (.ref X_NoPlace) = some (.type "type"))
    (xb_Begun : PySem.W.subIn K (.ref X_Begun) (.type "BaseException") = some true)
    (xt_Begun : PySem.W.typeIn K (.ref X_Begun) = some (.type "type"))
    : ∃ fd : FuncData, (∀ (s : Shared) (v : Value), BindsTo s fd ⟨[v], []⟩ [("_law_script", v)]) ∧ ∀ base : Heap, K.In base → base.Ns mainGlobals mg → FnOk P w K mg base (L2.CX P w) 9 fa fd ["_law_script"] (spLaw K) := by
  have e := hfa.symm.trans (PySem.W.mg_of X Gm a38)
  cases e
  let A : Ad := ⟨C_Hand, C_Post, C_Company, X_DebtError, X_NoCompany, X_NoHand, X_NoWork, X_NoPlace, X_Begun, f0, (PySem.W.fnOf "_law_many_by" "_law_many_by" (defArgs s_law_many_by) (defBody s_law_many_by) (defScope s_law_many_by) .none kV0 dc0 pm0 an0 cd0 ct0), f1, (PySem.W.fnOf "__init__" "Post.__init__" (defArgs s_Post_init) (defBody s_Post_init) (defScope s_Post_init) .none kV1 dc1 pm1 an1 cd1 ct1), f2, (PySem.W.fnOf "__init__" "Hand.__init__" (defArgs s_Hand_init) (defBody s_Hand_init) (defScope s_Hand_init) .none kV2 dc2 pm2 an2 cd2 ct2), f3, (PySem.W.fnOf "__init__" "Company.__init__" (defArgs s_Company_init) (defBody s_Company_init) (defScope s_Company_init) .none kV3 dc3 pm3 an3 cd3 ct3), f4, (PySem.W.fnOf "_law_cell_at" "_law_cell_at" (defArgs s_law_cell_at) (defBody s_law_cell_at) (defScope s_law_cell_at) .none kV4 dc4 pm4 an4 cd4 ct4), f5, (PySem.W.fnOf "tell" "Company.tell" (defArgs s_Company_tell) (defBody s_Company_tell) (defScope s_Company_tell) .none kV5 dc5 pm5 an5 cd5 ct5), f6, (PySem.W.fnOf "begin" "Company.begin" (defArgs s_Company_begin) (defBody s_Company_begin) (defScope s_Company_begin) .none kV6 dc6 pm6 an6 cd6 ct6), f7, (PySem.W.fnOf "_law_mixed" "_law_mixed" (defArgs s_law_mixed) (defBody s_law_mixed) (defScope s_law_mixed) .none kV7 dc7 pm7 an7 cd7 ct7), f8, (PySem.W.fnOf "under" "Post.under" (defArgs s_Post_under) (defBody s_Post_under) (defScope s_Post_under) .none kV8 dc8 pm8 an8 cd8 ct8), f9, (PySem.W.fnOf "under" "Company.under" (defArgs s_Company_under) (defBody s_Company_under) (defScope s_Company_under) .none kV9 dc9 pm9 an9 cd9 ct9), f10, (PySem.W.fnOf "told" "Hand.told" (defArgs s_Hand_told) (defBody s_Hand_told) (defScope s_Hand_told) .none kV10 dc10 pm10 an10 cd10 ct10), f11, (PySem.W.fnOf "one" "Company.one" (defArgs s_Company_one) (defBody s_Company_one) (defScope s_Company_one) .none kV11 dc11 pm11 an11 cd11 ct11), f12, (PySem.W.fnOf "hand" "Company.hand" (defArgs s_Company_hand) (defBody s_Company_hand) (defScope s_Company_hand) .none kV12 dc12 pm12 an12 cd12 ct12), f13, (PySem.W.fnOf "_law_next" "_law_next" (defArgs s_law_next) (defBody s_law_next) (defScope s_law_next) .none kV13 dc13 pm13 an13 cd13 ct13), f14, (PySem.W.fnOf "runs" "Company.runs" (defArgs s_Company_runs) (defBody s_Company_runs) (defScope s_Company_runs) .none kV14 dc14 pm14 an14 cd14 ct14), f15, (PySem.W.fnOf "is_in" "is_in" (defArgs s_is_in) (defBody s_is_in) (defScope s_is_in) .none kV15 dc15 pm15 an15 cd15 ct15), f16, (PySem.W.fnOf "way" "way" (defArgs s_way) (defBody s_way) (defScope s_way) .none kV16 dc16 pm16 an16 cd16 ct16), f17, (PySem.W.fnOf "debts" "debts" (defArgs s_debts) (defBody s_debts) (defScope s_debts) .none kV17 dc17 pm17 an17 cd17 ct17), f18, (PySem.W.fnOf "_law_whole" "_law_whole" (defArgs s_law_whole) (defBody s_law_whole) (defScope s_law_whole) .none kV18 dc18 pm18 an18 cd18 ct18), f19, (PySem.W.fnOf "_law_alike" "_law_alike" (defArgs s_law_alike) (defBody s_law_alike) (defScope s_law_alike) .none kV19 dc19 pm19 an19 cd19 ct19), f20, (PySem.W.fnOf "_law_debts_good" "_law_debts_good" (defArgs s_law_debts_good) (defBody s_law_debts_good) (defScope s_law_debts_good) .none kV20 dc20 pm20 an20 cd20 ct20), f21, (PySem.W.fnOf "woken_by" "woken_by" (defArgs s_woken_by) (defBody s_woken_by) (defScope s_woken_by) .none kV21 dc21 pm21 an21 cd21 ct21), f22, (PySem.W.fnOf "_law_woken_due" "_law_woken_due" (defArgs s_law_woken_due) (defBody s_law_woken_due) (defScope s_law_woken_due) .none kV22 dc22 pm22 an22 cd22 ct22), f23, (PySem.W.fnOf "_law_woken_good" "_law_woken_good" (defArgs s_law_woken_good) (defBody s_law_woken_good) (defScope s_law_woken_good) .none kV23 dc23 pm23 an23 cd23 ct23), f24, (PySem.W.fnOf "_law_way_good" "_law_way_good" (defArgs s_law_way_good) (defBody s_law_way_good) (defScope s_law_way_good) .none kV24 dc24 pm24 an24 cd24 ct24), f25, (PySem.W.fnOf "_law_good" "_law_good" (defArgs s_law_good) (defBody s_law_good) (defScope s_law_good) .none kV25 dc25 pm25 an25 cd25 ct25), f26, (PySem.W.fnOf "_law_pieces_by" "_law_pieces_by" (defArgs s_law_pieces_by) (defBody s_law_pieces_by) (defScope s_law_pieces_by) .none kV26 dc26 pm26 an26 cd26 ct26), f27, (PySem.W.fnOf "take" "Post.take" (defArgs s_Post_take) (defBody s_Post_take) (defScope s_Post_take) .none kV27 dc27 pm27 an27 cd27 ct27), f28, (PySem.W.fnOf "leave" "Hand.leave" (defArgs s_Hand_leave) (defBody s_Hand_leave) (defScope s_Hand_leave) .none kV28 dc28 pm28 an28 cd28 ct28), f29, (PySem.W.fnOf "is_free" "Hand.is_free" (defArgs s_Hand_is_free) (defBody s_Hand_is_free) (defScope s_Hand_is_free) .none kV29 dc29 pm29 an29 cd29 ct29), f30, (PySem.W.fnOf "put" "Post.put" (defArgs s_Post_put) (defBody s_Post_put) (defScope s_Post_put) .none kV30 dc30 pm30 an30 cd30 ct30), f31, (PySem.W.fnOf "sent" "Company.sent" (defArgs s_Company_sent) (defBody s_Company_sent) (defScope s_Company_sent) .none kV31 dc31 pm31 an31 cd31 ct31), f32, (PySem.W.fnOf "freed" "Company.freed" (defArgs s_Company_freed) (defBody s_Company_freed) (defScope s_Company_freed) .none kV32 dc32 pm32 an32 cd32 ct32), f33, (PySem.W.fnOf "woken" "Company.woken" (defArgs s_Company_woken) (defBody s_Company_woken) (defScope s_Company_woken) .none kV33 dc33 pm33 an33 cd33 ct33), f34, (PySem.W.fnOf "carry" "Company.carry" (defArgs s_Company_carry) (defBody s_Company_carry) (defScope s_Company_carry) .none kV34 dc34 pm34 an34 cd34 ct34), f35, (PySem.W.fnOf "hand_on" "Company.hand_on" (defArgs s_Company_hand_on) (defBody s_Company_hand_on) (defScope s_Company_hand_on) .none kV35 dc35 pm35 an35 cd35 ct35), f36, (PySem.W.fnOf "do" "Company.do" (defArgs s_Company_do) (defBody s_Company_do) (defScope s_Company_do) .none kV36 dc36 pm36 an36 cd36 ct36), f37, (PySem.W.fnOf "_law_done" "_law_done" (defArgs s_law_done) (defBody s_law_done) (defScope s_law_done) .none kV37 dc37 pm37 an37 cd37 ct37), fa, (PySem.W.fnOf "law" "law" (defArgs s_law) (defBody s_law) (defScope s_law) .none kV38 dc38 pm38 an38 cd38 ct38)⟩
  have T : Txt w K mg A :=
    { b_all := PySem.W.mg_none_of X Gm b_all
      b_bool := PySem.W.mg_none_of X Gm b_bool
      b_dict := PySem.W.mg_none_of X Gm b_dict
      b_int := PySem.W.mg_none_of X Gm b_int
      b_isinstance := PySem.W.mg_none_of X Gm b_isinstance
      b_len := PySem.W.mg_none_of X Gm b_len
      b_list := PySem.W.mg_none_of X Gm b_list
      b_range := PySem.W.mg_none_of X Gm b_range
      b_set := PySem.W.mg_none_of X Gm b_set
      b_str := PySem.W.mg_none_of X Gm b_str
      b_tuple := PySem.W.mg_none_of X Gm b_tuple
      g_MOST_HANDS := ⟨_, PySem.W.mg_of X Gm g_MOST_HANDS⟩
      g_MOST_PIECES := ⟨_, PySem.W.mg_of X Gm g_MOST_PIECES⟩
      cl_Hand := ⟨pg_Hand, hd_Hand, po_Hand, sa_Hand⟩
      gc_Hand := PySem.W.mg_of X Gm aC_Hand
      mk_Hand := ⟨mk_Hand, a2, i2, kc_Hand⟩
      cl_Post := ⟨pg_Post, hd_Post, po_Post, sa_Post⟩
      gc_Post := PySem.W.mg_of X Gm aC_Post
      mk_Post := ⟨mk_Post, a1, i1, kc_Post⟩
      cl_Company := ⟨pg_Company, hd_Company, po_Company, sa_Company⟩
      gc_Company := PySem.W.mg_of X Gm aC_Company
      mk_Company := ⟨mk_Company, a3, i3, kc_Company⟩
      na_crew := na_crew
      na_post := na_post
      na_running := na_running
      na_spoken := na_spoken
      na_pieces := na_pieces
      na_tally := na_tally
      na_unanswered := na_unanswered
      na_waker := na_waker
      na_rows := na_rows
      fu_law_many_by := fun_mk (st := s_law_many_by) l0 c0 k0
      gf_law_many_by := PySem.W.mg_of X Gm a0
      fu_Post_init := fun_mk (st := s_Post_init) l1 c1 k1
      fu_Hand_init := fun_mk (st := s_Hand_init) l2 c2 k2
      fu_Company_init := fun_mk (st := s_Company_init) l3 c3 k3
      fu_law_cell_at := fun_mk (st := s_law_cell_at) l4 c4 k4
      gf_law_cell_at := PySem.W.mg_of X Gm a4
      fu_Company_tell := fun_mk (st := s_Company_tell) l5 c5 k5
      me_Company_tell := ⟨a5, i5, k5⟩
      fu_Company_begin := fun_mk (st := s_Company_begin) l6 c6 k6
      me_Company_begin := ⟨a6, i6, k6⟩
      fu_law_mixed := fun_mk (st := s_law_mixed) l7 c7 k7
      gf_law_mixed := PySem.W.mg_of X Gm a7
      fu_Post_under := fun_mk (st := s_Post_under) l8 c8 k8
      me_Post_under := ⟨a8, i8, k8⟩
      fu_Company_under := fun_mk (st := s_Company_under) l9 c9 k9
      me_Company_under := ⟨a9, i9, k9⟩
      fu_Hand_told := fun_mk (st := s_Hand_told) l10 c10 k10
      me_Hand_told := ⟨a10, i10, k10⟩
      fu_Company_one := fun_mk (st := s_Company_one) l11 c11 k11
      me_Company_one := ⟨a11, i11, k11⟩
      fu_Company_hand := fun_mk (st := s_Company_hand) l12 c12 k12
      me_Company_hand := ⟨a12, i12, k12⟩
      fu_law_next := fun_mk (st := s_law_next) l13 c13 k13
      gf_law_next := PySem.W.mg_of X Gm a13
      fu_Company_runs := fun_mk (st := s_Company_runs) l14 c14 k14
      me_Company_runs := ⟨a14, i14, k14⟩
      fu_is_in := fun_mk (st := s_is_in) l15 c15 k15
      gf_is_in := PySem.W.mg_of X Gm a15
      fu_way := fun_mk (st := s_way) l16 c16 k16
      gf_way := PySem.W.mg_of X Gm a16
      fu_debts := fun_mk (st := s_debts) l17 c17 k17
      gf_debts := PySem.W.mg_of X Gm a17
      fu_law_whole := fun_mk (st := s_law_whole) l18 c18 k18
      gf_law_whole := PySem.W.mg_of X Gm a18
      fu_law_alike := fun_mk (st := s_law_alike) l19 c19 k19
      gf_law_alike := PySem.W.mg_of X Gm a19
      fu_law_debts_good := fun_mk (st := s_law_debts_good) l20 c20 k20
      gf_law_debts_good := PySem.W.mg_of X Gm a20
      fu_woken_by := fun_mk (st := s_woken_by) l21 c21 k21
      gf_woken_by := PySem.W.mg_of X Gm a21
      fu_law_woken_due := fun_mk (st := s_law_woken_due) l22 c22 k22
      gf_law_woken_due := PySem.W.mg_of X Gm a22
      fu_law_woken_good := fun_mk (st := s_law_woken_good) l23 c23 k23
      gf_law_woken_good := PySem.W.mg_of X Gm a23
      fu_law_way_good := fun_mk (st := s_law_way_good) l24 c24 k24
      gf_law_way_good := PySem.W.mg_of X Gm a24
      fu_law_good := fun_mk (st := s_law_good) l25 c25 k25
      gf_law_good := PySem.W.mg_of X Gm a25
      fu_law_pieces_by := fun_mk (st := s_law_pieces_by) l26 c26 k26
      gf_law_pieces_by := PySem.W.mg_of X Gm a26
      fu_Post_take := fun_mk (st := s_Post_take) l27 c27 k27
      me_Post_take := ⟨a27, i27, k27⟩
      fu_Hand_leave := fun_mk (st := s_Hand_leave) l28 c28 k28
      me_Hand_leave := ⟨a28, i28, k28⟩
      fu_Hand_is_free := fun_mk (st := s_Hand_is_free) l29 c29 k29
      me_Hand_is_free := ⟨a29, i29, k29⟩
      fu_Post_put := fun_mk (st := s_Post_put) l30 c30 k30
      me_Post_put := ⟨a30, i30, k30⟩
      fu_Company_sent := fun_mk (st := s_Company_sent) l31 c31 k31
      me_Company_sent := ⟨a31, i31, k31⟩
      fu_Company_freed := fun_mk (st := s_Company_freed) l32 c32 k32
      me_Company_freed := ⟨a32, i32, k32⟩
      fu_Company_woken := fun_mk (st := s_Company_woken) l33 c33 k33
      me_Company_woken := ⟨a33, i33, k33⟩
      fu_Company_carry := fun_mk (st := s_Company_carry) l34 c34 k34
      me_Company_carry := ⟨a34, i34, k34⟩
      fu_Company_hand_on := fun_mk (st := s_Company_hand_on) l35 c35 k35
      me_Company_hand_on := ⟨a35, i35, k35⟩
      fu_Company_do := fun_mk (st := s_Company_do) l36 c36 k36
      me_Company_do := ⟨a36, i36, k36⟩
      fu_law_done := fun_mk (st := s_law_done) l37 c37 k37
      gf_law_done := PySem.W.mg_of X Gm a37
      fu_law := fun_mk (st := s_law) l38 c38 k38
      gx_DebtError := PySem.W.mg_of X Gm aX_DebtError
      gx_NoCompany := PySem.W.mg_of X Gm aX_NoCompany
      gx_NoHand := PySem.W.mg_of X Gm aX_NoHand
      gx_NoWork := PySem.W.mg_of X Gm aX_NoWork
      gx_NoPlace := PySem.W.mg_of X Gm aX_NoPlace
      gx_Begun := PySem.W.mg_of X Gm aX_Begun
      xc_Begun := ⟨xq_Begun, PySem.W.mg_of X Gm aX_Begun, xk_Begun, xb_Begun, xt_Begun⟩
      xc_NoCompany := ⟨xq_NoCompany, PySem.W.mg_of X Gm aX_NoCompany, xk_NoCompany, xb_NoCompany, xt_NoCompany⟩
      xc_NoHand := ⟨xq_NoHand, PySem.W.mg_of X Gm aX_NoHand, xk_NoHand, xb_NoHand, xt_NoHand⟩
      xc_NoPlace := ⟨xq_NoPlace, PySem.W.mg_of X Gm aX_NoPlace, xk_NoPlace, xb_NoPlace, xt_NoPlace⟩
      xc_NoWork := ⟨xq_NoWork, PySem.W.mg_of X Gm aX_NoWork, xk_NoWork, xb_NoWork, xt_NoWork⟩ }
  exact ⟨_, fun s v => .of_eq rfl, fun base _ _ => law_ok (ca := A.ca) (F := F_law) (fun a ns => all_j T) math⟩
end DebtJ.Law

open PySem PySem.W PyProof.Rows
set_option maxRecDepth 100000 in
set_option maxHeartbeats 0 in
theorem PySem.Challenge.cw_debttree_k08_debts_and_ways_holds : PySem.Challenge.rw_debttree_k08_debts_and_ways.Holds := by
  w_on; o_law; k_head; (case hw => w_witness2)
  k_fill
  refine DebtJ.walkJ (k := 9) (x := "_law_script") (l := PySem.Challenge.rw_debttree_k08_debts_and_ways) rfl rfl ⟨rfl, by decide, by decide⟩ (fun w h Y => PySem.W.kIn_of Y) ?F
  case F =>
    intro w mg fa h KX G hmg
    refine' DebtJ.Law.all_mk DebtJ.Law.math KX G hmg ?b_all ?b_bool ?b_dict ?b_int ?b_isinstance ?b_len ?b_list ?b_range ?b_set ?b_str ?b_tuple ?g_MOST_HANDS ?g_MOST_PIECES ?aC_Hand ?pg_Hand ?hd_Hand ?po_Hand ?sa_Hand ?mk_Hand ?kc_Hand ?aC_Post ?pg_Post ?hd_Post ?po_Post ?sa_Post ?mk_Post ?kc_Post ?aC_Company ?pg_Company ?hd_Company ?po_Company ?sa_Company ?mk_Company ?kc_Company ?a0 ?l0 ?c0 ?k0 ?a1 ?i1 ?l1 ?c1 ?k1 ?a2 ?i2 ?l2 ?c2 ?k2 ?a3 ?i3 ?l3 ?c3 ?k3 ?a4 ?l4 ?c4 ?k4 ?a5 ?i5 ?l5 ?c5 ?k5 ?a6 ?i6 ?l6 ?c6 ?k6 ?a7 ?l7 ?c7 ?k7 ?a8 ?i8 ?l8 ?c8 ?k8 ?a9 ?i9 ?l9 ?c9 ?k9 ?a10 ?i10 ?l10 ?c10 ?k10 ?a11 ?i11 ?l11 ?c11 ?k11 ?a12 ?i12 ?l12 ?c12 ?k12 ?a13 ?l13 ?c13 ?k13 ?a14 ?i14 ?l14 ?c14 ?k14 ?a15 ?l15 ?c15 ?k15 ?a16 ?l16 ?c16 ?k16 ?a17 ?l17 ?c17 ?k17 ?a18 ?l18 ?c18 ?k18 ?a19 ?l19 ?c19 ?k19 ?a20 ?l20 ?c20 ?k20 ?a21 ?l21 ?c21 ?k21 ?a22 ?l22 ?c22 ?k22 ?a23 ?l23 ?c23 ?k23 ?a24 ?l24 ?c24 ?k24 ?a25 ?l25 ?c25 ?k25 ?a26 ?l26 ?c26 ?k26 ?a27 ?i27 ?l27 ?c27 ?k27 ?a28 ?i28 ?l28 ?c28 ?k28 ?a29 ?i29 ?l29 ?c29 ?k29 ?a30 ?i30 ?l30 ?c30 ?k30 ?a31 ?i31 ?l31 ?c31 ?k31 ?a32 ?i32 ?l32 ?c32 ?k32 ?a33 ?i33 ?l33 ?c33 ?k33 ?a34 ?i34 ?l34 ?c34 ?k34 ?a35 ?i35 ?l35 ?c35 ?k35 ?a36 ?i36 ?l36 ?c36 ?k36 ?a37 ?l37 ?c37 ?k37 ?a38 ?l38 ?c38 ?k38 ?na_crew ?na_post ?na_running ?na_spoken ?na_pieces ?na_tally ?na_unanswered ?na_waker ?na_rows ?aX_DebtError ?aX_NoCompany ?aX_NoHand ?aX_NoWork ?aX_NoPlace ?aX_Begun ?xq_Begun ?xk_Begun ?xq_NoCompany ?xk_NoCompany ?xq_NoHand ?xk_NoHand ?xq_NoPlace ?xk_NoPlace ?xq_NoWork ?xk_NoWork ?xb_NoCompany ?xt_NoCompany ?xb_NoHand ?xt_NoHand ?xb_NoWork ?xt_NoWork ?xb_NoPlace ?xt_NoPlace ?xb_Begun ?xt_Begun
    (case b_all => k_is)
    (case b_bool => k_is)
    (case b_dict => k_is)
    (case b_int => k_is)
    (case b_isinstance => k_is)
    (case b_len => k_is)
    (case b_list => k_is)
    (case b_range => k_is)
    (case b_set => k_is)
    (case b_str => k_is)
    (case b_tuple => k_is)
    (case g_MOST_HANDS => k_is)
    (case g_MOST_PIECES => k_is)
    (case aC_Hand => k_is)
    (case pg_Hand => k_is)
    (case hd_Hand => k_is)
    (case po_Hand => k_is)
    (case sa_Hand => k_is)
    (case mk_Hand => k_is)
    (case kc_Hand => k_is)
    (case aC_Post => k_is)
    (case pg_Post => k_is)
    (case hd_Post => k_is)
    (case po_Post => k_is)
    (case sa_Post => k_is)
    (case mk_Post => k_is)
    (case kc_Post => k_is)
    (case aC_Company => k_is)
    (case pg_Company => k_is)
    (case hd_Company => k_is)
    (case po_Company => k_is)
    (case sa_Company => k_is)
    (case mk_Company => k_is)
    (case kc_Company => k_is)
    (case a0 => k_is)
    (case l0 => k_is)
    (case c0 => k_is)
    (case k0 => k_is)
    (case a1 => k_is)
    (case i1 => k_is)
    (case l1 => k_is)
    (case c1 => k_is)
    (case k1 => k_is)
    (case a2 => k_is)
    (case i2 => k_is)
    (case l2 => k_is)
    (case c2 => k_is)
    (case k2 => k_is)
    (case a3 => k_is)
    (case i3 => k_is)
    (case l3 => k_is)
    (case c3 => k_is)
    (case k3 => k_is)
    (case a4 => k_is)
    (case l4 => k_is)
    (case c4 => k_is)
    (case k4 => k_is)
    (case a5 => k_is)
    (case i5 => k_is)
    (case l5 => k_is)
    (case c5 => k_is)
    (case k5 => k_is)
    (case a6 => k_is)
    (case i6 => k_is)
    (case l6 => k_is)
    (case c6 => k_is)
    (case k6 => k_is)
    (case a7 => k_is)
    (case l7 => k_is)
    (case c7 => k_is)
    (case k7 => k_is)
    (case a8 => k_is)
    (case i8 => k_is)
    (case l8 => k_is)
    (case c8 => k_is)
    (case k8 => k_is)
    (case a9 => k_is)
    (case i9 => k_is)
    (case l9 => k_is)
    (case c9 => k_is)
    (case k9 => k_is)
    (case a10 => k_is)
    (case i10 => k_is)
    (case l10 => k_is)
    (case c10 => k_is)
    (case k10 => k_is)
    (case a11 => k_is)
    (case i11 => k_is)
    (case l11 => k_is)
    (case c11 => k_is)
    (case k11 => k_is)
    (case a12 => k_is)
    (case i12 => k_is)
    (case l12 => k_is)
    (case c12 => k_is)
    (case k12 => k_is)
    (case a13 => k_is)
    (case l13 => k_is)
    (case c13 => k_is)
    (case k13 => k_is)
    (case a14 => k_is)
    (case i14 => k_is)
    (case l14 => k_is)
    (case c14 => k_is)
    (case k14 => k_is)
    (case a15 => k_is)
    (case l15 => k_is)
    (case c15 => k_is)
    (case k15 => k_is)
    (case a16 => k_is)
    (case l16 => k_is)
    (case c16 => k_is)
    (case k16 => k_is)
    (case a17 => k_is)
    (case l17 => k_is)
    (case c17 => k_is)
    (case k17 => k_is)
    (case a18 => k_is)
    (case l18 => k_is)
    (case c18 => k_is)
    (case k18 => k_is)
    (case a19 => k_is)
    (case l19 => k_is)
    (case c19 => k_is)
    (case k19 => k_is)
    (case a20 => k_is)
    (case l20 => k_is)
    (case c20 => k_is)
    (case k20 => k_is)
    (case a21 => k_is)
    (case l21 => k_is)
    (case c21 => k_is)
    (case k21 => k_is)
    (case a22 => k_is)
    (case l22 => k_is)
    (case c22 => k_is)
    (case k22 => k_is)
    (case a23 => k_is)
    (case l23 => k_is)
    (case c23 => k_is)
    (case k23 => k_is)
    (case a24 => k_is)
    (case l24 => k_is)
    (case c24 => k_is)
    (case k24 => k_is)
    (case a25 => k_is)
    (case l25 => k_is)
    (case c25 => k_is)
    (case k25 => k_is)
    (case a26 => k_is)
    (case l26 => k_is)
    (case c26 => k_is)
    (case k26 => k_is)
    (case a27 => k_is)
    (case i27 => k_is)
    (case l27 => k_is)
    (case c27 => k_is)
    (case k27 => k_is)
    (case a28 => k_is)
    (case i28 => k_is)
    (case l28 => k_is)
    (case c28 => k_is)
    (case k28 => k_is)
    (case a29 => k_is)
    (case i29 => k_is)
    (case l29 => k_is)
    (case c29 => k_is)
    (case k29 => k_is)
    (case a30 => k_is)
    (case i30 => k_is)
    (case l30 => k_is)
    (case c30 => k_is)
    (case k30 => k_is)
    (case a31 => k_is)
    (case i31 => k_is)
    (case l31 => k_is)
    (case c31 => k_is)
    (case k31 => k_is)
    (case a32 => k_is)
    (case i32 => k_is)
    (case l32 => k_is)
    (case c32 => k_is)
    (case k32 => k_is)
    (case a33 => k_is)
    (case i33 => k_is)
    (case l33 => k_is)
    (case c33 => k_is)
    (case k33 => k_is)
    (case a34 => k_is)
    (case i34 => k_is)
    (case l34 => k_is)
    (case c34 => k_is)
    (case k34 => k_is)
    (case a35 => k_is)
    (case i35 => k_is)
    (case l35 => k_is)
    (case c35 => k_is)
    (case k35 => k_is)
    (case a36 => k_is)
    (case i36 => k_is)
    (case l36 => k_is)
    (case c36 => k_is)
    (case k36 => k_is)
    (case a37 => k_is)
    (case l37 => k_is)
    (case c37 => k_is)
    (case k37 => k_is)
    (case a38 => k_is)
    (case l38 => k_is)
    (case c38 => k_is)
    (case k38 => k_is)
    (case na_crew => k_is)
    (case na_post => k_is)
    (case na_running => k_is)
    (case na_spoken => k_is)
    (case na_pieces => k_is)
    (case na_tally => k_is)
    (case na_unanswered => k_is)
    (case na_waker => k_is)
    (case na_rows => k_is)
    (case aX_DebtError => k_is)
    (case aX_NoCompany => k_is)
    (case aX_NoHand => k_is)
    (case aX_NoWork => k_is)
    (case aX_NoPlace => k_is)
    (case aX_Begun => k_is)
    (case xq_Begun => k_exc)
    (case xk_Begun => k_is)
    (case xq_NoCompany => k_exc)
    (case xk_NoCompany => k_is)
    (case xq_NoHand => k_exc)
    (case xk_NoHand => k_is)
    (case xq_NoPlace => k_exc)
    (case xk_NoPlace => k_is)
    (case xq_NoWork => k_exc)
    (case xk_NoWork => k_is)
    (case xb_NoCompany => k_is)
    (case xt_NoCompany => k_is)
    (case xb_NoHand => k_is)
    (case xt_NoHand => k_is)
    (case xb_NoWork => k_is)
    (case xt_NoWork => k_is)
    (case xb_NoPlace => k_is)
    (case xt_NoPlace => k_is)
    (case xb_Begun => k_is)
    (case xt_Begun => k_is)
#print axioms PySem.Challenge.cw_debttree_k08_debts_and_ways_holds
