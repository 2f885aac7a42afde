import PyProof.Rows.All
import Wide.All
import OpenK.AllK
import Wide.FinOn
import KE.KStateDown
import HandS.ForMost
import HandS.ForExc
import HandS.More
import HandS.Wide
import HandS.WideBits
import HandS.IsInst
import HandS.Flow
import HandS.Style
import HandS.Defaults
import HandS.SortInts
import HandS.TupAny
import HandS.TupMul
import HandS.Head0
import HandS.Head1
import HandS.Head2
import HandS.HeadEnd
import HandS.HeadHook1
import HandS.HeadHook2
import HandS.Zip
import KE.GoesEnum
import PySem.Challenge.RW_slopesumskept_k07_fractions_and_binomial
set_option Elab.async false
set_option linter.all false
set_option maxRecDepth 100000
set_option maxHeartbeats 4000000
set_option autoImplicit false
set_option exponentiation.threshold 10000
/-! data layer: values without addresses over the hand layer -/
namespace DL
open PySem PySem.Spec PyProof.Rows L2

inductive D where
  | non | bl (b : Bool) | int (i : Int) | str (x : Str) | ref (a : Addr) | ty (n : String) | tup (ds : List D) | kl (ds : List D)

/-- a list that never changes: locked, or of the written part -/
def SqK (K : PySem.W.Frag) (H : Hp) (a : Addr) (xs : List V) : Prop := (∃ o, H a = some (.frz o (.lst xs))) ∨
  ∃ (o : Obj) (its : Array Value) (n : Nat), K.lookup a = some o ∧ o.cls = .type "list" ∧ o.dict = none ∧ o.data = .seq its n ∧ its.size ≤ sizeLine ∧ Vals xs its.toList
theorem SqK.sq {K : PySem.W.Frag} {H : Hp} {a : Addr} {xs : List V} (h : SqK K H a xs) : SqL K H a xs := h.elim (fun ⟨o, h⟩ => .inl (.inr ⟨o, h⟩)) .inr
mutual
inductive Rep (K : PySem.W.Frag) (H : Hp) : V → D → Prop
  | non : Rep K H .non .non
  | bl (b : Bool) : Rep K H (.bl b) (.bl b)
  | int (i : Int) : Rep K H (.int i) (.int i)
  | str (x : Str) : Rep K H (.str x) (.str x)
  | ref (a : Addr) : Rep K H (.ref a) (.ref a)
  | ty (n : String) : Rep K H (.ty n) (.ty n)
  | tup {a : Addr} {xs : List V} {ds : List D} (h : SqT K H a xs) (r : Reps K H xs ds) : Rep K H (.ref a) (.tup ds)
  | kl {a : Addr} {xs : List V} {ds : List D} (h : SqK K H a xs) (r : Reps K H xs ds) : Rep K H (.ref a) (.kl ds)
inductive Reps (K : PySem.W.Frag) (H : Hp) : List V → List D → Prop
  | nil : Reps K H [] []
  | cons {v : V} {vs : List V} {d : D} {ds : List D} (h : Rep K H v d) (r : Reps K H vs ds) : Reps K H (v :: vs) (d :: ds)
end

/-- what the heap keeps of tuples and of locked things -/
structure Keep (H H' : Hp) : Prop where
  tup : ∀ a xs, H a = some (.tup xs) → H' a = some (.tup xs)
  frz : ∀ a o u, H a = some (.frz o u) → H' a = some (.frz o u)
theorem Keep.refl (H : Hp) : Keep H H := ⟨fun _ _ h => h, fun _ _ _ h => h⟩
theorem Keep.trans {H H1 H2 : Hp} (a : Keep H H1) (b : Keep H1 H2) : Keep H H2 :=
  ⟨fun p xs h => b.tup p xs (a.tup p xs h), fun p o u h => b.frz p o u (a.frz p o u h)⟩
theorem Keep.new {H : Hp} {p : Addr} {o : HO} (h : H p = none) : Keep H (upd H p o) :=
  ⟨fun a xs e => by rw [upd_ne (ne_of_none e h)]; exact e, fun a ob u e => by rw [upd_ne (ne_of_none e h)]; exact e⟩
theorem Keep.mut {H : Hp} {p : Addr} {o : HO} (h : Mut (H p)) : Keep H (upd H p o) :=
  ⟨fun a xs e => by rw [upd_ne (fun z => by subst z; rw [e] at h; exact h)]; exact e,
   fun a ob u e => by rw [upd_ne (fun z => by subst z; rw [e] at h; exact h)]; exact e⟩
theorem Keep.same {H H' : Hp} (h : Same H H') : Keep H H' := ⟨fun a xs e => h _ _ e, fun a o u e => h _ _ e⟩

section
variable {K : PySem.W.Frag} {H H' : Hp}
theorem SqT.keep {a : Addr} {xs : List V} (k : Keep H H') (h : SqT K H a xs) : SqT K H' a xs := by
  rcases h with (h | ⟨o, h⟩) | h
  · exact .inl (.inl (k.tup _ _ h))
  · exact .inl (.inr ⟨o, k.frz _ _ _ h⟩)
  · exact .inr h
theorem SqK.keep {a : Addr} {xs : List V} (k : Keep H H') (h : SqK K H a xs) : SqK K H' a xs := by
  rcases h with ⟨o, h⟩ | h
  · exact .inl ⟨o, k.frz _ _ _ h⟩
  · exact .inr h
mutual
theorem Rep.keep (k : Keep H H') : ∀ {v : V} {d : D}, Rep K H v d → Rep K H' v d
  | _, _, .non => .non
  | _, _, .bl b => .bl b
  | _, _, .int i => .int i
  | _, _, .str x => .str x
  | _, _, .ref a => .ref a
  | _, _, .ty n => .ty n
  | _, _, .tup h r => .tup (SqT.keep k h) (Reps.keep k r)
  | _, _, .kl h r => .kl (SqK.keep k h) (Reps.keep k r)
theorem Reps.keep (k : Keep H H') : ∀ {vs : List V} {ds : List D}, Reps K H vs ds → Reps K H' vs ds
  | _, _, .nil => .nil
  | _, _, .cons h r => .cons (Rep.keep k h) (Reps.keep k r)
end
theorem Reps.length : ∀ {vs : List V} {ds : List D}, Reps K H vs ds → vs.length = ds.length
  | _, _, .nil => rfl
  | _, _, .cons _ r => congrArg (· + 1) (Reps.length r)
theorem Reps.append : ∀ {vs ws : List V} {ds es : List D}, Reps K H vs ds → Reps K H ws es → Reps K H (vs ++ ws) (ds ++ es)
  | _, _, _, _, .nil, s => s
  | _, _, _, _, .cons h r, s => .cons h (Reps.append r s)
theorem Reps.get : ∀ {vs : List V} {ds : List D}, Reps K H vs ds → ∀ {i : Nat} {d : D}, ds[i]? = some d → ∃ v, vs[i]? = some v ∧ Rep K H v d
  | _, _, .nil, i, d, e => by simp at e
  | _, _, .cons h r, 0, d, e => by simp at e; subst e; exact ⟨_, rfl, h⟩
  | _, _, .cons h r, i + 1, d, e => by
    obtain ⟨v, e1, r1⟩ := Reps.get r (i := i) (d := d) (by simpa using e)
    exact ⟨v, by simpa using e1, r1⟩
theorem Reps.get' : ∀ {vs : List V} {ds : List D}, Reps K H vs ds → ∀ {i : Nat} {v : V}, vs[i]? = some v → ∃ d, ds[i]? = some d ∧ Rep K H v d
  | _, _, .nil, i, d, e => by simp at e
  | _, _, .cons h r, 0, d, e => by simp at e; subst e; exact ⟨_, rfl, h⟩
  | _, _, .cons h r, i + 1, d, e => by
    obtain ⟨v, e1, r1⟩ := Reps.get' r (i := i) (v := d) (by simpa using e)
    exact ⟨v, by simpa using e1, r1⟩
theorem Reps.take : ∀ {vs : List V} {ds : List D} (n : Nat), Reps K H vs ds → Reps K H (vs.take n) (ds.take n)
  | _, _, 0, _ => .nil
  | _, _, _ + 1, .nil => .nil
  | _, _, n + 1, .cons h r => .cons h (Reps.take n r)
theorem Reps.drop : ∀ {vs : List V} {ds : List D} (n : Nat), Reps K H vs ds → Reps K H (vs.drop n) (ds.drop n)
  | _, _, 0, h => h
  | _, _, _ + 1, .nil => .nil
  | _, _, n + 1, .cons h r => Reps.drop n r
theorem Reps.set : ∀ {vs : List V} {ds : List D} (i : Nat) {v : V} {d : D}, Rep K H v d → Reps K H vs ds → Reps K H (vs.set i v) (ds.set i d)
  | _, _, _, _, _, _, .nil => .nil
  | _, _, 0, _, _, q, .cons _ r => .cons q r
  | _, _, i + 1, _, _, q, .cons h r => .cons h (Reps.set i q r)
theorem Reps.reverse {vs : List V} {ds : List D} (h : Reps K H vs ds) : Reps K H vs.reverse ds.reverse := by
  induction vs generalizing ds with
  | nil => cases h; exact .nil
  | cons v vs ih =>
    cases h with
    | cons h r => rw [List.reverse_cons, List.reverse_cons]; exact (ih r).append (.cons h .nil)
theorem Reps.eraseIdx : ∀ {vs : List V} {ds : List D} (i : Nat), Reps K H vs ds → Reps K H (vs.eraseIdx i) (ds.eraseIdx i)
  | _, _, _, .nil => .nil
  | _, _, 0, .cons _ r => r
  | _, _, i + 1, .cons h r => .cons h (Reps.eraseIdx i r)
theorem Reps.dropLast {vs : List V} {ds : List D} (h : Reps K H vs ds) : Reps K H vs.dropLast ds.dropLast := by
  rw [List.dropLast_eq_take, List.dropLast_eq_take, h.length]; exact h.take _
theorem Reps.ints : ∀ {vs : List V} {ns : List Int}, Reps K H vs (ns.map D.int) → vs = ns.map V.int
  | vs, [], h => by cases h; rfl
  | vs, n :: ns, h => by
    cases h with
    | cons h r => cases h; rw [Reps.ints r]; rfl
theorem Reps.of_ints : ∀ ns : List Int, Reps K H (ns.map V.int) (ns.map D.int)
  | [] => .nil
  | n :: ns => .cons (.int n) (Reps.of_ints ns)
theorem Reps.strs : ∀ {vs : List V} {ns : List Str}, Reps K H vs (ns.map D.str) → vs = ns.map V.str
  | vs, [], h => by cases h; rfl
  | vs, n :: ns, h => by
    cases h with
    | cons h r => cases h; rw [Reps.strs r]; rfl
theorem Reps.of_strs : ∀ ns : List Str, Reps K H (ns.map V.str) (ns.map D.str)
  | [] => .nil
  | n :: ns => .cons (.str n) (Reps.of_strs ns)
theorem Reps.bls : ∀ {vs : List V} {ns : List Bool}, Reps K H vs (ns.map D.bl) → vs = ns.map V.bl
  | vs, [], h => by cases h; rfl
  | vs, n :: ns, h => by
    cases h with
    | cons h r => cases h; rw [Reps.bls r]; rfl
end

/-! ### the store of what changes -/
inductive MO where
  | lst (ds : List D)
  | dK (kvs : List (Key × D))
  | dT (kvs : List (List Key × D))
  | ins (C dx : Addr) (fs : List (Str × D))
abbrev Mem := Addr → Option MO
def mupd (M : Mem) (a : Addr) (o : MO) : Mem := fun b => if b = a then some o else M b
theorem mupd_same {M : Mem} {a : Addr} {o : MO} : mupd M a o a = some o := by unfold mupd; rw [if_pos rfl]
theorem mupd_ne {M : Mem} {a b : Addr} {o : MO} (h : b ≠ a) : mupd M a o b = M b := by unfold mupd; rw [if_neg h]
theorem mupd_mupd {M : Mem} {a : Addr} {o u : MO} : mupd (mupd M a o) a u = mupd M a u := by
  funext b; unfold mupd; split <;> rfl
theorem mupd_self {M : Mem} {a : Addr} {o : MO} (h : M a = some o) : mupd M a o = M := by
  funext b; unfold mupd; split
  · rename_i e; subst e; exact h.symm
  · rfl
theorem mupd_comm {M : Mem} {a b : Addr} {o u : MO} (h : a ≠ b) : mupd (mupd M a o) b u = mupd (mupd M b u) a o := by
  funext c; unfold mupd; split
  · rename_i e; subst e; rw [if_neg (Ne.symm h)]
  · rfl
def Sub (M M' : Mem) : Prop := ∀ a o, M a = some o → M' a = some o
theorem Sub.refl (M : Mem) : Sub M M := fun _ _ h => h
theorem Sub.trans {M M1 M2 : Mem} (a : Sub M M1) (b : Sub M1 M2) : Sub M M2 := fun p o h => b p o (a p o h)
theorem Sub.new {M : Mem} {p : Addr} {o : MO} (h : M p = none) : Sub M (mupd M p o) := fun a u e => by
  rw [mupd_ne (fun z => by subst z; rw [e] at h; cases h)]; exact e
theorem Sub.upd {M M' : Mem} {p : Addr} {o : MO} (h : Sub M M') : Sub (mupd M p o) (mupd M' p o) := fun a u e => by
  by_cases z : a = p
  · subst z; rw [mupd_same] at e ⊢; exact e
  · rw [mupd_ne z] at e ⊢; exact h _ _ e
theorem Sub.new' {M M' : Mem} {p : Addr} {o : MO} (s : Sub M M') (h : M p = none) : Sub M (mupd M' p o) := fun a u e => by
  rw [mupd_ne (fun z => by subst z; rw [e] at h; cases h)]; exact s _ _ e
theorem Sub.free {M M' : Mem} {p : Addr} (s : Sub M M') (h : M' p = none) : M p = none := by
  cases e : M p with
  | none => rfl
  | some o => rw [s p o e] at h; cases h

section
variable {K : PySem.W.Frag} {H H' : Hp}
def RKV {κ : Type} (K : PySem.W.Frag) (H : Hp) (kvs : List (κ × V)) (kds : List (κ × D)) : Prop := kvs.map (·.1) = kds.map (·.1) ∧ Reps K H (kvs.map (·.2)) (kds.map (·.2))
theorem RKV.keep {κ : Type} {kvs : List (κ × V)} {kds : List (κ × D)} (k : Keep H H') (h : RKV K H kvs kds) : RKV K H' kvs kds := ⟨h.1, h.2.keep k⟩
def RO (K : PySem.W.Frag) (H : Hp) (o : Option HO) : MO → Prop
  | .lst ds => ∃ xs, o = some (.lst xs) ∧ Reps K H xs ds
  | .dK kds => ∃ kvs, o = some (.dK kvs) ∧ RKV K H kvs kds
  | .dT kds => ∃ kvs, o = some (.dT kvs) ∧ RKV K H kvs kds
  | .ins C dx fs => ∃ fvs, o = some (.ins C dx fvs) ∧ RKV K H fvs fs
theorem RO.keep {o : Option HO} {m : MO} (k : Keep H H') (h : RO K H o m) : RO K H' o m := by
  cases m with
  | lst ds => obtain ⟨xs, e, r⟩ := h; exact ⟨xs, e, r.keep k⟩
  | dK ds => obtain ⟨xs, e, r⟩ := h; exact ⟨xs, e, r.keep k⟩
  | dT ds => obtain ⟨xs, e, r⟩ := h; exact ⟨xs, e, r.keep k⟩
  | ins C dx fs => obtain ⟨xs, e, r⟩ := h; exact ⟨xs, e, r.keep k⟩
theorem RO.some {o : Option HO} {m : MO} (h : RO K H o m) : ∃ u, o = some u := by
  cases m with
  | lst ds => obtain ⟨xs, e, r⟩ := h; exact ⟨_, e⟩
  | dK ds => obtain ⟨xs, e, r⟩ := h; exact ⟨_, e⟩
  | dT ds => obtain ⟨xs, e, r⟩ := h; exact ⟨_, e⟩
  | ins C dx fs => obtain ⟨xs, e, r⟩ := h; exact ⟨_, e⟩
/-- the store tells what the heap holds -/
def RM (K : PySem.W.Frag) (H : Hp) (M : Mem) : Prop := ∀ a m, M a = some m → RO K H (H a) m
theorem RM.sub {M M' : Mem} (s : Sub M M') (h : RM K H M') : RM K H M := fun a m e => h a m (s a m e)
theorem RM.free {M : Mem} {p : Addr} (h : RM K H M) (e : H p = none) : M p = none := by
  cases q : M p with
  | none => rfl
  | some m => obtain ⟨u, z⟩ := (h p m q).some; rw [e] at z; cases z
theorem RM.new {M : Mem} {p : Addr} {o : HO} {m : MO} (h : RM K H M) (e : H p = none) (n : RO K (upd H p o) (some o) m) : RM K (upd H p o) (mupd M p m) := fun a u q => by
  by_cases z : a = p
  · subst z; rw [mupd_same] at q; cases q; rw [upd_same]; exact n
  · rw [mupd_ne z] at q; rw [upd_ne z]; exact (h a u q).keep (Keep.new e)
theorem RM.fresh {M : Mem} {p : Addr} {o : HO} (h : RM K H M) (e : H p = none) : RM K (upd H p o) M := fun a u q => by
  have z : a ≠ p := fun z => by subst z; rw [h.free e] at q; cases q
  rw [upd_ne z]; exact (h a u q).keep (Keep.new e)
theorem RM.write {M : Mem} {p : Addr} {o : HO} {m : MO} (h : RM K H M) (e : Mut (H p)) (n : RO K (upd H p o) (some o) m) : RM K (upd H p o) (mupd M p m) := fun a u q => by
  by_cases z : a = p
  · subst z; rw [mupd_same] at q; cases q; rw [upd_same]; exact n
  · rw [mupd_ne z] at q; rw [upd_ne z]; exact (h a u q).keep (Keep.mut e)
theorem RM.lst {M : Mem} {a : Addr} {ds : List D} (h : RM K H M) (e : M a = some (.lst ds)) : ∃ xs, H a = some (.lst xs) ∧ Reps K H xs ds := h a _ e
end

/-! ### readings over data -/
abbrev DS := List (Option D)
abbrev DQ := D → Mem → Prop
abbrev DTE := DS → Mem → DQ → Prop
abbrev DTT := DS → Mem → (Bool → Mem → Prop) → Prop
abbrev DTA := DS → Mem → (List D → Mem → Prop) → Prop
structure DEnds where
  nx : DS → Mem → Prop
  rt : DQ
  bk : DS → Mem → Prop := fun _ _ => False
  ct : DS → Mem → Prop := fun _ _ => False
abbrev DTS := DEnds → DS → Mem → Prop
abbrev DTG := D → DS → Mem → (DS → Mem → Prop) → Prop
abbrev DTGs := List D → DS → Mem → (DS → Mem → Prop) → Prop

structure RS (K : PySem.W.Frag) (H : Hp) (σ : L2.St) (τ : DS) : Prop where
  len : σ.length = τ.length
  get : ∀ (i : Nat) (d : D), τ[i]? = some (some d) → ∃ v, σ[i]? = some (some v) ∧ Rep K H v d
theorem RS.keep {K : PySem.W.Frag} {H H' : Hp} {σ : L2.St} {τ : DS} (k : Keep H H') (h : RS K H σ τ) : RS K H' σ τ :=
  ⟨h.len, fun i d e => let ⟨v, e1, r⟩ := h.get i d e; ⟨v, e1, r.keep k⟩⟩
theorem RS.set {K : PySem.W.Frag} {H : Hp} {σ : L2.St} {τ : DS} {v : V} {d : D} (i : Nat) (h : RS K H σ τ) (r : Rep K H v d) : RS K H (σ.set i (some v)) (τ.set i (some d)) := by
  refine ⟨by rw [List.length_set, List.length_set]; exact h.len, fun j e q => ?_⟩
  by_cases z : i = j
  · subst z
    by_cases hl : i < τ.length
    · rw [List.getElem?_set_self hl] at q
      cases q
      exact ⟨v, by rw [List.getElem?_set_self (by rw [h.len]; exact hl)], r⟩
    · rw [List.getElem?_eq_none (by rw [List.length_set]; omega)] at q; cases q
  · rw [List.getElem?_set_ne z] at q
    obtain ⟨w, e1, r1⟩ := h.get j e q
    exact ⟨w, by rw [List.getElem?_set_ne z]; exact e1, r1⟩
theorem RS.forget {K : PySem.W.Frag} {H : Hp} {σ : L2.St} {τ : DS} (i : Nat) (h : RS K H σ τ) : RS K H (σ.set i none) (τ.set i none) := by
  refine ⟨by rw [List.length_set, List.length_set]; exact h.len, fun j e q => ?_⟩
  by_cases z : i = j
  · subst z
    by_cases hl : i < τ.length
    · rw [List.getElem?_set_self hl] at q; cases q
    · rw [List.getElem?_eq_none (by rw [List.length_set]; omega)] at q; cases q
  · rw [List.getElem?_set_ne z] at q
    obtain ⟨w, e1, r1⟩ := h.get j e q
    exact ⟨w, by rw [List.getElem?_set_ne z]; exact e1, r1⟩
def dwipe (τ : DS) : List Nat → DS
  | [] => τ
  | v :: vs => (dwipe τ vs).set v none
theorem RS.wipe {K : PySem.W.Frag} {H : Hp} {σ : L2.St} {τ : DS} (h : RS K H σ τ) : ∀ vs : List Nat, RS K H (wipe σ vs) (dwipe τ vs)
  | [] => h
  | v :: vs => (RS.wipe h vs).forget v

structure MonoE (t : DTE) : Prop where
  go : ∀ {τ : DS} {M : Mem} {Q Q' : DQ}, (∀ d M', Q d M' → Q' d M') → t τ M Q → t τ M Q'
structure MonoT (t : DTT) : Prop where
  go : ∀ {τ : DS} {M : Mem} {Q Q' : Bool → Mem → Prop}, (∀ d M', Q d M' → Q' d M') → t τ M Q → t τ M Q'
structure MonoA (t : DTA) : Prop where
  go : ∀ {τ : DS} {M : Mem} {Q Q' : List D → Mem → Prop}, (∀ d M', Q d M' → Q' d M') → t τ M Q → t τ M Q'
structure DEnds.Imp (E E' : DEnds) : Prop where
  nx : ∀ τ M, E.nx τ M → E'.nx τ M
  rt : ∀ d M, E.rt d M → E'.rt d M
  bk : ∀ τ M, E.bk τ M → E'.bk τ M
  ct : ∀ τ M, E.ct τ M → E'.ct τ M
structure MonoS (t : DTS) : Prop where
  go : ∀ {E E' : DEnds} {τ : DS} {M : Mem}, E.Imp E' → t E τ M → t E' τ M
structure MonoG (t : DTG) : Prop where
  go : ∀ {d : D} {τ : DS} {M : Mem} {Q Q' : DS → Mem → Prop}, (∀ τ M, Q τ M → Q' τ M) → t d τ M Q → t d τ M Q'
structure MonoGs (t : DTGs) : Prop where
  go : ∀ {ds : List D} {τ : DS} {M : Mem} {Q Q' : DS → Mem → Prop}, (∀ τ M, Q τ M → Q' τ M) → t ds τ M Q → t ds τ M Q'

/-- the reading over the heap -/
def upE (K : PySem.W.Frag) (t : DTE) : TE := fun σ H Q => ∃ τ M, RS K H σ τ ∧ RM K H M ∧ t τ M (fun d M' => ∀ v H', Keep H H' → Rep K H' v d → RM K H' M' → Q v H')
def upT (K : PySem.W.Frag) (t : DTT) : TT := fun σ H Q => ∃ τ M, RS K H σ τ ∧ RM K H M ∧ t τ M (fun b M' => ∀ H', Keep H H' → RM K H' M' → Q b H')
def upA (K : PySem.W.Frag) (t : DTA) : TA := fun σ H Q => ∃ τ M, RS K H σ τ ∧ RM K H M ∧ t τ M (fun ds M' => ∀ vs H', Keep H H' → Reps K H' vs ds → RM K H' M' → Q vs H')
/-- data ends under heap ends -/
structure EndR (K : PySem.W.Frag) (H : Hp) (E : DEnds) (D : Ends) : Prop where
  nx : ∀ τ M σ H', E.nx τ M → Keep H H' → RS K H' σ τ → RM K H' M → D.nx σ H'
  rt : ∀ d M v H', E.rt d M → Keep H H' → Rep K H' v d → RM K H' M → D.rt v H'
  bk : ∀ τ M σ H', E.bk τ M → Keep H H' → RS K H' σ τ → RM K H' M → D.bk σ H'
  ct : ∀ τ M σ H', E.ct τ M → Keep H H' → RS K H' σ τ → RM K H' M → D.ct σ H'
theorem EndR.keep {K : PySem.W.Frag} {H H' : Hp} {E : DEnds} {D : Ends} (k : Keep H H') (h : EndR K H E D) : EndR K H' E D :=
  ⟨fun τ M σ H2 q k2 => h.nx τ M σ H2 q (k.trans k2), fun d M v H2 q k2 => h.rt d M v H2 q (k.trans k2), fun τ M σ H2 q k2 => h.bk τ M σ H2 q (k.trans k2), fun τ M σ H2 q k2 => h.ct τ M σ H2 q (k.trans k2)⟩
def upS (K : PySem.W.Frag) (t : DTS) : TS := fun D σ H => ∃ τ M E, RS K H σ τ ∧ RM K H M ∧ EndR K H E D ∧ t E τ M
def upG (K : PySem.W.Frag) (t : DTG) : TG := fun v σ H Q => ∃ d τ M, Rep K H v d ∧ RS K H σ τ ∧ RM K H M ∧ t d τ M (fun τ' M' => ∀ σ' H', Keep H H' → RS K H' σ' τ' → RM K H' M' → Q σ' H')
def upGs (K : PySem.W.Frag) (t : DTGs) : TGs := fun vs σ H Q => ∃ ds τ M, Reps K H vs ds ∧ RS K H σ τ ∧ RM K H M ∧ t ds τ M (fun τ' M' => ∀ σ' H', Keep H H' → RS K H' σ' τ' → RM K H' M' → Q σ' H')

structure DE (X : Cx) (e : Expr) (t : DTE) : Prop where
  pe : PE X e (upE X.K t)
  mono : MonoE t
structure DT (X : Cx) (e : Expr) (t : DTT) : Prop where
  pt : PT X e (upT X.K t)
  mono : MonoT t
structure DW (X : Cx) (e : Expr) (t : DTT) : Prop where
  pw : PW X e (upT X.K t)
  mono : MonoT t
structure DA (X : Cx) (es : List Expr) (t : DTA) : Prop where
  pa : PA X es (upA X.K t)
  mono : MonoA t
structure DSt (X : Cx) (s : Stmt) (t : DTS) : Prop where
  ps : PS X s (upS X.K t)
  mono : MonoS t
structure DSs (X : Cx) (s : List Stmt) (t : DTS) : Prop where
  pss : PSs X s (upS X.K t)
  mono : MonoS t
structure DG (X : Cx) (e : Expr) (t : DTG) : Prop where
  pg : PG X e (upG X.K t)
  mono : MonoG t
structure DGs (X : Cx) (es : List Expr) (t : DTGs) : Prop where
  pgs : PGs X es (upGs X.K t)
  mono : MonoGs t

section
variable {X : Cx}
theorem PEimp {e : Expr} {t t' : TE} (h : PE X e t) (i : ∀ σ H Q, t' σ H Q → t σ H Q) : PE X e t' := ⟨fun pins s σ H Q I q => h.run pins s σ H Q I (i _ _ _ q)⟩
theorem PTimp {e : Expr} {t t' : TT} (h : PT X e t) (i : ∀ σ H Q, t' σ H Q → t σ H Q) : PT X e t' := ⟨fun pins s σ H Q I q => h.run pins s σ H Q I (i _ _ _ q)⟩
theorem PWimp {e : Expr} {t t' : TT} (h : PW X e t) (i : ∀ σ H Q, t' σ H Q → t σ H Q) : PW X e t' := ⟨fun wh pins s σ H Q I q => h.run wh pins s σ H Q I (i _ _ _ q)⟩
theorem PAimp {e : List Expr} {t t' : TA} (h : PA X e t) (i : ∀ σ H Q, t' σ H Q → t σ H Q) : PA X e t' := ⟨fun pos pins s σ H Q I q => h.run pos pins s σ H Q I (i _ _ _ q)⟩
theorem PSimp {e : Stmt} {t t' : TS} (h : PS X e t) (i : ∀ D σ H, t' D σ H → t D σ H) : PS X e t' := ⟨fun pins s σ H D I q => h.run pins s σ H D I (i _ _ _ q)⟩
theorem PSsimp {e : List Stmt} {t t' : TS} (h : PSs X e t) (i : ∀ D σ H, t' D σ H → t D σ H) : PSs X e t' := ⟨fun pins s σ H D I q => h.run pins s σ H D I (i _ _ _ q)⟩
theorem PGimp {e : Expr} {t t' : TG} (h : PG X e t) (i : ∀ v σ H Q, t' v σ H Q → t v σ H Q) : PG X e t' := ⟨fun pins s σ H v u Q I r q => h.run pins s σ H v u Q I r (i _ _ _ _ q)⟩
theorem PGsimp {e : List Expr} {t t' : TGs} (h : PGs X e t) (i : ∀ v σ H Q, t' v σ H Q → t v σ H Q) : PGs X e t' := ⟨fun pins s σ H v u Q I r q => h.run pins s σ H v u Q I r (i _ _ _ _ q)⟩
end
end DL

namespace DL
open PySem PySem.Spec PyProof.Rows L2

def dget : DS → Nat → Option D
  | [], _ => none
  | x :: _, 0 => x
  | _ :: r, n + 1 => dget r n
theorem dget_eq : ∀ (τ : DS) (i : Nat) (d : D), dget τ i = some d → τ[i]? = some (some d)
  | [], _, _, h => by cases h
  | x :: _, 0, d, h => by simp [dget] at h; simp [h]
  | _ :: r, n + 1, d, h => by simpa using dget_eq r n d h
def dset : DS → Nat → D → DS
  | [], _, _ => []
  | _ :: r, 0, d => some d :: r
  | x :: r, n + 1, d => x :: dset r n d
theorem dset_eq : ∀ (τ : DS) (i : Nat) (d : D), dset τ i d = τ.set i (some d)
  | [], _, _ => rfl
  | _ :: _, 0, _ => rfl
  | x :: r, n + 1, d => by rw [dset, dset_eq r n d]; rfl
def dclr : DS → Nat → DS
  | [], _ => []
  | _ :: r, 0 => none :: r
  | x :: r, n + 1 => x :: dclr r n
theorem dclr_eq : ∀ (τ : DS) (i : Nat), dclr τ i = τ.set i none
  | [], _ => rfl
  | _ :: _, 0 => rfl
  | x :: r, n + 1 => by rw [dclr, dclr_eq r n]; rfl
/-- the slots of a comprehension's own names forgotten -/
def dwp (τ : DS) : List Nat → DS
  | [] => τ
  | v :: vs => dclr (dwp τ vs) v
theorem dwp_eq (τ : DS) : ∀ vs, dwp τ vs = dwipe τ vs
  | [] => rfl
  | v :: vs => by rw [dwp, dclr_eq, dwp_eq τ vs]; rfl

section
variable {X : Cx}
/-! ### names, constants -/
def dVar (i : Nat) : DTE := fun τ M Q => match dget τ i with
  | some d => Q d M
  | none => False
def dC (d : D) : DTE := fun _ M Q => Q d M
theorem de_of {e : Expr} {t : TE} {td : DTE} (h : PE X e t) (mono : ∀ {τ : DS} {M : Mem} {Q Q' : DQ}, (∀ d M', Q d M' → Q' d M') → td τ M Q → td τ M Q') (i : ∀ (σ : L2.St) (H : Hp) (Q : VK) (τ : DS) (M : Mem), RS X.K H σ τ → RM X.K H M → td τ M (fun d M' => ∀ v H', Keep H H' → Rep X.K H' v d → RM X.K H' M' → Q v H') → t σ H Q) : DE X e td :=
  ⟨PEimp h fun σ H Q ⟨τ, M, a, b, c⟩ => i σ H Q τ M a b c, ⟨mono⟩⟩
theorem de_var {i : Nat} {x : Str} {pos : Pos} (hN : X.N[i]? = some x) (hv : Vis X.env.scope x) (hd : (x == ("__debug__" : Str)) = false := by decide) (hcd : (x == ("__classdict__" : Str)) = false := by decide) : DE X (.Name x pos) (dVar i) := by
  refine de_of (pe_var hN hv hd hcd) (fun {τ M Q Q'} h q => ?_) fun σ H Q τ M a b q => ?_
  · unfold dVar at q ⊢
    split at q
    · exact h _ _ q
    · exact q.elim
  · unfold dVar at q
    split at q
    · rename_i d e
      obtain ⟨v, e1, r⟩ := a.get i d (dget_eq τ i d e)
      exact ⟨v, e1, q v H (Keep.refl H) r b⟩
    · exact q.elim
theorem de_c {e : Expr} {v : V} {d : D} (h : PE X e (tC v)) (r : ∀ H, Rep X.K H v d) : DE X e (dC d) :=
  de_of h (fun h q => h _ _ q) fun σ H Q τ M a b q => q v H (Keep.refl H) (r H) b
theorem de_int {i j pos} : DE X (.Constant (.int i) j pos) (dC (.int i)) := de_c pe_int fun _ => .int i
theorem de_bl {b j pos} : DE X (.Constant (.bool b) j pos) (dC (.bl b)) := de_c pe_bl fun _ => .bl b
theorem de_non {j pos} : DE X (.Constant .none j pos) (dC .non) := de_c pe_non fun _ => .non
theorem de_str {x j pos} : DE X (.Constant (.str x) j pos) (dC (.str x)) := de_c pe_str fun _ => .str x
/-- a module's constant -/
structure GC (K : PySem.W.Frag) (mg : Str → Option Value) (x : Str) (d : D) : Prop where
  ex : ∃ u v, mg x = some u ∧ RelV v u ∧ ∀ H, Rep K H v d
theorem de_glob {x : Str} {d : D} {pos : Pos} (hg : Gl X x) (h : GC X.K X.mg x d) (hd : (x == ("__debug__" : Str)) = false := by decide) : DE X (.Name x pos) (dC d) := by
  obtain ⟨u, v, hm, r, rd⟩ := h.ex
  exact de_c (pe_glob hg hm r hd) rd
theorem de_bltn {x : Str} {n : String} {pos : Pos} (hg : Gl X x) (hm : X.mg x = none) (hv : bootBuiltins x = some (.type n)) (hn : x ≠ "__name__" := by decide) (hd : (x == ("__debug__" : Str)) = false := by decide) : DE X (.Name x pos) (dC (.ty n)) :=
  de_c (pe_bltn (v := .ty n) hg hm hv rfl hn hd) fun _ => .ty n

/-! ### operators -/
abbrev DR2 := D → D → Mem → DQ → Prop
abbrev DR1 := D → Mem → DQ → Prop
structure MonoR2 (rd : DR2) : Prop where
  go : ∀ {dx dy : D} {M : Mem} {Q Q' : DQ}, (∀ d M', Q d M' → Q' d M') → rd dx dy M Q → rd dx dy M Q'
structure MonoR1 (rd : DR1) : Prop where
  go : ∀ {dx : D} {M : Mem} {Q Q' : DQ}, (∀ d M', Q d M' → Q' d M') → rd dx M Q → rd dx M Q'
def dOp (rd : DR2) (ta tb : DTE) : DTE := fun τ M Q => ta τ M fun x M1 => tb τ M1 fun y M2 => rd x y M2 Q
def dUn (rd : DR1) (ta : DTE) : DTE := fun τ M Q => ta τ M fun x M1 => rd x M1 Q
/-- what comes out over the heap -/
def Out (K : PySem.W.Frag) (H : Hp) (Q : VK) (Qd : DQ) : Prop := ∀ d M' v H', Qd d M' → Keep H H' → Rep K H' v d → RM K H' M' → Q v H'
structure OpD (K : PySem.W.Frag) (r : R2) (rd : DR2) : Prop where
  to : ∀ {x y : V} {dx dy : D} {H : Hp} {M : Mem} {Qd : DQ} {Q : VK}, Rep K H x dx → Rep K H y dy → RM K H M → rd dx dy M Qd → Out K H Q Qd → r x y H Q
  mono : MonoR2 rd
structure UnD (K : PySem.W.Frag) (r : V → Hp → VK → Prop) (rd : DR1) : Prop where
  to : ∀ {x : V} {dx : D} {H : Hp} {M : Mem} {Qd : DQ} {Q : VK}, Rep K H x dx → RM K H M → rd dx M Qd → Out K H Q Qd → r x H Q
  mono : MonoR1 rd
theorem up2 {K : PySem.W.Frag} {ta tb : DTE} {rd : DR2} {r : R2} (o : OpD K r rd) (ma : MonoE ta) (mb : MonoE tb) {σ : L2.St} {H : Hp} {Q : VK} {τ : DS} {M : Mem} (hs : RS K H σ τ) (hm : RM K H M)
    (q : dOp rd ta tb τ M (fun d M' => ∀ v H', Keep H H' → Rep K H' v d → RM K H' M' → Q v H')) : tOp r (upE K ta) (upE K tb) σ H Q := by
  refine ⟨τ, M, hs, hm, ma.go (fun x M1 q v H1 k1 r1 m1 => ⟨τ, M1, hs.keep k1, m1, mb.go (fun y M2 q w H2 k2 r2 m2 => ?_) q⟩) q⟩
  exact o.to (r1.keep k2) r2 m2 q fun d M' u H' qq k3 r3 m3 => qq u H' (k1.trans (k2.trans k3)) r3 m3
theorem dOp_mono {ta tb : DTE} {rd : DR2} (ma : MonoE ta) (mb : MonoE tb) (mo : MonoR2 rd) : MonoE (dOp rd ta tb) :=
  ⟨fun h q => ma.go (fun _ _ q => mb.go (fun _ _ q => mo.go h q) q) q⟩
theorem de_op {a b : Expr} {ta tb : DTE} {pos : Pos} {op : Operator} {r : R2} {rd : DR2} (ho : OpR X (binaryOp op) r) (o : OpD X.K r rd) (ha : DE X a ta) (hb : DE X b tb) : DE X (.BinOp a op b pos) (dOp rd ta tb) :=
  de_of (pe_op ho ha.pe hb.pe) (dOp_mono ha.mono hb.mono o.mono).go fun σ H Q τ M hs hm q => up2 o ha.mono hb.mono hs hm q
theorem de_un {a : Expr} {ta : DTE} {pos : Pos} {op : UnaryOp} {r : V → Hp → VK → Prop} {rd : DR1} (ho : UnR X (unaryOp op) r) (o : UnD X.K r rd) (ha : DE X a ta) : DE X (.UnaryOp op a pos) (dUn rd ta) :=
  de_of (pe_un ho ha.pe) (fun h q => ha.mono.go (fun _ _ q => o.mono.go h q) q) fun σ H Q τ M hs hm q =>
    ⟨τ, M, hs, hm, ha.mono.go (fun x M1 q v H1 k1 r1 m1 => o.to r1 m1 q fun d M' u H' qq k3 r3 m3 => qq u H' (k1.trans k3) r3 m3) q⟩
theorem de_cmp {a b : Expr} {ta tb : DTE} {pos : Pos} {op : CmpOp} {r : R2} {rd : DR2} (ho : OpR X (compareOp op) r) (o : OpD X.K r rd) (ha : DE X a ta) (hb : DE X b tb) (hm : behindInMarks op b = false) : DE X (.Compare a [op] [b] pos) (dOp rd ta tb) :=
  de_of (pe_cmpR ho ha.pe hb.pe hm) (dOp_mono ha.mono hb.mono o.mono).go fun σ H Q τ M hs hm q => up2 o ha.mono hb.mono hs hm q
/-- as a test -/
def asB (d : D) (M : Mem) (Q : Bool → Mem → Prop) : Prop := match d with
  | .bl k => Q k M
  | _ => False
theorem asB_mono {d : D} {M : Mem} {Q Q' : Bool → Mem → Prop} (h : ∀ b M', Q b M' → Q' b M') (q : asB d M Q) : asB d M Q' := by
  unfold asB at q ⊢
  split at q
  · exact h _ _ q
  · exact q.elim
def dTest (t : DTE) : DTT := fun τ M Q => t τ M fun d M1 => asB d M1 Q
theorem asB_to {K : PySem.W.Frag} {H : Hp} {v : V} {d : D} {M : Mem} {Q : Bool → Mem → Prop} (r : Rep K H v d) (q : asB d M Q) : ∃ k, v = .bl k ∧ Q k M := by
  unfold asB at q
  split at q
  · cases r; exact ⟨_, rfl, q⟩
  · exact q.elim
theorem dt_of {e : Expr} {t : TT} {td : DTT} (h : PT X e t) (mono : ∀ {τ : DS} {M : Mem} {Q Q' : Bool → Mem → Prop}, (∀ d M', Q d M' → Q' d M') → td τ M Q → td τ M Q') (i : ∀ (σ : L2.St) (H : Hp) (Q : Bool → Hp → Prop) (τ : DS) (M : Mem), RS X.K H σ τ → RM X.K H M → td τ M (fun d M' => ∀ H', Keep H H' → RM X.K H' M' → Q d H') → t σ H Q) : DT X e td :=
  ⟨PTimp h fun σ H Q ⟨τ, M, a, b, c⟩ => i σ H Q τ M a b c, ⟨mono⟩⟩
theorem dw_of {e : Expr} {t : TT} {td : DTT} (h : PW X e t) (mono : ∀ {τ : DS} {M : Mem} {Q Q' : Bool → Mem → Prop}, (∀ d M', Q d M' → Q' d M') → td τ M Q → td τ M Q') (i : ∀ (σ : L2.St) (H : Hp) (Q : Bool → Hp → Prop) (τ : DS) (M : Mem), RS X.K H σ τ → RM X.K H M → td τ M (fun d M' => ∀ H', Keep H H' → RM X.K H' M' → Q d H') → t σ H Q) : DW X e td :=
  ⟨PWimp h fun σ H Q ⟨τ, M, a, b, c⟩ => i σ H Q τ M a b c, ⟨mono⟩⟩
theorem dTest_mono {t : DTE} (m : MonoE t) : MonoT (dTest t) := ⟨fun h q => m.go (fun _ _ q => asB_mono h q) q⟩
theorem dt_cmp {a b : Expr} {ta tb : DTE} {pos : Pos} {op : CmpOp} {r : R2} {rd : DR2} (ho : OpR X (compareOp op) r) (o : OpD X.K r rd) (ha : DE X a ta) (hb : DE X b tb) (hm : behindInMarks op b = false) : DT X (.Compare a [op] [b] pos) (dTest (dOp rd ta tb)) := by
  refine dt_of (pt_cmpR ho ha.pe hb.pe hm) (dTest_mono (dOp_mono ha.mono hb.mono o.mono)).go fun σ H Q τ M hs hm q => ?_
  refine up2 o ha.mono hb.mono hs hm ((dOp_mono ha.mono hb.mono o.mono).go (fun d M' q v H' k1 r1 m1 => ?_) q)
  obtain ⟨k, e, q⟩ := asB_to r1 q
  exact ⟨k, e, q H' k1 m1⟩
theorem dt_val {e : Expr} {t : DTE} (h : DE X e t) (he : ∀ whole, isTrue e X.env whole = (do let v ← whole; standAt e.pos; holding [v] (truthy v)) := by intro _; rfl) : DT X e (dTest t) :=
  dt_of (pt_val h.pe he) (dTest_mono h.mono).go fun σ H Q τ M hs hm q => ⟨τ, M, hs, hm, h.mono.go (fun d M' q v H' k1 r1 m1 => let ⟨k, e, q⟩ := asB_to r1 q; ⟨k, e, q H' k1 m1⟩) q⟩
/-! ### and, or, not -/
def dAnd (t u : DTT) : DTT := fun τ M Q => t τ M fun c M1 => if c = true then u τ M1 Q else Q false M1
def dOr (t u : DTT) : DTT := fun τ M Q => t τ M fun c M1 => if c = true then Q true M1 else u τ M1 Q
def dNot (t : DTT) : DTT := fun τ M Q => t τ M fun c M1 => Q (!c) M1
variable {a b : Expr} {tA tB : DTT} {rest : List Expr} {pos : Pos}
theorem dAnd_mono {t u : DTT} (m : MonoT t) (n : MonoT u) : MonoT (dAnd t u) := ⟨fun h q => m.go (fun c M1 q => by
  cases c with
  | true => exact n.go h q
  | false => exact h _ _ q) q⟩
theorem dOr_mono {t u : DTT} (m : MonoT t) (n : MonoT u) : MonoT (dOr t u) := ⟨fun h q => m.go (fun c M1 q => by
  cases c with
  | true => exact h _ _ q
  | false => exact n.go h q) q⟩
theorem dw_and1 (ha : DT X a tA) : DW X (.BoolOp .And [a] pos) tA := ⟨pw_and1 ha.pt, ha.mono⟩
theorem dw_or1 (ha : DT X a tA) : DW X (.BoolOp .Or [a] pos) tA := ⟨pw_or1 ha.pt, ha.mono⟩
theorem dw_and (ha : DT X a tA) (hb : DW X (.BoolOp .And (b :: rest) pos) tB) : DW X (.BoolOp .And (a :: b :: rest) pos) (dAnd tA tB) := by
  refine dw_of (pw_and ha.pt hb.pw) (dAnd_mono ha.mono hb.mono).go fun σ H Q τ M hs hm q => ?_
  refine ⟨τ, M, hs, hm, ha.mono.go (fun c M1 q H1 k1 m1 => ?_) q⟩
  cases c with
  | true => exact iteT ⟨τ, M1, hs.keep k1, m1, hb.mono.go (fun c M2 q H2 k2 m2 => q H2 (k1.trans k2) m2) q⟩
  | false => exact iteF (q H1 k1 m1)
theorem dw_or (ha : DT X a tA) (hb : DW X (.BoolOp .Or (b :: rest) pos) tB) : DW X (.BoolOp .Or (a :: b :: rest) pos) (dOr tA tB) := by
  refine dw_of (pw_or ha.pt hb.pw) (dOr_mono ha.mono hb.mono).go fun σ H Q τ M hs hm q => ?_
  refine ⟨τ, M, hs, hm, ha.mono.go (fun c M1 q H1 k1 m1 => ?_) q⟩
  cases c with
  | true => exact iteT (q H1 k1 m1)
  | false => exact iteF ⟨τ, M1, hs.keep k1, m1, hb.mono.go (fun c M2 q H2 k2 m2 => q H2 (k1.trans k2) m2) q⟩
theorem DW.dt {t : DTT} (h : DW X a t) : DT X a t := ⟨h.pw.pt, h.mono⟩
theorem dt_not (ha : DT X a tA) : DT X (.UnaryOp .Not a pos) (dNot tA) :=
  dt_of (pt_not ha.pt) (fun h q => ha.mono.go (fun _ _ q => h _ _ q) q) fun σ H Q τ M hs hm q => ⟨τ, M, hs, hm, ha.mono.go (fun c M1 q H1 k1 m1 => q H1 k1 m1) q⟩
/-! as values (bools) -/
def dAndV (ta tb : DTE) : DTE := fun τ M Q => ta τ M fun x M1 => asB x M1 fun c M1 => if c = true then tb τ M1 Q else Q (.bl false) M1
def dOrV (ta tb : DTE) : DTE := fun τ M Q => ta τ M fun x M1 => asB x M1 fun c M1 => if c = true then Q (.bl true) M1 else tb τ M1 Q
def dNotV (ta : DTE) : DTE := fun τ M Q => ta τ M fun x M1 => asB x M1 fun c M1 => Q (.bl (!c)) M1
variable {ta tb : DTE}
theorem de_one {op} {t : DTE} (h : DE X a t) : DE X (.BoolOp op [a] pos) t := ⟨pe_one h.pe, h.mono⟩
theorem de_and (ha : DE X a ta) (hb : DE X (.BoolOp .And (b :: rest) pos) tb) : DE X (.BoolOp .And (a :: b :: rest) pos) (dAndV ta tb) := by
  refine de_of (pe_and ha.pe hb.pe) (fun h q => ha.mono.go (fun _ _ q => asB_mono (fun c M1 q => ?_) q) q) fun σ H Q τ M hs hm q => ?_
  · cases c with
    | true => exact hb.mono.go h q
    | false => exact h _ _ q
  · refine ⟨τ, M, hs, hm, ha.mono.go (fun d M1 q v H1 k1 r1 m1 => ?_) q⟩
    obtain ⟨c, e, q⟩ := asB_to r1 q
    refine ⟨c, e, ?_⟩
    cases c with
    | true => exact iteT ⟨τ, M1, hs.keep k1, m1, hb.mono.go (fun d M2 q v H2 k2 r2 m2 => q v H2 (k1.trans k2) r2 m2) q⟩
    | false => exact iteF (q _ H1 k1 (.bl false) m1)
theorem de_or (ha : DE X a ta) (hb : DE X (.BoolOp .Or (b :: rest) pos) tb) : DE X (.BoolOp .Or (a :: b :: rest) pos) (dOrV ta tb) := by
  refine de_of (pe_or ha.pe hb.pe) (fun h q => ha.mono.go (fun _ _ q => asB_mono (fun c M1 q => ?_) q) q) fun σ H Q τ M hs hm q => ?_
  · cases c with
    | true => exact h _ _ q
    | false => exact hb.mono.go h q
  · refine ⟨τ, M, hs, hm, ha.mono.go (fun d M1 q v H1 k1 r1 m1 => ?_) q⟩
    obtain ⟨c, e, q⟩ := asB_to r1 q
    refine ⟨c, e, ?_⟩
    cases c with
    | true => exact iteT (q _ H1 k1 (.bl true) m1)
    | false => exact iteF ⟨τ, M1, hs.keep k1, m1, hb.mono.go (fun d M2 q v H2 k2 r2 m2 => q v H2 (k1.trans k2) r2 m2) q⟩
theorem de_not (ha : DE X a ta) : DE X (.UnaryOp .Not a pos) (dNotV ta) := by
  refine de_of (pe_not ha.pe) (fun h q => ha.mono.go (fun _ _ q => asB_mono (fun c M1 q => h _ _ q) q) q) fun σ H Q τ M hs hm q => ?_
  refine ⟨τ, M, hs, hm, ha.mono.go (fun d M1 q v H1 k1 r1 m1 => ?_) q⟩
  obtain ⟨c, e, q⟩ := asB_to r1 q
  exact ⟨c, e, q _ H1 k1 (.bl _) m1⟩
def dIfE (t : DTT) (ta tb : DTE) : DTE := fun τ M Q => t τ M fun c M1 => if c = true then ta τ M1 Q else tb τ M1 Q
theorem de_ifExp {c : Expr} (hc : DT X c tA) (ha : DE X a ta) (hb : DE X b tb) : DE X (.IfExp c a b pos) (dIfE tA ta tb) := by
  refine de_of (pe_ifExp hc.pt ha.pe hb.pe) (fun h q => hc.mono.go (fun c M1 q => ?_) q) fun σ H Q τ M hs hm q => ?_
  · cases c with
    | true => exact ha.mono.go h q
    | false => exact hb.mono.go h q
  · refine ⟨τ, M, hs, hm, hc.mono.go (fun c M1 q H1 k1 m1 => ?_) q⟩
    cases c with
    | true => exact iteT ⟨τ, M1, hs.keep k1, m1, ha.mono.go (fun d M2 q v H2 k2 r2 m2 => q v H2 (k1.trans k2) r2 m2) q⟩
    | false => exact iteF ⟨τ, M1, hs.keep k1, m1, hb.mono.go (fun d M2 q v H2 k2 r2 m2 => q v H2 (k1.trans k2) r2 m2) q⟩
/-- what is made and thrown away within an expression is forgotten -/
def dPure (t : DTE) : DTE := fun τ M Q => t τ M fun d M1 => Sub M M1 ∧ Q d M
theorem de_pure {e : Expr} {t : DTE} (h : DE X e t) : DE X e (dPure t) :=
  de_of h.pe (fun h2 q => h.mono.go (fun _ _ ⟨s, q⟩ => ⟨s, h2 _ _ q⟩) q) fun σ H Q τ M hs hm q => ⟨τ, M, hs, hm, h.mono.go (fun d M1 ⟨s, q⟩ v H1 k r m => q v H1 k r (m.sub s)) q⟩
def dPureT (t : DTT) : DTT := fun τ M Q => t τ M fun d M1 => Sub M M1 ∧ Q d M
theorem dt_pure {e : Expr} {t : DTT} (h : DT X e t) : DT X e (dPureT t) :=
  dt_of h.pt (fun h2 q => h.mono.go (fun _ _ ⟨s, q⟩ => ⟨s, h2 _ _ q⟩) q) fun σ H Q τ M hs hm q => ⟨τ, M, hs, hm, h.mono.go (fun d M1 ⟨s, q⟩ H1 k m => q H1 k (m.sub s)) q⟩

/-! ### arguments, tuples, lists -/
def dNil : DTA := fun _ M Q => Q [] M
def dCons (ta : DTE) (tr : DTA) : DTA := fun τ M Q => ta τ M fun x M1 => tr τ M1 fun xs M2 => Q (x :: xs) M2
theorem da_of {es : List Expr} {t : TA} {td : DTA} (h : PA X es t) (mono : ∀ {τ : DS} {M : Mem} {Q Q' : List D → Mem → Prop}, (∀ d M', Q d M' → Q' d M') → td τ M Q → td τ M Q') (i : ∀ (σ : L2.St) (H : Hp) (Q : List V → Hp → Prop) (τ : DS) (M : Mem), RS X.K H σ τ → RM X.K H M → td τ M (fun d M' => ∀ v H', Keep H H' → Reps X.K H' v d → RM X.K H' M' → Q v H') → t σ H Q) : DA X es td :=
  ⟨PAimp h fun σ H Q ⟨τ, M, a, b, c⟩ => i σ H Q τ M a b c, ⟨mono⟩⟩
theorem da_nil : DA X [] dNil := da_of pa_nil (fun h q => h _ _ q) fun σ H Q τ M hs hm q => q [] H (Keep.refl H) .nil hm
theorem da_cons {e : Expr} {es : List Expr} {te : DTE} {t : DTA} (ha : DE X e te) (hr : DA X es t) (hs : starEach (e :: es) X.env = (false, eval e X.env) :: starEach es X.env := by rfl) : DA X (e :: es) (dCons te t) := by
  refine da_of (pa_cons ha.pe hr.pa hs) (fun h q => ha.mono.go (fun _ _ q => hr.mono.go (fun _ _ q => h _ _ q) q) q) fun σ H Q τ M hs hm q => ?_
  exact ⟨τ, M, hs, hm, ha.mono.go (fun d M1 q v H1 k1 r1 m1 => ⟨τ, M1, hs.keep k1, m1, hr.mono.go (fun ds M2 q vs H2 k2 r2 m2 => q (v :: vs) H2 (k1.trans k2) (.cons (r1.keep k2) r2) m2) q⟩) q⟩
def dTup (t : DTA) : DTE := fun τ M Q => t τ M fun ds M1 => ds.length ≤ sizeLine ∧ Q (.tup ds) M1
def dLst (t : DTA) : DTE := fun τ M Q => t τ M fun ds M1 => ds.length ≤ sizeLine ∧ ∀ p, M1 p = none → Q (.ref p) (mupd M1 p (.lst ds))
theorem de_tup {es : List Expr} {t : DTA} {x1} (h : DA X es t) : DE X (.Tuple es x1 pos) (dTup t) := by
  refine de_of (pe_tup h.pa) (fun h2 q => h.mono.go (fun _ _ ⟨l, q⟩ => ⟨l, h2 _ _ q⟩) q) fun σ H Q τ M hs hm q => ?_
  refine ⟨τ, M, hs, hm, h.mono.go (fun ds M1 ⟨l, q⟩ vs H1 k1 r1 m1 => ⟨by rw [r1.length]; exact l, fun p np => ?_⟩) q⟩
  exact q _ _ (k1.trans (Keep.new np)) (.tup (SqT.of upd_same) (r1.keep (Keep.new np))) (m1.fresh np)
theorem de_lst {es : List Expr} {t : DTA} (h : DA X es t) : DE X (.List es pos) (dLst t) := by
  refine de_of (pe_lst h.pa) (fun h2 q => h.mono.go (fun _ _ ⟨l, q⟩ => ⟨l, fun p np => h2 _ _ (q p np)⟩) q) fun σ H Q τ M hs hm q => ?_
  refine ⟨τ, M, hs, hm, h.mono.go (fun ds M1 ⟨l, q⟩ vs H1 k1 r1 m1 => ⟨by rw [r1.length]; exact l, fun p np => ?_⟩) q⟩
  exact q p (m1.free np) _ _ (k1.trans (Keep.new np)) (.ref p) (m1.new np ⟨vs, rfl, r1.keep (Keep.new np)⟩)

/-! ### calls -/
abbrev DRL := List D → Mem → DQ → Prop
structure MonoRL (rd : DRL) : Prop where
  go : ∀ {ds : List D} {M : Mem} {Q Q' : DQ}, (∀ d M', Q d M' → Q' d M') → rd ds M Q → rd ds M Q'
structure CallD (K : PySem.W.Frag) (r : List V → Hp → VK → Prop) (rd : DRL) : Prop where
  to : ∀ {xs : List V} {ds : List D} {H : Hp} {M : Mem} {Qd : DQ} {Q : VK}, Reps K H xs ds → RM K H M → rd ds M Qd → Out K H Q Qd → r xs H Q
  mono : MonoRL rd
def dCB (rd : DRL) (t : DTA) : DTE := fun τ M Q => t τ M fun ds M1 => rd ds M1 Q
theorem upCB {K : PySem.W.Frag} {t : DTA} {rd : DRL} {r : List V → Hp → VK → Prop} (o : CallD K r rd) (m : MonoA t) {σ : L2.St} {H : Hp} {Q : VK} {τ : DS} {M : Mem} (hs : RS K H σ τ) (hm : RM K H M)
    (q : dCB rd t τ M (fun d M' => ∀ v H', Keep H H' → Rep K H' v d → RM K H' M' → Q v H')) : tCB r (upA K t) σ H Q :=
  ⟨τ, M, hs, hm, m.go (fun ds M1 q vs H1 k1 r1 m1 => o.to r1 m1 q fun d M' u H' qq k3 r3 m3 => qq u H' (k1.trans k3) r3 m3) q⟩
theorem dCB_mono {t : DTA} {rd : DRL} (m : MonoA t) (mo : MonoRL rd) : MonoE (dCB rd t) := ⟨fun h q => m.go (fun _ _ q => mo.go h q) q⟩
variable {e : Expr} {es : List Expr} {t : DTA} {x : Str} {p : Pos}
theorem de_callB {id : String} {r : List V → Hp → VK → Prop} {rd : DRL} (hc : CallR X (.builtin id) r) (o : CallD X.K r rd) (hg : Gl X x) (hm : X.mg x = none) (hv : bootBuiltins x = some (.builtin id)) (ha : DA X (e :: es) t) (hn : x ≠ "__name__" := by decide) (hdb : (x == ("__debug__" : Str)) = false := by decide)
    (he : starEach (e :: es) X.env = (false, eval e X.env) :: starEach es X.env := by rfl) (hpl : (backTo pos (starEach es X.env)).any (·.1) = false := by rfl) : DE X (.Call (.Name x p) (e :: es) [] pos) (dCB rd t) :=
  de_of (pe_callB hc hg hm hv ha.pa hn hdb he hpl) (dCB_mono ha.mono o.mono).go fun σ H Q τ M hs hm q => upCB o ha.mono hs hm q
theorem de_callTy {T : String} {r : List V → Hp → VK → Prop} {rd : DRL} (hc : CallR X (.type T) r) (o : CallD X.K r rd) (hg : Gl X x) (hm : X.mg x = none) (hv : bootBuiltins x = some (.type T)) (ha : DA X (e :: es) t) (hn : x ≠ "__name__" := by decide) (hdb : (x == ("__debug__" : Str)) = false := by decide)
    (he : starEach (e :: es) X.env = (false, eval e X.env) :: starEach es X.env := by rfl) (hpl : (backTo pos (starEach es X.env)).any (·.1) = false := by rfl) : DE X (.Call (.Name x p) (e :: es) [] pos) (dCB rd t) :=
  de_of (pe_callTy hc hg hm hv ha.pa hn hdb he hpl) (dCB_mono ha.mono o.mono).go fun σ H Q τ M hs hm q => upCB o ha.mono hs hm q
/-! defs of the text -/
abbrev DSp := List D → Mem → DQ → Prop
structure MonoSp (sp : DSp) : Prop where
  go : ∀ {ds : List D} {M : Mem} {Q Q' : DQ}, (∀ d M', Q d M' → Q' d M') → sp ds M Q → sp ds M Q'
def upSp (K : PySem.W.Frag) (sp : DSp) : Sp := fun vs H Q _ => ∃ ds M, Reps K H vs ds ∧ RM K H M ∧ sp ds M (fun d M' => ∀ v H', Keep H H' → Rep K H' v d → RM K H' M' → Q v H')
/-- a def that may be called here: its name, its promise, the defaults that fill up -/
structure Can (P : Program) (w : World) (K : PySem.W.Frag) (mg : Str → Option Value) (base : Heap) (A : Around) (x : Str) (dds : List D) (sp : DSp) : Prop where
  ex : ∃ (f : Addr) (fd : FuncData) (ps : List Str) (k : Nat) (us : List Value) (dvs : List V), FnOk P w K mg base CX0 k f fd ps (upSp K sp) ∧ Room k A ∧ mg x = some (.ref f) ∧ PySem.W.keepIn K (.ref f) = true ∧ Binds K fd ps us ∧ Vals dvs us ∧ ∀ H, Reps K H dvs dds
  mono : MonoSp sp
def dCall (sp : DSp) (dds : List D) (t : DTA) : DTE := fun τ M Q => t τ M fun ds M1 => sp (ds ++ dds) M1 Q
theorem upCall {sp : DSp} {dds : List D} {dvs : List V} {K : PySem.W.Frag} {t : DTA} (hsp : MonoSp sp) (m : MonoA t) (rd : ∀ H, Reps K H dvs dds) {σ : L2.St} {H : Hp} {Q : VK} {τ : DS} {M : Mem} (hs : RS K H σ τ) (hm : RM K H M)
    (q : dCall sp dds t τ M (fun d M' => ∀ v H', Keep H H' → Rep K H' v d → RM K H' M' → Q v H')) : tCall (upSp K sp) dvs E0 (upA K t) σ H Q :=
  ⟨τ, M, hs, hm, m.go (fun ds M1 q vs H1 k1 r1 m1 => ⟨ds ++ dds, M1, r1.append (rd H1), m1, hsp.go (fun d M' q v H' k2 => q v H' (k1.trans k2)) q⟩) q⟩
theorem de_call {sp : DSp} {dds : List D} (c : Can X.prog X.w X.K X.mg X.base X.A x dds sp) (hg : Gl X x) (ha : DA X (e :: es) t) (hdb : (x == ("__debug__" : Str)) = false := by decide)
    (he : starEach (e :: es) X.env = (false, eval e X.env) :: starEach es X.env := by rfl) (hpl : (backTo pos (starEach es X.env)).any (·.1) = false := by rfl) : DE X (.Call (.Name x p) (e :: es) [] pos) (dCall sp dds t) := by
  obtain ⟨f, fd, ps, k, us, dvs, F, hr, hm, hk, hb, hd, rd⟩ := c.ex
  exact de_of (pe_call F hr hg hm hk hb hd pass0 ha.pa hdb he hpl) (fun h q => ha.mono.go (fun _ _ q => c.mono.go h q) q) fun σ H Q τ M hs hm q => upCall c.mono ha.mono rd hs hm q
theorem de_call0 {sp : DSp} {dds : List D} (c : Can X.prog X.w X.K X.mg X.base X.A x dds sp) (hg : Gl X x) (hdb : (x == ("__debug__" : Str)) = false := by decide) : DE X (.Call (.Name x p) [] [] pos) (dCall sp dds dNil) := by
  obtain ⟨f, fd, ps, k, us, dvs, F, hr, hm, hk, hb, hd, rd⟩ := c.ex
  refine de_of (pe_call0 F hr hg hm hk hb hd pass0 hdb) (fun h q => c.mono.go h q) fun σ H Q τ M hs hm q => ?_
  exact ⟨dds, M, rd H, hm, q⟩

/-! ### statements -/
theorem ds_of {st : Stmt} {t : TS} {td : DTS} (h : PS X st t) (mono : ∀ {E E' : DEnds} {τ : DS} {M : Mem}, E.Imp E' → td E τ M → td E' τ M) (i : ∀ (D : Ends) (σ : L2.St) (H : Hp) (τ : DS) (M : Mem) (E : DEnds), RS X.K H σ τ → RM X.K H M → EndR X.K H E D → td E τ M → t D σ H) : DSt X st td :=
  ⟨PSimp h fun D σ H ⟨τ, M, E, a, b, c, d⟩ => i D σ H τ M E a b c d, ⟨mono⟩⟩
theorem dss_of {st : List Stmt} {t : TS} {td : DTS} (h : PSs X st t) (mono : ∀ {E E' : DEnds} {τ : DS} {M : Mem}, E.Imp E' → td E τ M → td E' τ M) (i : ∀ (D : Ends) (σ : L2.St) (H : Hp) (τ : DS) (M : Mem) (E : DEnds), RS X.K H σ τ → RM X.K H M → EndR X.K H E D → td E τ M → t D σ H) : DSs X st td :=
  ⟨PSsimp h fun D σ H ⟨τ, M, E, a, b, c, d⟩ => i D σ H τ M E a b c d, ⟨mono⟩⟩
def dNext : DTS := fun E τ M => E.nx τ M
def dSeq (t u : DTS) : DTS := fun E τ M => t { E with nx := u E } τ M
variable {st : Stmt} {sts : List Stmt} {t1 t2 : DTS} {te : DTE}
theorem dNext_mono : MonoS dNext := ⟨fun h q => h.nx _ _ q⟩
theorem dss_nil : DSs X [] dNext := dss_of pss_nil dNext_mono.go fun D σ H τ M E a b c d => c.nx _ _ _ _ d (Keep.refl H) a b
theorem dSeq_mono {t u : DTS} (m : MonoS t) (n : MonoS u) : MonoS (dSeq t u) := ⟨fun {E E' τ M} h q => m.go (E := { E with nx := u E }) (E' := { E' with nx := u E' }) ⟨fun _ _ q => n.go h q, h.rt, h.bk, h.ct⟩ q⟩
theorem dss_cons (h1 : DSt X st t1) (h2 : DSs X sts t2) : DSs X (st :: sts) (dSeq t1 t2) := by
  refine dss_of (pss_cons h1.ps h2.pss) (dSeq_mono h1.mono h2.mono).go fun D σ H τ M E a b c d => ?_
  exact ⟨τ, M, { E with nx := t2 E }, a, b, ⟨fun τ' M' σ' H' q k s m => ⟨τ', M', E, s, m, c.keep k, q⟩, c.rt, c.bk, c.ct⟩, d⟩
theorem dss_one (h1 : DSt X st t1) : DSs X [st] t1 := ⟨pss_one h1.ps, h1.mono⟩
def dBreak : DTS := fun E τ M => E.bk τ M
def dCont : DTS := fun E τ M => E.ct τ M
theorem ds_pass : DSt X (.Pass pos) dNext := ds_of ps_pass dNext_mono.go fun D σ H τ M E a b c d => c.nx _ _ _ _ d (Keep.refl H) a b
theorem ds_break : DSt X (.Break pos) dBreak := ds_of ps_break (fun h q => h.bk _ _ q) fun D σ H τ M E a b c d => c.bk _ _ _ _ d (Keep.refl H) a b
theorem ds_continue : DSt X (.Continue pos) dCont := ds_of ps_continue (fun h q => h.ct _ _ q) fun D σ H τ M E a b c d => c.ct _ _ _ _ d (Keep.refl H) a b
theorem ds_doc {x j pos pos'} : DSt X (.Expr (.Constant (.str x) j pos) pos') dNext := ds_of ps_doc dNext_mono.go fun D σ H τ M E a b c d => c.nx _ _ _ _ d (Keep.refl H) a b
def dDrop (te : DTE) : DTS := fun E τ M => te τ M fun _ M1 => E.nx τ M1
theorem ds_expr (he : DE X e te) (hs : swapsWith e none pos.line X.env = pure false := by rfl) : DSt X (.Expr e pos) (dDrop te) :=
  ds_of (ps_expr he.pe hs) (fun h q => he.mono.go (fun _ _ q => h.nx _ _ q) q) fun D σ H τ M E a b c d => ⟨τ, M, a, b, he.mono.go (fun d M1 q v H1 k r m => c.nx _ _ _ _ q k (a.keep k) m) d⟩
def dRet (te : DTE) : DTS := fun E τ M => te τ M E.rt
theorem ds_ret (he : DE X e te) : DSt X (.Return (some e) pos) (dRet te) :=
  ds_of (ps_ret he.pe) (fun h q => he.mono.go (fun _ _ q => h.rt _ _ q) q) fun D σ H τ M E a b c d => ⟨τ, M, a, b, he.mono.go (fun d M1 q v H1 k r m => c.rt _ _ _ _ q k r m) d⟩
def dRetN : DTS := fun E _ M => E.rt .non M
theorem ds_retN : DSt X (.Return none pos) dRetN := ds_of ps_retN (fun h q => h.rt _ _ q) fun D σ H τ M E a b c d => c.rt _ _ _ _ d (Keep.refl H) .non b
def dIf (c : DTT) (t u : DTS) : DTS := fun E τ M => c τ M fun b M1 => if b = true then t E τ M1 else u E τ M1
theorem ds_if {c : Expr} {p q : List Stmt} {tc : DTT} (hc : DT X c tc) (ha : DSs X p t1) (hb : DSs X q t2) : DSt X (.If c p q pos) (dIf tc t1 t2) := by
  refine ds_of (ps_if hc.pt ha.pss hb.pss) (fun h q => hc.mono.go (fun b M1 q => ?_) q) fun D σ H τ M E a b c d => ?_
  · cases b with
    | true => exact ha.mono.go h q
    | false => exact hb.mono.go h q
  · refine ⟨τ, M, a, b, hc.mono.go (fun b M1 q H1 k m => ?_) d⟩
    cases b with
    | true => exact iteT ⟨τ, M1, E, a.keep k, m, c.keep k, q⟩
    | false => exact iteF ⟨τ, M1, E, a.keep k, m, c.keep k, q⟩
/-! targets -/
theorem dg_of {t : TG} {td : DTG} (h : PG X e t) (mono : ∀ {d : D} {τ : DS} {M : Mem} {Q Q' : DS → Mem → Prop}, (∀ τ M, Q τ M → Q' τ M) → td d τ M Q → td d τ M Q') (i : ∀ (v : V) (σ : L2.St) (H : Hp) (Q : L2.St → Hp → Prop) (d : D) (τ : DS) (M : Mem), Rep X.K H v d → RS X.K H σ τ → RM X.K H M → td d τ M (fun τ' M' => ∀ σ' H', Keep H H' → RS X.K H' σ' τ' → RM X.K H' M' → Q σ' H') → t v σ H Q) : DG X e td :=
  ⟨PGimp h fun v σ H Q ⟨d, τ, M, r, a, b, c⟩ => i v σ H Q d τ M r a b c, ⟨mono⟩⟩
def gN (i : Nat) : DTG := fun d τ M Q => Q (dset τ i d) M
theorem gN_mono (i : Nat) : MonoG (gN i) := ⟨fun h q => h _ _ q⟩
theorem dg_name {i : Nat} {x : Str} (hN : X.N.Nodup) (hi : X.N[i]? = some x) (hx : Loc X.env.scope x) (hf : X.fn x = true ∨ X.env.scope.names.lookup x = some .local := by first | exact .inl rfl | exact .inr rfl | assumption) : DG X (.Name x pos) (gN i) :=
  dg_of (pg_name hN hi hx hf) (fun h q => h _ _ q) fun v σ H Q d τ M r a b q => by
    have q' : ∀ σ' H', Keep H H' → RS X.K H' σ' (dset τ i d) → RM X.K H' M → Q σ' H' := q
    rw [dset_eq] at q'
    exact q' _ H (Keep.refl H) (a.set i r) b
def gN0 : DTGs := fun ds τ M Q => match ds with
  | [] => Q τ M
  | _ => False
def gNc (t : DTG) (u : DTGs) : DTGs := fun ds τ M Q => match ds with
  | d :: r => t d τ M fun τ' M' => u r τ' M' Q
  | _ => False
theorem dgs_nil : DGs X [] gN0 := by
  refine ⟨PGsimp pgs_nil fun vs σ H Q ⟨ds, τ, M, r, a, b, c⟩ => ?_, ⟨fun {ds τ M Q Q'} h q => ?_⟩⟩
  · cases r with
    | nil => exact ⟨rfl, c _ _ (Keep.refl H) a b⟩
    | cons => exact False.elim c
  · cases ds with
    | nil => exact h _ _ q
    | cons => exact False.elim q
theorem dgs_cons {g : DTG} {gs : DTGs} (h1 : DG X e g) (h2 : DGs X es gs) (hs : (assignEach (e :: es) X.env).map (·.2) = assign e X.env :: (assignEach es X.env).map (·.2) := by rfl) : DGs X (e :: es) (gNc g gs) := by
  refine ⟨PGsimp (pgs_cons h1.pg h2.pgs hs) fun vs σ H Q ⟨ds, τ, M, r, a, b, c⟩ => ?_, ⟨fun {ds τ M Q Q'} h q => ?_⟩⟩
  · cases r with
    | nil => exact False.elim c
    | cons rv rr => exact ⟨_, _, rfl, _, τ, M, rv, a, b, h1.mono.go (fun τ' M' q σ' H' k s m => ⟨_, τ', M', rr.keep k, s, m, h2.mono.go (fun τ2 M2 q σ2 H2 k2 s2 m2 => q σ2 H2 (k.trans k2) s2 m2) q⟩) c⟩
  · cases ds with
    | nil => exact False.elim q
    | cons => exact h1.mono.go (fun _ _ q => h2.mono.go (fun _ _ q => h _ _ q) q) q
def gTp (n : Nat) (t : DTGs) : DTG := fun d τ M Q => match d with
  | .tup ds => ds.length = n ∧ t ds τ M Q
  | _ => False
theorem dg_tup {k : Nat} {gs : DTGs} {n : Nat} (hc : X.calm = true) (h : DGs X es gs) (hn : (assignEach es X.env).length = n := by rfl) (hst : (assignEach es X.env).findIdx? (·.1) = none := by rfl) : DG X (.Tuple es k pos) (gTp n gs) :=
  dg_of (pg_tup hc h.pgs hn hst) (fun {d τ M Q Q'} h2 q => by
    unfold gTp at q ⊢
    split at q
    · exact ⟨q.1, h.mono.go h2 q.2⟩
    · exact q.elim) fun v σ H Q d τ M r a b q => by
    unfold gTp at q
    split at q
    · cases r with
      | tup hs hr => exact ⟨_, _, rfl, hs, by rw [hr.length]; exact q.1, _, τ, M, hr, a, b, q.2⟩
    · exact q.elim
def dAsg (te : DTE) (g : DTG) : DTS := fun E τ M => te τ M fun d M1 => g d τ M1 E.nx
theorem dAsg_mono {te : DTE} {g : DTG} (m : MonoE te) (n : MonoG g) : MonoS (dAsg te g) := ⟨fun h q => m.go (fun _ _ q => n.go (fun _ _ q => h.nx _ _ q) q) q⟩
theorem upAsg {K : PySem.W.Frag} {te : DTE} {g : DTG} (m : MonoE te) (n : MonoG g) {D : Ends} {σ : L2.St} {H : Hp} {τ : DS} {M : Mem} {E : DEnds} (a : RS K H σ τ) (b : RM K H M) (c : EndR K H E D) (d : dAsg te g E τ M) : tAsg (upE K te) (upG K g) D σ H :=
  ⟨τ, M, a, b, m.go (fun d M1 q v H1 k r m1 => ⟨d, τ, M1, r, a.keep k, m1, n.go (fun τ' M' q σ' H' k2 s m2 => c.nx _ _ _ _ q (k.trans k2) s m2) q⟩) d⟩
theorem ds_asg {tg : Expr} {g : DTG} (he : DE X e te) (hg : DG X tg g) (hs : swapsWithSole [tg] e pos.line X.env = pure false := by rfl) (hw : swappedStores [tg] e X.env = pure none := by rfl)
    (h1 : (assignEach [tg] X.env).map (·.2) = [assign tg X.env] := by rfl) : DSt X (.Assign [tg] e pos) (dAsg te g) :=
  ds_of (ps_asg he.pe hg.pg hs hw h1) (dAsg_mono he.mono hg.mono).go fun D σ H τ M E a b c d => upAsg he.mono hg.mono a b c d
theorem ds_set {i : Nat} {x : Str} {pos' : Pos} (hN : X.N.Nodup) (hi : X.N[i]? = some x) (hx : Loc X.env.scope x) (he : DE X e te) (hs : swapsWith e (some (.Name x pos')) pos.line X.env = pure false := by rfl) (hf : X.fn x = true ∨ X.env.scope.names.lookup x = some .local := by first | exact .inl rfl | exact .inr rfl | assumption) :
    DSt X (.Assign [.Name x pos'] e pos) (dAsg te (gN i)) :=
  ds_of (ps_set hN hi hx he.pe hs hf) (dAsg_mono he.mono (gN_mono i)).go fun D σ H τ M E a b c d => ⟨τ, M, a, b, he.mono.go (fun d M1 q v H1 k r m1 => by
    have q' : E.nx (dset τ i d) M1 := q
    rw [dset_eq] at q'
    exact c.nx _ _ _ _ q' k ((a.keep k).set i r) m1) d⟩
def dPar (i j : Nat) (ta : DTA) : DTS := fun E τ M => ta τ M fun ds M1 => match ds with
  | [v, w] => E.nx (dset (dset τ i v) j w) M1
  | _ => False
theorem ds_par {i j : Nat} {x y : Str} {ta : DTA} {px py pt : Pos} {kt k2 pt2} (hc : X.calm = true) (hN : X.N.Nodup) (hi : X.N[i]? = some x) (hj : X.N[j]? = some y) (hij : i ≠ j)
    (hx : X.env.scope.names.lookup x = some .local) (hy : X.env.scope.names.lookup y = some .local) (ha : DA X [a, b] ta)
    (hw : swappedStores [.Tuple [.Name x px, .Name y py] kt pt] (.Tuple [a, b] k2 pt2) X.env = pure (some [x, y]))
    (hs : swapsWithSole [.Tuple [.Name x px, .Name y py] kt pt] (.Tuple [a, b] k2 pt2) pos.line X.env = pure false := by rfl) :
    DSt X (.Assign [.Tuple [.Name x px, .Name y py] kt pt] (.Tuple [a, b] k2 pt2) pos) (dPar i j ta) := by
  refine ds_of (ps_par hc hN hi hj hij hx hy ha.pa hw hs) (fun h q => ha.mono.go (fun ds M1 q => ?_) q) fun D σ H τ M E a b c d => ?_
  · split at q
    · exact h.nx _ _ q
    · exact q.elim
  · refine ⟨τ, M, a, b, ha.mono.go (fun ds M1 q vs H1 k r m1 => ?_) d⟩
    split at q
    · cases r with
      | cons r1 r =>
        cases r with
        | cons r2 r =>
          cases r
          rw [dset_eq, dset_eq] at q
          exact ⟨_, _, rfl, c.nx _ _ _ _ q k (((a.keep k).set i r1).set j r2) m1⟩
    · exact q.elim
def dPar3 (i j l : Nat) (ta : DTA) : DTS := fun E τ M => ta τ M fun ds M1 => match ds with
  | [u, v, w] => E.nx (dset (dset (dset τ i u) j v) l w) M1
  | _ => False
def dAug (i : Nat) (te : DTE) (rd : DR2) : DTS := fun E τ M => match dget τ i with
  | some x => te τ M fun y M1 => rd x y M1 fun z M2 => E.nx (dset τ i z) M2
  | none => False
theorem ds_aug {i : Nat} {x : Str} {op : Operator} {r : R2} {rd : DR2} {pos' : Pos} (hN : X.N.Nodup) (hi : X.N[i]? = some x) (hx : Loc X.env.scope x) (he : DE X e te) (ho : OpR X (inplaceOp op) r) (o : OpD X.K r rd) (hf : X.fn x = true ∨ X.env.scope.names.lookup x = some .local := by first | exact .inl rfl | exact .inr rfl | assumption) :
    DSt X (.AugAssign (.Name x pos') op e pos) (dAug i te rd) := by
  refine ds_of (ps_aug (ti := r) hN hi hx he.pe (fun pins s σ H x y v u Q I rx ry q => ho pins s σ H x y v u Q I rx ry q) hf) (fun {E E' τ M} h q => ?_) fun D σ H τ M E a b c d => ?_
  · unfold dAug at q ⊢
    split at q
    · rename_i e1; exact he.mono.go (fun _ _ q => o.mono.go (fun _ _ q => h.nx _ _ q) q) q
    · exact q.elim
  · unfold dAug at d
    split at d
    · rename_i z e1
      obtain ⟨v, e2, r1⟩ := a.get i z (dget_eq τ i z e1)
      refine ⟨v, e2, τ, M, a, b, he.mono.go (fun y M1 q w H1 k r2 m1 => o.to (r1.keep k) r2 m1 q fun u M2 v2 H2 q k2 r3 m2 => ?_) d⟩
      rw [dset_eq] at q
      exact c.nx _ _ _ _ q (k.trans k2) ((a.keep (k.trans k2)).set i r3) m2
    · exact d.elim
end
end DL

namespace DL
open PySem PySem.Spec PyProof.Rows L2

/-! ### what is walked -/
structure DIt where
  items : List D
  live : Mem → Prop
structure ItR (K : PySem.W.Frag) (H0 : Hp) (J : It) (I : DIt) : Prop where
  go : ∀ (i : Nat) (d : D) (H : Hp) (M : Mem), Keep H0 H → RM K H M → I.live M → I.items[i]? = some d → J.go i H
  yld : ∀ (i : Nat) (d : D) (H : Hp) (M : Mem) (x : V) (H' : Hp), Keep H0 H → RM K H M → I.live M → I.items[i]? = some d → J.yld i H x H' → Keep H H' ∧ Rep K H' x d ∧ RM K H' M
  stop : ∀ (i : Nat) (H : Hp) (M : Mem), Keep H0 H → RM K H M → I.live M → I.items.length ≤ i → J.stop i H
abbrev DTI := DS → Mem → (DIt → Mem → Prop) → Prop
structure MonoI (t : DTI) : Prop where
  go : ∀ {τ : DS} {M : Mem} {Q Q' : DIt → Mem → Prop}, (∀ I M', Q I M' → Q' I M') → t τ M Q → t τ M Q'
def upI (K : PySem.W.Frag) (t : DTI) : TI := fun σ H R => ∃ τ M, RS K H σ τ ∧ RM K H M ∧ t τ M (fun I M1 => ∀ J H1, Keep H H1 → RM K H1 M1 → ItR K H1 J I → R J H1)
structure DI (X : Cx) (tg iter : Expr) (t : DTI) : Prop where
  pi : PI X tg iter (upI X.K t)
  mono : MonoI t
section
variable {X : Cx} {tg e : Expr}
theorem PIimp {t t' : TI} (h : PI X tg e t) (i : ∀ σ H Q, t' σ H Q → t σ H Q) : PI X tg e t' := ⟨fun pins s σ H Q I q => h.run pins s σ H Q I (i _ _ _ q)⟩
theorem di_of {t : TI} {td : DTI} (h : PI X tg e t) (mono : ∀ {τ : DS} {M : Mem} {Q Q' : DIt → Mem → Prop}, (∀ I M', Q I M' → Q' I M') → td τ M Q → td τ M Q')
    (i : ∀ (σ : L2.St) (H : Hp) (R : It → Hp → Prop) (τ : DS) (M : Mem), RS X.K H σ τ → RM X.K H M → td τ M (fun I M1 => ∀ J H1, Keep H H1 → RM X.K H1 M1 → ItR X.K H1 J I → R J H1) → t σ H R) : DI X tg e td :=
  ⟨PIimp h fun σ H Q ⟨τ, M, a, b, c⟩ => i σ H Q τ M a b c, ⟨mono⟩⟩
/-- a list that stands at a -/
def isL (a : Addr) (ds : List D) (M : Mem) : Prop := M a = some (.lst ds)
def lsOf (M : Mem) (d : D) (Q : (Mem → Prop) → List D → Prop) : Prop := match d with
  | .ref a => match M a with
    | some (.lst ds) => Q (isL a ds) ds
    | _ => False
  | .kl ds => Q (fun _ => True) ds
  | _ => False
theorem lsOf_mono {M : Mem} {d : D} {Q Q' : (Mem → Prop) → List D → Prop} (h : ∀ a ds, Q a ds → Q' a ds) (q : lsOf M d Q) : lsOf M d Q' := by
  unfold lsOf at q ⊢
  split at q
  · split at q
    · exact h _ _ q
    · exact q.elim
  · exact h _ _ q
  · exact q.elim
theorem lsOf_to {K : PySem.W.Frag} {H : Hp} {M : Mem} {v : V} {d : D} {Q : (Mem → Prop) → List D → Prop} (r : Rep K H v d) (m : RM K H M) (q : lsOf M d Q) :
    ∃ a live ds, v = .ref a ∧ Q live ds ∧ live M ∧ ∀ H' M', Keep H H' → RM K H' M' → live M' → ∃ xs, SqL K H' a xs ∧ Reps K H' xs ds := by
  unfold lsOf at q
  split at q
  · split at q
    · rename_i e
      cases r
      refine ⟨_, _, _, rfl, q, e, fun H' M' k m' l => ?_⟩
      obtain ⟨xs, e', r'⟩ := m'.lst l
      exact ⟨xs, .inl (.inl e'), r'⟩
    · exact q.elim
  · cases r with
    | kl h rr => exact ⟨_, _, _, rfl, q, trivial, fun H' M' k m' _ => ⟨_, (SqK.keep k h).sq, rr.keep k⟩⟩
  · exact q.elim
theorem lsOf_at {K : PySem.W.Frag} {H : Hp} {M : Mem} {v : V} {d : D} {Q : (Mem → Prop) → List D → Prop} (r : Rep K H v d) (m : RM K H M) (q : lsOf M d Q) :
    ∃ a live ds xs, v = .ref a ∧ Q live ds ∧ SqL K H a xs ∧ Reps K H xs ds := by
  obtain ⟨a, live, ds, e, q, l, f⟩ := lsOf_to r m q
  obtain ⟨xs, h, rr⟩ := f H M (Keep.refl H) m l
  exact ⟨a, live, ds, xs, e, q, h, rr⟩
def iTupD (te : DTE) : DTI := fun τ M Q => te τ M fun d M1 => match d with
  | .tup ds => Q ⟨ds, fun _ => True⟩ M1
  | _ => False
def iLstD (te : DTE) : DTI := fun τ M Q => te τ M fun d M1 => lsOf M1 d fun live ds => Q ⟨ds, live⟩ M1
theorem itr_tup {K : PySem.W.Frag} {H : Hp} {a : Addr} {xs : List V} {ds : List D} (h : SqT K H a xs) (r : Reps K H xs ds) : ItR K H (Itt K a) ⟨ds, fun _ => True⟩ where
  go := fun i d H' M k m _ e => let ⟨v, e1, _⟩ := r.get e; ⟨xs, v, SqT.keep k h, e1⟩
  yld := fun i d H' M x H2 k m _ e y => by
    obtain ⟨rfl, y⟩ := y
    obtain ⟨v, e1, rv⟩ := r.get e
    have := y xs (SqT.keep k h)
    rw [e1] at this; cases this
    exact ⟨Keep.refl _, rv.keep k, m⟩
  stop := fun i H' M k m _ l => ⟨xs, SqT.keep k h, by rw [r.length]; exact l⟩
theorem itr_lst {K : PySem.W.Frag} {H : Hp} {a : Addr} {live : Mem → Prop} {ds : List D} (f : ∀ H' M', Keep H H' → RM K H' M' → live M' → ∃ xs, SqL K H' a xs ∧ Reps K H' xs ds) : ItR K H (Itl K a) ⟨ds, live⟩ where
  go := fun i d H' M k m l e => let ⟨xs, h, r⟩ := f H' M k m l; let ⟨v, e1, _⟩ := r.get e; ⟨xs, v, h, e1⟩
  yld := fun i d H' M x H2 k m l e y => by
    obtain ⟨rfl, y⟩ := y
    obtain ⟨xs, h, r⟩ := f _ M k m l
    obtain ⟨v, e1, rv⟩ := r.get e
    have := y xs h
    rw [e1] at this; cases this
    exact ⟨Keep.refl _, rv, m⟩
  stop := fun i H' M k m l q => let ⟨xs, h, r⟩ := f H' M k m l; ⟨xs, h, by rw [r.length]; exact q⟩
variable {te : DTE}
theorem di_tup (he : DE X e te) : DI X tg e (iTupD te) := by
  refine di_of (pi_tup he.pe) (fun h q => he.mono.go (fun d M1 q => ?_) q) fun σ H R τ M hs hm q => ?_
  · split at q
    · exact h _ _ q
    · exact q.elim
  · refine ⟨τ, M, hs, hm, he.mono.go (fun d M1 q v H1 k r m => ?_) q⟩
    split at q
    · cases r with
      | tup h rr => exact ⟨_, rfl, ⟨_, h⟩, q _ _ k m (itr_tup h rr)⟩
    · exact q.elim
theorem di_lst (he : DE X e te) : DI X tg e (iLstD te) := by
  refine di_of (pi_list he.pe) (fun h q => he.mono.go (fun d M1 q => lsOf_mono (fun a ds q => h _ _ q) q) q) fun σ H R τ M hs hm q => ?_
  refine ⟨τ, M, hs, hm, he.mono.go (fun d M1 q v H1 k r m => ?_) q⟩
  obtain ⟨a, live, ds, rfl, q, l, f⟩ := lsOf_to r m q
  obtain ⟨xs, h, _⟩ := f H1 M1 (Keep.refl _) m l
  exact ⟨a, rfl, ⟨xs, h⟩, q _ _ k m (itr_lst f)⟩
/-- range -/
def rngD (lo hi : Int) : List D := (List.range (hi - lo).toNat).map fun i => D.int (lo + (i : Nat))
def small62 (i : Int) : Prop := -(2 ^ 62) ≤ i ∧ i < 2 ^ 62
def iRng (ta : DTA) : DTI := fun τ M Q => ta τ M fun ds M1 => match ds with
  | [.int j] => small62 j ∧ Q ⟨rngD 0 j, fun _ => True⟩ M1
  | [.int i, .int j] => (small62 i ∧ small62 j) ∧ Q ⟨rngD i j, fun _ => True⟩ M1
  | _ => False
theorem rngD_get {lo hi : Int} {i : Nat} {d : D} (e : (rngD lo hi)[i]? = some d) : i < (hi - lo).toNat ∧ d = .int (lo + (i : Nat)) := by
  unfold rngD at e
  rw [List.getElem?_map] at e
  by_cases h : i < (hi - lo).toNat
  · rw [List.getElem?_range h] at e; cases e; exact ⟨h, rfl⟩
  · rw [List.getElem?_eq_none (by rw [List.length_range]; omega)] at e; cases e
theorem itr_rng {K : PySem.W.Frag} {H : Hp} {lo hi : Int} : ItR K H (Itr lo (hi - lo).toNat) ⟨rngD lo hi, fun _ => True⟩ where
  go := fun i d H' M k m _ e => (rngD_get e).1
  yld := fun i d H' M x H2 k m _ e y => by
    obtain ⟨rfl, rfl⟩ := y
    obtain ⟨_, rfl⟩ := rngD_get e
    exact ⟨Keep.refl _, .int _, m⟩
  stop := fun i H' M k m _ q => by
    have : (rngD lo hi).length ≤ i := q
    unfold rngD at this
    rw [List.length_map, List.length_range] at this
    exact this
theorem di_rng1 {a : Expr} {ta : DTA} {p pos : Pos} (hg : Gl X "range") (hm : X.mg "range" = none) (ha : DA X [a] ta) (hl : ∀ τ M Q, ta τ M Q → ta τ M fun ds M1 => ds.length = 1 ∧ Q ds M1) (hs : starEach [a] X.env = [(false, eval a X.env)] := by rfl) : DI X tg (.Call (.Name "range" p) [a] [] pos) (iRng ta) := by
  refine di_of (pi_range1 hg hm ha.pa hs) (fun h q => ha.mono.go (fun ds M1 q => ?_) q) fun σ H R τ M hs hm q => ?_
  · split at q
    · exact ⟨q.1, h _ _ q.2⟩
    · exact ⟨q.1, h _ _ q.2⟩
    · exact q.elim
  · refine ⟨τ, M, hs, hm, ha.mono.go (fun ds M1 q vs H1 k r m => ?_) (hl _ _ _ q)⟩
    obtain ⟨ln, q⟩ := q
    split at q
    · cases r with
      | cons r1 r => cases r; cases r1; exact ⟨_, rfl, q.1.1, q.1.2, q.2 _ _ k m (by have := @itr_rng X.K H1 0; simpa using this)⟩
    · simp at ln
    · exact q.elim
theorem di_rng2 {a b : Expr} {ta : DTA} {p pos : Pos} (hg : Gl X "range") (hm : X.mg "range" = none) (ha : DA X [a, b] ta) (hl : ∀ τ M Q, ta τ M Q → ta τ M fun ds M1 => ds.length = 2 ∧ Q ds M1) (hs : starEach [a, b] X.env = [(false, eval a X.env), (false, eval b X.env)] := by rfl) (hs2 : starEach [b] X.env = [(false, eval b X.env)] := by rfl) : DI X tg (.Call (.Name "range" p) [a, b] [] pos) (iRng ta) := by
  refine di_of (pi_range2 hg hm ha.pa hs hs2) (fun h q => ha.mono.go (fun ds M1 q => ?_) q) fun σ H R τ M hs hm q => ?_
  · split at q
    · exact ⟨q.1, h _ _ q.2⟩
    · exact ⟨q.1, h _ _ q.2⟩
    · exact q.elim
  · refine ⟨τ, M, hs, hm, ha.mono.go (fun ds M1 q vs H1 k r m => ?_) (hl _ _ _ q)⟩
    obtain ⟨ln, q⟩ := q
    split at q
    · simp at ln
    · cases r with
      | cons r1 r =>
        cases r with
        | cons r2 r => cases r; cases r1; cases r2; exact ⟨_, _, rfl, ⟨q.1.1.1, q.1.1.2, q.1.2.1, q.1.2.2⟩, q.2 _ _ k m itr_rng⟩
    · exact q.elim
theorem da_len1 {e1 : DTE} (m : MonoE e1) : ∀ τ M Q, dCons e1 dNil τ M Q → dCons e1 dNil τ M fun ds M1 => ds.length = 1 ∧ Q ds M1 := fun τ M Q q => m.go (fun _ _ q => ⟨rfl, q⟩) q
theorem da_len2 {e1 e2 : DTE} (m : MonoE e1) (n : MonoE e2) : ∀ τ M Q, dCons e1 (dCons e2 dNil) τ M Q → dCons e1 (dCons e2 dNil) τ M fun ds M1 => ds.length = 2 ∧ Q ds M1 := fun τ M Q q => m.go (fun _ _ q => n.go (fun _ _ q => ⟨rfl, q⟩) q) q
theorem di_range1 {a : Expr} {ta : DTE} {p pos : Pos} (hg : Gl X "range") (hm : X.mg "range" = none) (ha : DE X a ta) (hst : starEach [a] X.env = (false, eval a X.env) :: starEach [] X.env := by rfl) (hs : starEach [a] X.env = [(false, eval a X.env)] := by rfl) : DI X tg (.Call (.Name "range" p) [a] [] pos) (iRng (dCons ta dNil)) :=
  di_rng1 hg hm (da_cons ha da_nil hst) (da_len1 ha.mono) hs
theorem di_range2 {a b : Expr} {ta tb : DTE} {p pos : Pos} (hg : Gl X "range") (hm : X.mg "range" = none) (ha : DE X a ta) (hb : DE X b tb) (hst : starEach [a, b] X.env = (false, eval a X.env) :: starEach [b] X.env := by rfl) (hst2 : starEach [b] X.env = (false, eval b X.env) :: starEach [] X.env := by rfl) (hs : starEach [a, b] X.env = [(false, eval a X.env), (false, eval b X.env)] := by rfl) (hs2 : starEach [b] X.env = [(false, eval b X.env)] := by rfl) : DI X tg (.Call (.Name "range" p) [a, b] [] pos) (iRng (dCons ta (dCons tb dNil))) :=
  di_rng2 hg hm (da_cons ha (da_cons hb da_nil hst2) hst) (da_len2 ha.mono hb.mono) hs hs2
/-- the signs of a text -/
def strD (x : Str) : List D := x.cps.toList.map fun c => D.str ⟨#[c]⟩
def iStrD (te : DTE) : DTI := fun τ M Q => te τ M fun d M1 => match d with
  | .str x => Q ⟨strD x, fun _ => True⟩ M1
  | _ => False
theorem itr_str {K : PySem.W.Frag} {H : Hp} {x : Str} : ItR K H (Its x) ⟨strD x, fun _ => True⟩ where
  go := fun i d H' M k m _ e => by
    have h := (List.getElem?_eq_some_iff.mp e).1
    unfold strD at h
    show i < x.cps.size
    simpa using h
  yld := fun i d H' M v H2 k m _ e y => by
    obtain ⟨rfl, c, hc, rfl⟩ := y
    unfold strD at e
    rw [List.getElem?_map, Array.getElem?_toList, hc] at e
    cases e
    exact ⟨Keep.refl _, .str _, m⟩
  stop := fun i H' M k m _ q => by
    have : (strD x).length ≤ i := q
    unfold strD at this
    show x.cps.size ≤ i
    simpa using this
theorem di_str (he : DE X e te) : DI X tg e (iStrD te) := by
  refine di_of (pi_str he.pe) (fun h q => he.mono.go (fun d M1 q => ?_) q) fun σ H R τ M hs hm q => ?_
  · split at q
    · exact h _ _ q
    · exact q.elim
  · refine ⟨τ, M, hs, hm, he.mono.go (fun d M1 q v H1 k r m => ?_) q⟩
    split at q
    · cases r
      exact ⟨_, rfl, q _ _ k m itr_str⟩
    · exact q.elim
end

/-! ### for, while -/
def dLoop (live : Mem → Prop) (g : DTG) (tb : DTS) : List D → DEnds → DS → Mem → Prop
  | [], E, τ, M => live M ∧ E.nx τ M
  | d :: r, E, τ, M => live M ∧ g d τ M fun τ2 M2 => tb { nx := dLoop live g tb r E, rt := E.rt, bk := E.nx, ct := dLoop live g tb r E } τ2 M2
def dFor (wi : DTI) (g : DTG) (tb : DTS) : DTS := fun E τ M => wi τ M fun I M1 => dLoop I.live g tb I.items E τ M1
theorem dLoop_mono {live : Mem → Prop} {g : DTG} {tb : DTS} (mg : MonoG g) (mb : MonoS tb) : ∀ (r : List D) {E E' : DEnds} {τ : DS} {M : Mem}, E.Imp E' → dLoop live g tb r E τ M → dLoop live g tb r E' τ M
  | [], _, _, _, _, h, q => ⟨q.1, h.nx _ _ q.2⟩
  | _ :: r, E, E', _, _, h, q => ⟨q.1, mg.go (fun _ _ q => mb.go (E := { nx := dLoop live g tb r E, rt := E.rt, bk := E.nx, ct := dLoop live g tb r E }) (E' := { nx := dLoop live g tb r E', rt := E'.rt, bk := E'.nx, ct := dLoop live g tb r E' }) ⟨fun _ _ q => dLoop_mono mg mb r h q, h.rt, h.nx, fun _ _ q => dLoop_mono mg mb r h q⟩ q) q.2⟩
section
variable {X : Cx} {tg iter : Expr} {body : List Stmt} {wi : DTI} {g : DTG} {tb : DTS} {pos : Pos}
theorem ds_for (hp : PassesOwn (model X.prog X.w) X.A X.env X.xe) (hc : X.calm = true) (hi : DI X tg iter wi) (hg : DG X tg g) (hb : DSs X body tb) (hs : ∀ x, foldedSetIterable iter X.env x = pure x := by intro _; rfl) : DSt X (.For tg iter body [] pos) (dFor wi g tb) := by
  refine ds_of (ps_for hp hc hi.pi hg.pg hb.pss hs) (fun h q => hi.mono.go (fun I M1 q => dLoop_mono hg.mono hb.mono _ h q) q) fun D σ H τ M E a b c d => ?_
  refine ⟨τ, M, a, b, hi.mono.go (fun I M1 q J H1 k1 m1 it => ?_) d⟩
  refine ⟨fun i m σ' H' => m = I.items.length - i ∧ i ≤ I.items.length ∧ Keep H1 H' ∧ ∃ τ' M', RS X.K H' σ' τ' ∧ RM X.K H' M' ∧ dLoop I.live g tb (I.items.drop i) E τ' M', ⟨_, rfl, Nat.zero_le _, Keep.refl _, τ, M1, a.keep k1, m1, q⟩, ?_⟩
  rintro i m σ' H' ⟨rfl, hi', k2, τ', M', a', b', q⟩
  by_cases hl : i < I.items.length
  · have hd : I.items.drop i = I.items[i] :: I.items.drop (i + 1) := List.drop_eq_getElem_cons hl
    rw [hd] at q
    have ge : I.items[i]? = some I.items[i] := List.getElem?_eq_getElem hl
    refine .inr ⟨it.go i _ H' M' k2 b' q.1 ge, fun σ2 H2 => Keep H1 H2 ∧ ∃ τ' M', RS X.K H2 σ2 τ' ∧ RM X.K H2 M' ∧ dLoop I.live g tb (I.items.drop (i + 1)) E τ' M', fun σ2 H2 ⟨k, r⟩ => ⟨_, by omega, rfl, hl, k, r⟩, fun x H2 y => ?_⟩
    obtain ⟨k3, rx, m2⟩ := it.yld i _ H' M' x H2 k2 b' q.1 ge y
    refine ⟨_, τ', M', rx, a'.keep k3, m2, hg.mono.go (fun τ3 M3 q3 σ3 H3 k4 a3 m3 => ?_) q.2⟩
    refine ⟨τ3, M3, _, a3, m3, ⟨fun τ4 M4 σ4 H4 q k5 a4 m4 => ?_, fun d M4 v H4 q k5 => ?_, fun τ4 M4 σ4 H4 q k5 a4 m4 => ?_, fun τ4 M4 σ4 H4 q k5 a4 m4 => ?_⟩, q3⟩
    · exact ⟨k2.trans (k3.trans (k4.trans k5)), τ4, M4, a4, m4, q⟩
    · exact c.rt d M4 v H4 q (k1.trans (k2.trans (k3.trans (k4.trans k5))))
    · exact c.nx τ4 M4 σ4 H4 q (k1.trans (k2.trans (k3.trans (k4.trans k5)))) a4 m4
    · exact ⟨k2.trans (k3.trans (k4.trans k5)), τ4, M4, a4, m4, q⟩
  · have hd : I.items.drop i = [] := List.drop_eq_nil_of_le (by omega)
    rw [hd] at q
    exact .inl ⟨it.stop i H' M' k2 b' q.1 (by omega), c.nx _ _ _ _ q.2 (k1.trans k2) a' b'⟩
def dWhN (c : DTT) (tb : DTS) (E : DEnds) : Nat → DS → Mem → Prop
  | 0, _, _ => False
  | n + 1, τ, M => c τ M fun b M1 => if b = true then tb { nx := dWhN c tb E n, rt := E.rt, bk := E.nx, ct := dWhN c tb E n } τ M1 else E.nx τ M1
def dWhile (c : DTT) (tb : DTS) : DTS := fun E τ M => ∃ n, dWhN c tb E n τ M
theorem dWhN_mono {c : DTT} {tb : DTS} (mc : MonoT c) (mb : MonoS tb) {E E' : DEnds} (h : E.Imp E') : ∀ (n : Nat) {τ : DS} {M : Mem}, dWhN c tb E n τ M → dWhN c tb E' n τ M
  | 0, _, _, q => q
  | n + 1, _, _, q => mc.go (fun b M1 q => by
      cases b with
      | true => exact mb.go (E := { nx := dWhN c tb E n, rt := E.rt, bk := E.nx, ct := dWhN c tb E n }) (E' := { nx := dWhN c tb E' n, rt := E'.rt, bk := E'.nx, ct := dWhN c tb E' n }) ⟨fun _ _ q => dWhN_mono mc mb h n q, h.rt, h.nx, fun _ _ q => dWhN_mono mc mb h n q⟩ q
      | false => exact h.nx _ _ q) q
variable {c : Expr} {tc : DTT}
theorem ds_while (hp : PassesOwn (model X.prog X.w) X.A X.env X.xe) (hc : DT X c tc) (hb : DSs X body tb) : DSt X (.While c body [] pos) (dWhile tc tb) := by
  refine ds_of (ps_while hp hc.pt hb.pss) (fun h ⟨n, q⟩ => ⟨n, dWhN_mono hc.mono hb.mono h n q⟩) fun D σ H τ M E a b cc d => ?_
  obtain ⟨n, d⟩ := d
  refine ⟨fun m σ' H' => Keep H H' ∧ ∃ τ' M', RS X.K H' σ' τ' ∧ RM X.K H' M' ∧ dWhN tc tb E m τ' M', ⟨n, Keep.refl _, τ, M, a, b, d⟩, ?_⟩
  rintro m σ' H' ⟨k, τ', M', a', b', q⟩
  cases m with
  | zero => exact q.elim
  | succ m =>
    refine ⟨τ', M', a', b', hc.mono.go (fun z M1 q H2 k2 m2 => ?_) q⟩
    cases z with
    | true =>
      refine iteT ⟨fun σ2 H2 => Keep H H2 ∧ ∃ τ' M', RS X.K H2 σ2 τ' ∧ RM X.K H2 M' ∧ dWhN tc tb E m τ' M', fun σ2 H2 r => ⟨m, Nat.lt_succ_self m, r⟩, τ', M1, _, a'.keep k2, m2, ⟨fun τ4 M4 σ4 H4 q k5 a4 m4 => ?_, fun d M4 v H4 q k5 => ?_, fun τ4 M4 σ4 H4 q k5 a4 m4 => ?_, fun τ4 M4 σ4 H4 q k5 a4 m4 => ?_⟩, q⟩
      · exact ⟨k.trans (k2.trans k5), τ4, M4, a4, m4, q⟩
      · exact cc.rt d M4 v H4 q (k.trans (k2.trans k5))
      · exact cc.nx τ4 M4 σ4 H4 q (k.trans (k2.trans k5)) a4 m4
      · exact ⟨k.trans (k2.trans k5), τ4, M4, a4, m4, q⟩
    | false => exact iteF (cc.nx _ _ _ _ q (k.trans k2) (a'.keep k2) m2)
end

/-! ### list comprehensions -/
theorem wipe_get {σ : L2.St} : ∀ {vs : List Nat} {j : Nat}, (wipe σ vs)[j]? = if j ∈ vs ∧ j < σ.length then some none else σ[j]?
  | [], j => by simp [wipe]
  | v :: vs, j => by
    unfold wipe
    by_cases h : v = j
    · subst h
      by_cases hl : v < σ.length
      · rw [List.getElem?_set_self (by rw [wipe_length]; exact hl), if_pos ⟨List.mem_cons_self, hl⟩]
      · rw [List.getElem?_eq_none (by rw [List.length_set, wipe_length]; omega), if_neg (fun z => hl z.2), List.getElem?_eq_none (by omega)]
    · rw [List.getElem?_set_ne h, wipe_get]
      by_cases z : j ∈ vs ∧ j < σ.length
      · rw [if_pos z, if_pos ⟨List.mem_cons_of_mem _ z.1, z.2⟩]
      · rw [if_neg z, if_neg fun y => z ⟨by rcases List.mem_cons.mp y.1 with e | e; exact absurd e.symm h; exact e, y.2⟩]
theorem wipe_wipe (σ : L2.St) (vs : List Nat) : wipe (wipe σ vs) vs = wipe σ vs := by
  apply List.ext_getElem?
  intro j
  rw [wipe_get, wipe_length]
  split
  · rename_i h; rw [wipe_get, if_pos h]
  · rfl
theorem wipe_set {σ : L2.St} {i : Nat} {x : Option V} {vs : List Nat} (h : i ∈ vs) : wipe (σ.set i x) vs = wipe σ vs := by
  apply List.ext_getElem?
  intro j
  rw [wipe_get, wipe_get, List.length_set]
  by_cases z : j ∈ vs ∧ j < σ.length
  · rw [if_pos z, if_pos z]
  · rw [if_neg z, if_neg z]
    by_cases e : i = j
    · subst e
      have : ¬ i < σ.length := fun l => z ⟨h, l⟩
      rw [List.getElem?_eq_none (by rw [List.length_set]; omega), List.getElem?_eq_none (by omega)]
    · rw [List.getElem?_set_ne e]
/-- a target within a block: it stores its own names alone -/
def upGc (K : PySem.W.Frag) (vs : List Nat) (t : DTG) : TG := fun v σ H Q => ∃ d τ M, Rep K H v d ∧ RS K H σ τ ∧ RM K H M ∧ t d τ M (fun τ' M' => ∀ σ' H', Keep H H' → RS K H' σ' τ' → RM K H' M' → wipe σ' vs = wipe σ vs → Q σ' H')
def upGcs (K : PySem.W.Frag) (vs : List Nat) (t : DTGs) : TGs := fun v σ H Q => ∃ d τ M, Reps K H v d ∧ RS K H σ τ ∧ RM K H M ∧ t d τ M (fun τ' M' => ∀ σ' H', Keep H H' → RS K H' σ' τ' → RM K H' M' → wipe σ' vs = wipe σ vs → Q σ' H')
structure DGc (X : Cx) (e : Expr) (vs : List Nat) (t : DTG) : Prop where
  pg : PG X e (upGc X.K vs t)
  mono : MonoG t
structure DGcs (X : Cx) (e : List Expr) (vs : List Nat) (t : DTGs) : Prop where
  pgs : PGs X e (upGcs X.K vs t)
  mono : MonoGs t
section
variable {X : Cx} {vs : List Nat} {e : Expr} {es : List Expr} {pos : Pos}
theorem dgc_name {i : Nat} {x : Str} (hv : i ∈ vs) (hN : X.N.Nodup) (hi : X.N[i]? = some x) (hx : Loc X.env.scope x) (hf : X.fn x = true ∨ X.env.scope.names.lookup x = some .local := by first | exact .inl rfl | exact .inr rfl | assumption) : DGc X (.Name x pos) vs (gN i) := by
  refine ⟨PGimp (pg_name hN hi hx hf) fun v σ H Q ⟨d, τ, M, r, a, b, q⟩ => ?_, gN_mono i⟩
  have q' : ∀ σ' H', Keep H H' → RS X.K H' σ' (dset τ i d) → RM X.K H' M → wipe σ' vs = wipe σ vs → Q σ' H' := q
  rw [dset_eq] at q'
  exact q' _ H (Keep.refl H) (a.set i r) b (wipe_set hv)
theorem dgcs_nil : DGcs X [] vs gN0 := by
  refine ⟨PGsimp pgs_nil fun vs' σ H Q ⟨ds, τ, M, r, a, b, c⟩ => ?_, dgs_nil (X := X).mono⟩
  cases r with
  | nil => exact ⟨rfl, c _ _ (Keep.refl H) a b rfl⟩
  | cons => exact False.elim c
theorem gNc_mono {g : DTG} {gs : DTGs} (h1 : MonoG g) (h2 : MonoGs gs) : MonoGs (gNc g gs) := ⟨fun {ds τ M Q Q'} h q => by
  cases ds with
  | nil => exact False.elim q
  | cons => exact h1.go (fun _ _ q => h2.go (fun _ _ q => h _ _ q) q) q⟩
theorem dgcs_cons {g : DTG} {gs : DTGs} (h1 : DGc X e vs g) (h2 : DGcs X es vs gs) (hs : (assignEach (e :: es) X.env).map (·.2) = assign e X.env :: (assignEach es X.env).map (·.2) := by rfl) : DGcs X (e :: es) vs (gNc g gs) := by
  refine ⟨PGsimp (pgs_cons h1.pg h2.pgs hs) fun vs' σ H Q ⟨ds, τ, M, r, a, b, c⟩ => ?_, gNc_mono h1.mono h2.mono⟩
  cases r with
  | nil => exact False.elim c
  | cons rv rr => exact ⟨_, _, rfl, _, τ, M, rv, a, b, h1.mono.go (fun τ' M' q σ' H' k s m w => ⟨_, τ', M', rr.keep k, s, m, h2.mono.go (fun τ2 M2 q σ2 H2 k2 s2 m2 w2 => q σ2 H2 (k.trans k2) s2 m2 (w2.trans w)) q⟩) c⟩
theorem gTp_mono {n : Nat} {gs : DTGs} (h : MonoGs gs) : MonoG (gTp n gs) := ⟨fun {d τ M Q Q'} h2 q => by
  unfold gTp at q ⊢
  split at q
  · exact ⟨q.1, h.go h2 q.2⟩
  · exact q.elim⟩
theorem dgc_tup {k : Nat} {gs : DTGs} {n : Nat} (hc : X.calm = true) (h : DGcs X es vs gs) (hn : (assignEach es X.env).length = n := by rfl) (hst : (assignEach es X.env).findIdx? (·.1) = none := by rfl) : DGc X (.Tuple es k pos) vs (gTp n gs) := by
  refine ⟨PGimp (pg_tup hc h.pgs hn hst) fun v σ H Q ⟨d, τ, M, r, a, b, q⟩ => ?_, gTp_mono h.mono⟩
  unfold gTp at q
  split at q
  · cases r with
    | tup hs hr => exact ⟨_, _, rfl, hs, by rw [hr.length]; exact q.1, _, τ, M, hr, a, b, q.2⟩
  · exact q.elim
/-- the tests of a clause -/
structure DTs (X : Cx) (ifs : List Expr) (t : DTT) : Prop where
  pts : PTs X ifs (upT X.K t)
  mono : MonoT t
def dYes : DTT := fun _ M Q => Q true M
theorem dts_nil : DTs X [] dYes := ⟨⟨fun pins s σ H Q I ⟨τ, M, a, b, q⟩ => pts_nil.run pins s σ H Q I (q H (Keep.refl H) b)⟩, ⟨fun h q => h _ _ q⟩⟩
theorem dts_one {c : Expr} {t : DTT} (h : DT X c t) : DTs X [c] t := ⟨pts_one h.pt, h.mono⟩
def dLcL (live : Mem → Prop) (g : DTG) (tt : DTT) (te : DTE) (p : Addr) (τ : DS) : List D → List D → Mem → (Mem → Prop) → Prop
  | [], _, M, Q => live M ∧ Q M
  | d :: r, acc, M, Q => live M ∧ g d τ M fun τ2 M2 => tt τ2 M2 fun b M3 => if b = true then
      te τ2 M3 fun y M4 => M4 p = some (.lst acc) ∧ acc.length < sizeLine ∧ dLcL live g tt te p τ r (acc ++ [y]) (mupd M4 p (.lst (acc ++ [y]))) Q
    else dLcL live g tt te p τ r acc M3 Q
def dLc (wi : DTI) (g : DTG) (tt : DTT) (te : DTE) (vs : List Nat) : DTE := fun τ M Q => wi τ M fun I M1 => ∀ p, M1 p = none → dLcL I.live g tt te p (dwp τ vs) I.items [] (mupd M1 p (.lst [])) fun M2 => Q (.ref p) M2
theorem dLcL_mono {live : Mem → Prop} {g : DTG} {tt : DTT} {te : DTE} {p : Addr} {τ : DS} (mg : MonoG g) (mt : MonoT tt) (me : MonoE te) : ∀ (r acc : List D) {M : Mem} {Q Q' : Mem → Prop}, (∀ M, Q M → Q' M) → dLcL live g tt te p τ r acc M Q → dLcL live g tt te p τ r acc M Q'
  | [], _, _, _, _, h, q => ⟨q.1, h _ q.2⟩
  | _ :: r, _, _, _, _, h, q => ⟨q.1, mg.go (fun _ _ q => mt.go (fun b _ q => by
      cases b with
      | true => exact me.go (fun _ _ ⟨a, b, q⟩ => ⟨a, b, dLcL_mono mg mt me r _ h q⟩) q
      | false => exact dLcL_mono mg mt me r _ h q) q) q.2⟩
variable {elt tg iter : Expr} {ifs : List Expr} {scope : Scope} {own : List (Str × Nat)} {wi : DTI} {g : DTG} {tt : DTT} {te : DTE}
theorem lc_up (hi : MonoI wi) (mg : MonoG g) (mt : MonoT tt) (me : MonoE te) {vs : List Nat} {σ : L2.St} {H : Hp} {Q : VK} {τ : DS} {M : Mem} {K : PySem.W.Frag} (a : RS K H σ τ) (b : RM K H M)
    (q : dLc wi g tt te vs τ M (fun d M' => ∀ v H', Keep H H' → Rep K H' v d → RM K H' M' → Q v H')) : tLc (upI K wi) (upGc K vs g) (upT K tt) (upE K te) vs σ H Q := by
  refine ⟨τ, M, a, b, hi.go (fun I M1 q J H1 k1 m1 it => ?_) q⟩
  intro D hD
  have q := q D (m1.free hD)
  have kD : Keep H1 (upd H1 D (.lst [])) := Keep.new hD
  refine ⟨fun i m H' => m = I.items.length - i ∧ i ≤ I.items.length ∧ Keep H1 H' ∧ ∃ acc M', RM K H' M' ∧ dLcL I.live g tt te D (dwp τ vs) (I.items.drop i) acc M' fun M2 => ∀ v H', Keep H H' → Rep K H' v (.ref D) → RM K H' M2 → Q v H',
    ⟨_, rfl, Nat.zero_le _, kD, [], _, m1.new (m := .lst []) hD ⟨[], rfl, .nil⟩, q⟩, ?_⟩
  rintro i m H' ⟨rfl, hi', k2, acc, M', m', q⟩
  by_cases hl : i < I.items.length
  · have hd : I.items.drop i = I.items[i] :: I.items.drop (i + 1) := List.drop_eq_getElem_cons hl
    rw [hd] at q
    have ge : I.items[i]? = some I.items[i] := List.getElem?_eq_getElem hl
    refine .inr ⟨it.go i _ H' M' k2 m' q.1 ge, fun H2 => Keep H1 H2 ∧ ∃ acc M', RM K H2 M' ∧ dLcL I.live g tt te D (dwp τ vs) (I.items.drop (i + 1)) acc M' fun M2 => ∀ v H', Keep H H' → Rep K H' v (.ref D) → RM K H' M2 → Q v H',
      fun H2 r => ⟨_, by omega, rfl, hl, r⟩, fun x H2 y => ?_⟩
    obtain ⟨k3, rx, m2⟩ := it.yld i _ H' M' x H2 k2 m' q.1 ge y
    have aw : RS K H2 (wipe σ vs) (dwp τ vs) := by rw [dwp_eq]; exact (a.keep (k1.trans (k2.trans k3))).wipe vs
    refine ⟨_, dwp τ vs, M', rx, aw, m2, mg.go (fun τ3 M3 q3 σ3 H3 k4 a3 m3 w3 => ⟨by rw [w3, wipe_wipe], ?_⟩) q.2⟩
    refine ⟨τ3, M3, a3, m3, mt.go (fun b M4 q4 H4 k5 m4 => ?_) q3⟩
    cases b with
    | true =>
      refine iteT ⟨τ3, M4, a3.keep k5, m4, me.go (fun y M5 ⟨e5, z5, q5⟩ v H5 k6 r5 m5 => ?_) q4⟩
      obtain ⟨ys, f5, g5⟩ := m5.lst e5
      have km : Keep H5 (upd H5 D (.lst (ys ++ [v]))) := Keep.mut (by rw [f5]; trivial)
      refine ⟨ys, f5, by rw [g5.length]; exact z5, (k2.trans (k3.trans (k4.trans (k5.trans k6)))).trans km, acc ++ [y], _, m5.write (m := .lst (acc ++ [y])) (by rw [f5]; trivial) ⟨_, rfl, (g5.append (.cons r5 .nil)).keep km⟩, q5⟩
    | false => exact iteF ⟨k2.trans (k3.trans (k4.trans k5)), acc, M4, m4, q4⟩
  · have hd : I.items.drop i = [] := List.drop_eq_nil_of_le (by omega)
    rw [hd] at q
    exact .inl ⟨it.stop i H' M' k2 m' q.1 (by omega), q.2 _ _ (k1.trans k2) (.ref D) m'⟩
theorem dLc_mono (hi : MonoI wi) (mg : MonoG g) (mt : MonoT tt) (me : MonoE te) {vs : List Nat} : MonoE (dLc wi g tt te vs) :=
  ⟨fun h q => hi.go (fun _ _ q p np => dLcL_mono mg mt me _ _ (fun _ q => h _ _ q) (q p np)) q⟩
theorem de_lc (hc : X.calm = true) (hN : X.N.Nodup) (hi : DI X tg iter wi) (ok : BlkOk X.N X.env.scope scope own)
    (hg : ∀ (s : Shared) (H : Hp) (C : Addr) (cl : List (Str × Addr)) (fp : List Addr), DGc (X.blk s H scope (compEnvC scope cl C X.env) fp) tg (own.map (·.2)) g) (ht : ∀ (s : Shared) (H : Hp) (C : Addr) (cl : List (Str × Addr)) (fp : List Addr), DTs (X.blk s H scope (compEnvC scope cl C X.env) fp) ifs tt)
    (he : ∀ (s : Shared) (H : Hp) (C : Addr) (cl : List (Str × Addr)) (fp : List Addr), DE (X.blk s H scope (compEnvC scope cl C X.env) fp) elt te) (hs : ∀ x, foldedSetIterable iter X.env x = pure x := by intro _; rfl) :
    DE X (.ListComp elt [⟨tg, iter, ifs, 0⟩] scope pos) (dLc wi g tt te (own.map (·.2))) := by
  have s0 : Shared := X.s_0
  refine de_of (pe_lc (g := upGc X.K (own.map (·.2)) g) (tt := upT X.K tt) (te := upE X.K te) hc hN hi.pi ok (fun s H C cl fp => (hg s H C cl fp).pg) (fun s H C cl fp => (ht s H C cl fp).pts) (fun s H C cl fp => (he s H C cl fp).pe) hs) (dLc_mono hi.mono (hg X.s_0 X.H_0 0 [] []).mono (ht X.s_0 X.H_0 0 [] []).mono (he X.s_0 X.H_0 0 [] []).mono).go fun σ H Q τ M a b q => ?_
  exact lc_up hi.mono (hg X.s_0 X.H_0 0 [] []).mono (ht X.s_0 X.H_0 0 [] []).mono (he X.s_0 X.H_0 0 [] []).mono a b q
theorem ds_setLc {i : Nat} {y : Str} {py spos : Pos} (hc : X.calm = true) (hN : X.N.Nodup) (hy : X.N[i]? = some y) (hyl : X.env.scope.names.lookup y = some .local)
    (hsw : swapsWith (.ListComp elt [⟨tg, iter, ifs, 0⟩] scope pos) (some (.Name y py)) spos.line X.env = pure true) (hi : DI X tg iter wi) (ok : BlkOk X.N X.env.scope scope own)
    (hg : ∀ (s : Shared) (H : Hp) (C : Addr) (cl : List (Str × Addr)) (fp : List Addr), DGc (X.blk s H scope (compEnvC scope cl C X.env) fp) tg (own.map (·.2)) g) (ht : ∀ (s : Shared) (H : Hp) (C : Addr) (cl : List (Str × Addr)) (fp : List Addr), DTs (X.blk s H scope (compEnvC scope cl C X.env) fp) ifs tt)
    (he : ∀ (s : Shared) (H : Hp) (C : Addr) (cl : List (Str × Addr)) (fp : List Addr), DE (X.blk s H scope (compEnvC scope cl C X.env) fp) elt te) (hs : ∀ x, foldedSetIterable iter X.env x = pure x := by intro _; rfl) :
    DSt X (.Assign [.Name y py] (.ListComp elt [⟨tg, iter, ifs, 0⟩] scope pos) spos) (dAsg (dLc wi g tt te (own.map (·.2))) (gN i)) := by
  have mm : MonoE (dLc wi g tt te (own.map (·.2))) := dLc_mono hi.mono (hg X.s_0 X.H_0 0 [] []).mono (ht X.s_0 X.H_0 0 [] []).mono (he X.s_0 X.H_0 0 [] []).mono
  refine ds_of (ps_setLc (g := upGc X.K (own.map (·.2)) g) (tt := upT X.K tt) (te := upE X.K te) hc hN hy hyl hsw hi.pi ok (fun s H C cl fp => (hg s H C cl fp).pg) (fun s H C cl fp => (ht s H C cl fp).pts) (fun s H C cl fp => (he s H C cl fp).pe) hs) (dAsg_mono mm (gN_mono i)).go fun D σ H τ M E a b c d => ?_
  refine lc_up hi.mono (hg X.s_0 X.H_0 0 [] []).mono (ht X.s_0 X.H_0 0 [] []).mono (he X.s_0 X.H_0 0 [] []).mono a b (mm.go (fun d M1 q v H1 k r m => ?_) d)
  have q' : E.nx (dset τ i d) M1 := q
  rw [dset_eq] at q'
  exact c.nx _ _ _ _ q' k ((a.keep k).set i r) m
end
end DL

namespace DL
open PySem PySem.Spec PyProof.Rows L2

section
variable {X : Cx} {K : PySem.W.Frag}
/-! ### numbers -/
def pI0 (g : Int → Int → D) : DR2 := fun x y M Q => match x, y with
  | .int i, .int j => Q (g i j) M
  | _, _ => False
def pI (C : Int → Int → Prop) (g : Int → Int → D) : DR2 := fun x y M Q => match x, y with
  | .int i, .int j => C i j ∧ Q (g i j) M
  | _, _ => False
theorem pI0_mono {g : Int → Int → D} : MonoR2 (pI0 g) := ⟨fun {x y M Q Q'} h q => by
  unfold pI0 at q ⊢
  split at q
  · exact h _ _ q
  · exact q.elim⟩
theorem pI_mono {C : Int → Int → Prop} {g : Int → Int → D} : MonoR2 (pI C g) := ⟨fun {x y M Q Q'} h q => by
  unfold pI at q ⊢
  split at q
  · exact ⟨q.1, h _ _ q.2⟩
  · exact q.elim⟩
theorem opd_I0 {gv : Int → Int → V} {g : Int → Int → D} (r : ∀ i j H, Rep K H (gv i j) (g i j)) : OpD K (rI0 gv) (pI0 g) := ⟨fun {x y dx dy H M Qd Q} rx ry m q o => by
  unfold pI0 at q
  split at q
  · cases rx; cases ry; exact ⟨_, _, rfl, rfl, o _ _ _ _ q (Keep.refl H) (r _ _ _) m⟩
  · exact q.elim, pI0_mono⟩
theorem opd_I {C : Int → Int → Prop} {gv : Int → Int → V} {g : Int → Int → D} (r : ∀ i j H, Rep K H (gv i j) (g i j)) : OpD K (rI C gv) (pI C g) := ⟨fun {x y dx dy H M Qd Q} rx ry m q o => by
  unfold pI at q
  split at q
  · cases rx; cases ry; exact ⟨_, _, rfl, rfl, q.1, o _ _ _ _ q.2 (Keep.refl H) (r _ _ _) m⟩
  · exact q.elim, pI_mono⟩
def CDv (i j : Int) : Prop := j ≠ 0 ∧ Builtin.divisionGoesByPylong i j = false
theorem op_fdivV : OpR X (binaryOp .FloorDiv) (rI CDv fun i j => .int (i.fdiv j)) := opI fun i j _ _ _ _ _ hc q => floordiv_int hc.1 q (.inl hc.2)
theorem cdv_log {i j : Int} (h : j ≠ 0) (hb : j.natAbs.log2 < 9000) : CDv i j := ⟨h, PyProof.noPylong_of_log2 hb⟩
theorem cdv_small {i j : Int} (h : j ≠ 0) {b : Nat} (hb : j.natAbs < 2 ^ b) (h9 : b ≤ 9000) : CDv i j := by
  refine cdv_log h ?_
  rw [Nat.log2_lt (by omega)]
  exact Nat.lt_of_lt_of_le hb (Nat.pow_le_pow_right (by decide) h9)
abbrev pSub : DR2 := pI0 fun i j => .int (i - j)
abbrev pFdiv : DR2 := pI CDv fun i j => .int (i.fdiv j)
abbrev pMod : DR2 := pI (fun _ j => j ≠ 0) fun i j => .int (i.fmod j)
abbrev pPow : DR2 := pI CPow fun i j => .int (i ^ j.toNat)
theorem opd_sub : OpD K (rI0 fun i j => .int (i - j)) pSub := opd_I0 fun _ _ _ => .int _
theorem opd_fdiv : OpD K (rI CDv fun i j => .int (i.fdiv j)) pFdiv := opd_I fun _ _ _ => .int _
theorem opd_mod : OpD K (rI (fun _ j => j ≠ 0) fun i j => .int (i.fmod j)) pMod := opd_I fun _ _ _ => .int _
theorem opd_pow : OpD K (rI CPow fun i j => .int (i ^ j.toNat)) pPow := opd_I fun _ _ _ => .int _
/-! ### + of numbers, texts, tuples, lists -/
def pAdd : DR2 := fun x y M Q => match x, y with
  | .int i, .int j => Q (.int (i + j)) M
  | .str x, .str y => x.length + y.length ≤ sizeLine ∧ Q (.str (x ++ y)) M
  | .tup xs, .tup ys => xs.length + ys.length ≤ sizeLine ∧ Q (.tup (xs ++ ys)) M
  | .ref a, .ref b => match M a, M b with
    | some (.lst xs), some (.lst ys) => xs.length + ys.length ≤ sizeLine ∧ ∀ p, M p = none → Q (.ref p) (mupd M p (.lst (xs ++ ys)))
    | _, _ => False
  | _, _ => False
theorem pAdd_mono : MonoR2 pAdd := ⟨fun {x y M Q Q'} h q => by
  unfold pAdd at q ⊢
  split at q
  · exact h _ _ q
  · exact ⟨q.1, h _ _ q.2⟩
  · exact ⟨q.1, h _ _ q.2⟩
  · split at q
    · exact ⟨q.1, fun p np => h _ _ (q.2 p np)⟩
    · exact q.elim
  · exact q.elim⟩
abbrev rAddS : R2 := fun x y H Q => ∃ i j, x = .str i ∧ y = .str j ∧ i.length + j.length ≤ sizeLine ∧ Q (.str (i ++ j)) H
def rAddAll (K : PySem.W.Frag) : R2 := fun x y H Q => rI0 (fun i j => .int (i + j)) x y H Q ∨ (rAddS x y H Q ∨ (rCatA K x y H Q ∨ rCat x y H Q))
theorem op_addAll : OpR X (binaryOp .Add) (rAddAll X.K) := op_add.or (op_add_str.or (op_catA.or op_cat))
theorem opd_add : OpD K (rAddAll K) pAdd := ⟨fun {x y dx dy H M Qd Q} rx ry m q o => by
  unfold pAdd at q
  split at q
  · cases rx; cases ry; exact .inl ⟨_, _, rfl, rfl, o _ _ _ _ q (Keep.refl H) (.int _) m⟩
  · cases rx; cases ry; exact .inr (.inl ⟨_, _, rfl, rfl, q.1, o _ _ _ _ q.2 (Keep.refl H) (.str _) m⟩)
  · cases rx with
    | tup h1 r1 =>
      cases ry with
      | tup h2 r2 =>
        refine .inr (.inr (.inl ⟨_, _, _, _, rfl, rfl, h1, h2, by rw [r1.length, r2.length]; exact q.1, fun e => ?_, fun _ e => ?_, fun _ _ p np => ?_⟩))
        · subst e; cases r1; exact o _ _ _ _ q.2 (Keep.refl H) (.tup h2 r2) m
        · subst e; cases r2
          have q2 := q.2
          rw [List.append_nil] at q2
          exact o _ _ _ _ q2 (Keep.refl H) (.tup h1 r1) m
        · exact o _ _ _ _ q.2 (Keep.new np) (.tup (SqT.of upd_same) ((r1.append r2).keep (Keep.new np))) (m.fresh np)
  · split at q
    · rename_i e1 e2
      cases rx; cases ry
      obtain ⟨xs, h1, r1⟩ := m.lst e1
      obtain ⟨ys, h2, r2⟩ := m.lst e2
      exact .inr (.inr (.inr ⟨_, _, _, _, rfl, rfl, h1, h2, by rw [r1.length, r2.length]; exact q.1, fun p np => o _ _ _ _ (q.2 p (m.free np)) (Keep.new np) (.ref p) (m.new (m := .lst _) np ⟨_, rfl, (r1.append r2).keep (Keep.new np)⟩)⟩))
    · exact q.elim
  · exact q.elim, pAdd_mono⟩
/-! ### * -/
def pMul : DR2 := fun x y M Q => match x, y with
  | .int i, .int j => CMulX i j ∧ Q (.int (i * j)) M
  | .ref a, .int k => match M a with
    | some (.lst xs) => -(2 ^ 63) ≤ k ∧ k < 2 ^ 63 ∧ xs.length * k.toNat ≤ sizeLine ∧ ∀ p, M p = none → Q (.ref p) (mupd M p (.lst (List.replicate k.toNat xs).flatten))
    | _ => False
  | _, _ => False
theorem pMul_mono : MonoR2 pMul := ⟨fun {x y M Q Q'} h q => by
  unfold pMul at q ⊢
  split at q
  · exact ⟨q.1, h _ _ q.2⟩
  · split at q
    · exact ⟨q.1, q.2.1, q.2.2.1, fun p np => h _ _ (q.2.2.2 p np)⟩
    · exact q.elim
  · exact q.elim⟩
def rMulAll : R2 := fun x y H Q => rI CMulX (fun i j => .int (i * j)) x y H Q ∨ rRep x y H Q
theorem op_mulAll : OpR X (binaryOp .Mult) rMulAll := op_mulX.or op_rep
theorem Reps.flat {H : Hp} {xs : List V} {ds : List D} (h : Reps K H xs ds) : ∀ n : Nat, Reps K H (List.replicate n xs).flatten (List.replicate n ds).flatten
  | 0 => .nil
  | n + 1 => by
    rw [List.replicate_succ, List.replicate_succ, List.flatten_cons, List.flatten_cons]
    exact h.append (Reps.flat h n)
theorem opd_mul : OpD K rMulAll pMul := ⟨fun {x y dx dy H M Qd Q} rx ry m q o => by
  unfold pMul at q
  split at q
  · cases rx; cases ry; exact .inl ⟨_, _, rfl, rfl, q.1, o _ _ _ _ q.2 (Keep.refl H) (.int _) m⟩
  · split at q
    · rename_i e1
      cases rx; cases ry
      obtain ⟨xs, h1, r1⟩ := m.lst e1
      exact .inr ⟨_, _, _, rfl, rfl, h1, q.1, q.2.1, by rw [r1.length]; exact q.2.2.1, fun p np => o _ _ _ _ (q.2.2.2 p (m.free np)) (Keep.new np) (.ref p) (m.new (m := .lst _) np ⟨_, rfl, (r1.flat _).keep (Keep.new np)⟩)⟩
    · exact q.elim
  · exact q.elim, pMul_mono⟩
/-! ### unary -/
def pU (g : Int → D) : DR1 := fun x M Q => match x with
  | .int i => Q (g i) M
  | _ => False
theorem und_U {gv : Int → V} {g : Int → D} (r : ∀ i H, Rep K H (gv i) (g i)) : UnD K (rU gv) (pU g) := ⟨fun {x dx H M Qd Q} rx m q o => by
  unfold pU at q
  split at q
  · cases rx; exact ⟨_, rfl, o _ _ _ _ q (Keep.refl H) (r _ _) m⟩
  · exact q.elim, ⟨fun {x M Q Q'} h q => by
  unfold pU at q ⊢
  split at q
  · exact h _ _ q
  · exact q.elim⟩⟩
abbrev pNeg : DR1 := pU fun i => .int (-i)
theorem und_neg : UnD K (rU fun i => .int (-i)) pNeg := und_U fun _ _ => .int _

/-! ### comparisons of data -/
mutual
/-- a value as data, none where something that changes stands within -/
def toP : D → Option PyData
  | .non => some .none
  | .bl b => some (.bool b)
  | .int i => some (.int i)
  | .str x => some (.str x)
  | .tup ds => (toPs ds).map .tuple
  | .ref _ => none
  | .ty _ => none
  | .kl ds => (toPs ds).map .list
def toPs : List D → Option (List PyData)
  | [] => some []
  | d :: ds => match toP d, toPs ds with
    | some p, some ps => some (p :: ps)
    | _, _ => none
end
def toPM (M : Mem) (d : D) : Option PyData := match d with
  | .ref a => match M a with
    | some (.lst ds) => (toPs ds).map .list
    | _ => none
  | d => toP d
mutual
theorem toP_dp {H : Hp} : ∀ {d : D} {v : V} {p : PyData}, Rep K H v d → toP d = some p → Dp K H v p
  | .non, _, _, r, e => by cases r; cases e; exact .non
  | .bl _, _, _, r, e => by cases r; cases e; exact .bl _
  | .int _, _, _, r, e => by cases r; cases e; exact .int _
  | .str _, _, _, r, e => by cases r; cases e; exact .str _
  | .tup ds, _, _, r, e => by
    cases r with
    | tup h r =>
      unfold toP at e
      cases q : toPs ds with
      | none => rw [q] at e; cases e
      | some ps => rw [q] at e; cases e; exact .tup h (toPs_dp r q)
  | .kl ds, _, _, r, e => by
    cases r with
    | kl h r =>
      unfold toP at e
      cases q : toPs ds with
      | none => rw [q] at e; cases e
      | some ps => rw [q] at e; cases e; exact .lst h.sq (toPs_dp r q)
  | .ref _, _, _, _, e => by cases e
  | .ty _, _, _, _, e => by cases e
theorem toPs_dp {H : Hp} : ∀ {ds : List D} {vs : List V} {ps : List PyData}, Reps K H vs ds → toPs ds = some ps → DpAll K H vs ps
  | [], _, _, r, e => by cases r; cases e; exact .nil
  | d :: ds, _, _, r, e => by
    cases r with
    | cons h r =>
      unfold toPs at e
      cases q : toP d with
      | none => rw [q] at e; cases e
      | some p =>
        cases q2 : toPs ds with
        | none => rw [q, q2] at e; cases e
        | some ps => rw [q, q2] at e; cases e; exact .cons (toP_dp h q) (toPs_dp r q2)
end
theorem toPM_dp {H : Hp} {M : Mem} {d : D} {v : V} {p : PyData} (m : RM K H M) (r : Rep K H v d) (e : toPM M d = some p) : Dp K H v p := by
  unfold toPM at e
  split at e
  · cases r
    split at e
    · rename_i ds q
      obtain ⟨xs, h, rr⟩ := m _ _ q
      cases q2 : toPs ds with
      | none => rw [q2] at e; cases e
      | some ps => rw [q2] at e; cases e; exact .lst (.inl (.inl h)) (toPs_dp rr q2)
    · cases e
  · exact toP_dp r e
def eqG (M : Mem) (x y : D) (Q : Bool → Prop) : Prop := match toPM M x, toPM M y with
  | some p, some q => SeqAt.shaped p = true ∧ SeqAt.shaped q = true ∧ Q (PyData.eqv p q)
  | _, _ => False
def pEqB (k : Bool → Bool) : DR2 := fun x y M Q => match x, y with
  | .int i, .int j => Q (.bl (k (decide (i = j)))) M
  | .str i, .str j => Q (.bl (k (decide (i = j)))) M
  | .bl i, .bl j => Q (.bl (k (decide (i = j)))) M
  | x, y => eqG M x y fun b => Q (.bl (k b)) M
abbrev pEq : DR2 := pEqB id
abbrev pNe : DR2 := pEqB not
theorem eqG_mono {M : Mem} {x y : D} {Q Q' : Bool → Prop} (h : ∀ b, Q b → Q' b) (q : eqG M x y Q) : eqG M x y Q' := by
  unfold eqG at q ⊢
  split at q
  · exact ⟨q.1, q.2.1, h _ q.2.2⟩
  · exact q.elim
theorem pEqB_mono {k : Bool → Bool} : MonoR2 (pEqB k) := ⟨fun {x y M Q Q'} h q => by
  unfold pEqB at q ⊢
  split at q
  · exact h _ _ q
  · exact h _ _ q
  · exact h _ _ q
  · exact eqG_mono (fun b q => h _ _ q) q⟩
def rEqAll (K : PySem.W.Frag) : R2 := fun x y H Q => rEq x y H Q ∨ rEqD K x y H Q
def rNeAll (K : PySem.W.Frag) : R2 := fun x y H Q => rNe x y H Q ∨ rNeD K x y H Q
theorem op_eqAll (hu : X.A.units + 64 < cLine) : OpR X (compareOp .Eq) (rEqAll X.K) := op_eq.or (op_eqD hu)
theorem op_neAll (hu : X.A.units + 64 < cLine) : OpR X (compareOp .NotEq) (rNeAll X.K) := op_ne.or (op_neD hu)
theorem opd_eq : OpD K (rEqAll K) pEq := ⟨fun {x y dx dy H M Qd Q} rx ry m q o => by
  unfold pEq pEqB at q
  split at q
  · cases rx; cases ry; exact .inl ⟨rfl, o _ _ _ _ q (Keep.refl H) (by rw [dec_int, ← Bool.beq_eq_decide_eq]; exact .bl _) m⟩
  · cases rx; cases ry; exact .inl ⟨rfl, o _ _ _ _ q (Keep.refl H) (by rw [dec_str, ← Bool.beq_eq_decide_eq]; exact .bl _) m⟩
  · cases rx; cases ry; exact .inl ⟨rfl, o _ _ _ _ q (Keep.refl H) (by rw [dec_bl, ← Bool.beq_eq_decide_eq]; exact .bl _) m⟩
  · unfold eqG at q
    split at q
    · rename_i e1 e2
      exact .inr ⟨_, _, toPM_dp m rx e1, toPM_dp m ry e2, q.1, q.2.1, o _ _ _ _ q.2.2 (Keep.refl H) (.bl _) m⟩
    · exact q.elim, pEqB_mono⟩
theorem opd_ne : OpD K (rNeAll K) pNe := ⟨fun {x y dx dy H M Qd Q} rx ry m q o => by
  unfold pNe pEqB at q
  split at q
  · cases rx; cases ry; exact .inl ⟨rfl, o _ _ _ _ q (Keep.refl H) (by rw [dec_int, ← Bool.beq_eq_decide_eq]; exact .bl _) m⟩
  · cases rx; cases ry; exact .inl ⟨rfl, o _ _ _ _ q (Keep.refl H) (by rw [dec_str, ← Bool.beq_eq_decide_eq]; exact .bl _) m⟩
  · cases rx; cases ry; exact .inl ⟨rfl, o _ _ _ _ q (Keep.refl H) (by rw [dec_bl, ← Bool.beq_eq_decide_eq]; exact .bl _) m⟩
  · unfold eqG at q
    split at q
    · rename_i e1 e2
      exact .inr ⟨_, _, toPM_dp m rx e1, toPM_dp m ry e2, q.1, q.2.1, o _ _ _ _ q.2.2 (Keep.refl H) (.bl _) m⟩
    · exact q.elim, pEqB_mono⟩
abbrev pLt : DR2 := pI0 fun i j => .bl (decide (i < j))
abbrev pLe : DR2 := pI0 fun i j => .bl (decide (i ≤ j))
abbrev pGt : DR2 := pI0 fun i j => .bl (decide (j < i))
abbrev pGe : DR2 := pI0 fun i j => .bl (decide (j ≤ i))
theorem opd_lt : OpD K (rI0 fun i j => .bl (decide (i < j))) pLt := opd_I0 fun _ _ _ => .bl _
theorem opd_le : OpD K (rI0 fun i j => .bl (decide (i ≤ j))) pLe := opd_I0 fun _ _ _ => .bl _
theorem opd_gt : OpD K (rI0 fun i j => .bl (decide (j < i))) pGt := opd_I0 fun _ _ _ => .bl _
theorem opd_ge : OpD K (rI0 fun i j => .bl (decide (j ≤ i))) pGe := opd_I0 fun _ _ _ => .bl _
/-- is, is not: None, and truth values -/
def pIsB (k : Bool → Bool) : DR2 := fun x y M Q => match x, y with
  | .non, .non => Q (.bl (k true)) M
  | .bl a, .bl b => Q (.bl (k (decide (a = b)))) M
  | _, .non => Q (.bl (k false)) M
  | _, _ => False
abbrev pIs : DR2 := pIsB id
abbrev pIsN : DR2 := pIsB not
theorem pIsB_mono {k : Bool → Bool} : MonoR2 (pIsB k) := ⟨fun {x y M Q Q'} h q => by
  unfold pIsB at q ⊢
  split at q
  · exact h _ _ q
  · exact h _ _ q
  · rename_i z; cases x <;> first | exact h _ _ q | exact (z rfl).elim
  · exact q.elim⟩
abbrev rIsNn : R2 := fun x y H Q => y = .non ∧ Q (.bl (decide (x = .non))) H
abbrev rIsNnN : R2 := fun x y H Q => y = .non ∧ Q (.bl (!decide (x = .non))) H
def rIsAll : R2 := fun x y H Q => rIsNn x y H Q ∨ rIsB x y H Q
def rIsnAll : R2 := fun x y H Q => rIsNnN x y H Q ∨ rNotB x y H Q
theorem op_isAll : OpR X (compareOp .Is) rIsAll := op_isN.or op_isBl
theorem op_isnAll : OpR X (compareOp .IsNot) rIsnAll := op_notN.or op_notBl
theorem opd_is : OpD K rIsAll pIs := ⟨fun {x y dx dy H M Qd Q} rx ry m q o => by
  unfold pIs pIsB at q
  split at q
  · cases rx; cases ry; exact .inl ⟨rfl, o _ _ _ _ q (Keep.refl H) (.bl _) m⟩
  · cases rx; cases ry; exact .inr ⟨_, _, rfl, rfl, o _ _ _ _ q (Keep.refl H) (.bl _) m⟩
  · rename_i z
    cases ry
    refine .inl ⟨rfl, o _ _ _ _ q (Keep.refl H) ?_ m⟩
    rw [decide_eq_false (by intro e; subst e; cases rx; exact z rfl)]
    exact .bl _
  · exact q.elim, pIsB_mono⟩
theorem opd_isn : OpD K rIsnAll pIsN := ⟨fun {x y dx dy H M Qd Q} rx ry m q o => by
  unfold pIsN pIsB at q
  split at q
  · cases rx; cases ry; exact .inl ⟨rfl, o _ _ _ _ q (Keep.refl H) (.bl _) m⟩
  · cases rx; cases ry; exact .inr ⟨_, _, rfl, rfl, o _ _ _ _ q (Keep.refl H) (.bl _) m⟩
  · rename_i z
    cases ry
    refine .inl ⟨rfl, o _ _ _ _ q (Keep.refl H) ?_ m⟩
    rw [decide_eq_false (by intro e; subst e; cases rx; exact z rfl)]
    exact .bl _
  · exact q.elim, pIsB_mono⟩
/-! ### a op b op c -/
def dChain (r r' : DR2) (ta tb tc : DTE) : DTE := fun τ M Q => ta τ M fun x M1 => tb τ M1 fun y M2 => r x y M2 fun z M3 => asB z M3 fun k M3 => if k = true then tc τ M3 fun w M4 => r' y w M4 Q else Q (.bl false) M3
theorem dChain_mono {r r' : DR2} {ta tb tc : DTE} (ma : MonoE ta) (mb : MonoE tb) (mc : MonoE tc) (mr : MonoR2 r) (mr' : MonoR2 r') : MonoE (dChain r r' ta tb tc) := ⟨fun h q => ma.go (fun _ _ q => mb.go (fun _ _ q => mr.go (fun _ _ q => asB_mono (fun k _ q => by
  cases k with
  | true => exact mc.go (fun _ _ q => mr'.go h q) q
  | false => exact h _ _ q) q) q) q) q⟩
theorem upChain {r r' : R2} {rd rd' : DR2} {ta tb tc : DTE} (o : OpD K r rd) (o' : OpD K r' rd') (ma : MonoE ta) (mb : MonoE tb) (mc : MonoE tc) {σ : L2.St} {H : Hp} {Q : VK} {τ : DS} {M : Mem} (hs : RS K H σ τ) (hm : RM K H M)
    (q : dChain rd rd' ta tb tc τ M (fun d M' => ∀ v H', Keep H H' → Rep K H' v d → RM K H' M' → Q v H')) : tChain r r' (upE K ta) (upE K tb) (upE K tc) σ H Q := by
  refine ⟨τ, M, hs, hm, ma.go (fun x M1 q v H1 k1 r1 m1 => ⟨τ, M1, hs.keep k1, m1, mb.go (fun y M2 q w H2 k2 r2 m2 => ?_) q⟩) q⟩
  refine o.to (r1.keep k2) r2 m2 q fun d M3 u H3 qq k3 r3 m3 => ?_
  obtain ⟨k, e, qq⟩ := asB_to r3 qq
  refine ⟨k, e, ?_⟩
  cases k with
  | true =>
    refine iteT ⟨τ, M3, hs.keep (k1.trans (k2.trans k3)), m3, mc.go (fun z M4 q v4 H4 k4 r4 m4 => ?_) qq⟩
    exact o'.to ((r2.keep k3).keep k4) r4 m4 q fun d M' u H' qq k5 r5 m5 => qq u H' (k1.trans (k2.trans (k3.trans (k4.trans k5)))) r5 m5
  | false => exact iteF (qq _ H3 (k1.trans (k2.trans k3)) (.bl false) m3)
variable {a b c : Expr} {ta tb tc : DTE} {pos : Pos}
theorem de_chain {op op' : CmpOp} {r r' : R2} {rd rd' : DR2} (ho : OpR X (compareOp op) r) (ho' : OpR X (compareOp op') r') (o : OpD X.K r rd) (o' : OpD X.K r' rd') (ha : DE X a ta) (hb : DE X b tb) (hc : DE X c tc)
    (hm : lastMarks [op, op'] [b, c] = false := by with_unfolding_all rfl) : DE X (.Compare a [op, op'] [b, c] pos) (dChain rd rd' ta tb tc) :=
  de_of (pe_chain ho ho' ha.pe hb.pe hc.pe hm) (dChain_mono ha.mono hb.mono hc.mono o.mono o'.mono).go fun σ H Q τ M hs hm q => upChain o o' ha.mono hb.mono hc.mono hs hm q
theorem dt_chain {op op' : CmpOp} {r r' : R2} {rd rd' : DR2} (ho : OpR X (compareOp op) r) (ho' : OpR X (compareOp op') r') (o : OpD X.K r rd) (o' : OpD X.K r' rd') (ha : DE X a ta) (hb : DE X b tb) (hc : DE X c tc)
    (hm : lastMarks [op, op'] [b, c] = false := by with_unfolding_all rfl) : DT X (.Compare a [op, op'] [b, c] pos) (dTest (dChain rd rd' ta tb tc)) := by
  have mm := dChain_mono ha.mono hb.mono hc.mono o.mono o'.mono
  refine dt_of (pt_chain ho ho' ha.pe hb.pe hc.pe hm) (dTest_mono mm).go fun σ H Q τ M hs hm q => ?_
  refine upChain o o' ha.mono hb.mono hc.mono hs hm (mm.go (fun d M' q v H' k1 r1 m1 => ?_) q)
  obtain ⟨k, e, q⟩ := asB_to r1 q
  exact ⟨k, e, q H' k1 m1⟩
/-! ### subscripts -/
def optQ {α : Type} (o : Option α) (k : α → Prop) : Prop := match o with
  | some d => k d
  | none => False
theorem optQ_mono {α : Type} {o : Option α} {k k' : α → Prop} (h : ∀ d, k d → k' d) (q : optQ o k) : optQ o k' := by
  cases o with
  | none => exact q
  | some d => exact h _ q
theorem optQ_to {α : Type} {o : Option α} {k : α → Prop} (q : optQ o k) : ∃ d, o = some d ∧ k d := by
  cases o with
  | none => exact q.elim
  | some d => exact ⟨d, rfl, q⟩
def pIx : DR2 := fun x y M Q => match x, y with
  | .tup ds, .int i => optQ (atI ds i) fun d => Q d M
  | .str z, .int i => z.length ≤ sizeLine ∧ optQ (atI z.cps.toList i) fun c => Q (.str ⟨#[c]⟩) M
  | d, .int i => lsOf M d fun _ ds => optQ (atI ds i) fun d => Q d M
  | _, _ => False
theorem pIx_mono : MonoR2 pIx := ⟨fun {x y M Q Q'} h q => by
  unfold pIx at q ⊢
  split at q
  · exact optQ_mono (fun _ q => h _ _ q) q
  · exact ⟨q.1, optQ_mono (fun _ q => h _ _ q) q.2⟩
  · exact lsOf_mono (fun _ _ q => optQ_mono (fun _ q => h _ _ q) q) q
  · exact q.elim⟩
theorem atI_reps {H : Hp} {xs : List V} {ds : List D} (r : Reps K H xs ds) {i : Int} {d : D} (e : atI ds i = some d) : ∃ v, atI xs i = some v ∧ Rep K H v d := by
  unfold atI at e ⊢
  rw [r.length]
  cases q : ixN ds.length i with
  | none => rw [q] at e; cases e
  | some j =>
    rw [q] at e
    obtain ⟨v, e1, r1⟩ := r.get (i := j) (d := d) e
    exact ⟨v, e1, r1⟩
theorem opd_ix : OpD K (rIx K) pIx := ⟨fun {x y dx dy H M Qd Q} rx ry m q o => by
  unfold pIx at q
  split at q
  · cases ry
    cases rx with
    | tup h r =>
      obtain ⟨d, e, q⟩ := optQ_to q
      obtain ⟨v, e1, r1⟩ := atI_reps r e
      exact .inr (.inl ⟨_, _, _, _, rfl, rfl, h, e1, o _ _ _ _ q (Keep.refl H) r1 m⟩)
  · cases ry; cases rx
    obtain ⟨hz, q⟩ := q
    obtain ⟨d, e, q⟩ := optQ_to q
    exact .inr (.inr ⟨_, _, _, rfl, rfl, hz, e, o _ _ _ _ q (Keep.refl H) (.str _) m⟩)
  · cases ry
    obtain ⟨a, live, ds, xs, rfl, q, h, r⟩ := lsOf_at rx m q
    obtain ⟨d, e, q⟩ := optQ_to q
    obtain ⟨v, e1, r1⟩ := atI_reps r e
    exact .inl ⟨_, _, _, _, rfl, rfl, h, e1, o _ _ _ _ q (Keep.refl H) r1 m⟩
  · exact q.elim, pIx_mono⟩
theorem de_ix (ha : DE X a ta) (hb : DE X b tb) (hs : PlainIx b) : DE X (.Subscript a b pos) (dOp pIx ta tb) :=
  de_of (pe_ix ix_seq ha.pe hb.pe hs) (dOp_mono ha.mono hb.mono pIx_mono).go fun σ H Q τ M h1 hm q => up2 opd_ix ha.mono hb.mono h1 hm q
/-! slices -/
def cutL {α : Type} (xs : List α) (lo hi : Option Int) : List α := (xs.drop (HT.sIx xs.length 0 lo)).take (HT.sIx xs.length xs.length hi - HT.sIx xs.length 0 lo)
abbrev DTO := DS → Mem → (Option Int → Mem → Prop) → Prop
def dNoPart : DTO := fun _ M Q => Q none M
def dPart (t : DTE) : DTO := fun τ M Q => t τ M fun d M1 => match d with
  | .int i => Q (some i) M1
  | _ => False
structure MonoO (t : DTO) : Prop where
  go : ∀ {τ : DS} {M : Mem} {Q Q' : Option Int → Mem → Prop}, (∀ d M', Q d M' → Q' d M') → t τ M Q → t τ M Q'
def upO (K : PySem.W.Frag) (t : DTO) : TO := fun σ H Q => ∃ τ M, RS K H σ τ ∧ RM K H M ∧ t τ M (fun b M' => ∀ H', Keep H H' → RM K H' M' → Q b H')
structure DO (X : Cx) (e : Option Expr) (t : DTO) : Prop where
  po : PO X e (upO X.K t)
  mono : MonoO t
theorem do_none : DO X none dNoPart := ⟨⟨fun pins s σ H Q I ⟨τ, M, a, b, q⟩ => po_none.run pins s σ H Q I (q H (Keep.refl H) b)⟩, ⟨fun h q => h _ _ q⟩⟩
theorem do_some (h : DE X a ta) : DO X (some a) (dPart ta) := by
  refine ⟨⟨fun pins s σ H Q I ⟨τ, M, hs, hm, q⟩ => (po_some h.pe).run pins s σ H Q I ⟨τ, M, hs, hm, h.mono.go (fun d M1 q v H1 k r m => ?_) q⟩⟩, ⟨fun h2 q => h.mono.go (fun d M1 q => ?_) q⟩⟩
  · split at q
    · cases r; exact ⟨_, rfl, q H1 k m⟩
    · exact q.elim
  · split at q
    · exact h2 _ _ q
    · exact q.elim
def pSl (x : D) (lo hi : Option Int) (M : Mem) (Q : DQ) : Prop := match x with
  | .tup ds => Q (.tup (cutL ds lo hi)) M
  | .str z => z.length ≤ sizeLine ∧ Q (.str (cutS z lo hi)) M
  | d => lsOf M d fun _ ds => ∀ p, M p = none → Q (.ref p) (mupd M p (.lst (cutL ds lo hi)))
theorem pSl_mono {x : D} {lo hi : Option Int} {M : Mem} {Q Q' : DQ} (h : ∀ d M', Q d M' → Q' d M') (q : pSl x lo hi M Q) : pSl x lo hi M Q' := by
  unfold pSl at q ⊢
  split at q
  · exact h _ _ q
  · exact ⟨q.1, h _ _ q.2⟩
  · exact lsOf_mono (fun _ _ q p np => h _ _ (q p np)) q
def dSl (te : DTE) (tl th : DTO) : DTE := fun τ M Q => te τ M fun x M1 => tl τ M1 fun l M2 => th τ M2 fun u M3 => pSl x l u M3 Q
def rSlAll (K : PySem.W.Frag) : V → Option Int → Option Int → Hp → VK → Prop := fun x lo hi H Q => rSlA K x lo hi H Q ∨ ((fun x lo hi H Q => ∃ z, x = .str z ∧ z.length ≤ sizeLine ∧ Q (.str (cutS z lo hi)) H) x lo hi H Q ∨ rSlL K x lo hi H Q)
theorem sl_all : SlR X (rSlAll X.K) := sl_tupA.or (sl_str.or sl_list)
theorem Reps.cut {H : Hp} {xs : List V} {ds : List D} (h : Reps K H xs ds) (lo hi : Option Int) : Reps K H (cutV xs lo hi) (cutL ds lo hi) := by
  unfold cutV cutL
  rw [h.length]
  exact (h.drop _).take _
theorem cutL_all {α : Type} {xs : List α} {lo hi : Option Int} (h : HT.sIx xs.length 0 lo = 0 ∧ HT.sIx xs.length xs.length hi = xs.length) : cutL xs lo hi = xs := by
  unfold cutL
  rw [h.1, h.2]
  simp
theorem sl_to {x : V} {dx : D} {lo hi : Option Int} {H : Hp} {M : Mem} {Qd : DQ} {Q : VK} (rx : Rep K H x dx) (m : RM K H M) (q : pSl dx lo hi M Qd) (o : Out K H Q Qd) : rSlAll K x lo hi H Q := by
  unfold pSl at q
  split at q
  · cases rx with
    | tup h r =>
      refine .inl ⟨_, _, rfl, h, fun e => ?_, fun e p np => ?_⟩
      · rw [r.length] at e
        rw [cutL_all e] at q
        exact o _ _ _ _ q (Keep.refl H) (.tup h r) m
      · exact o _ _ _ _ q (Keep.new np) (.tup (SqT.of upd_same) ((r.cut lo hi).keep (Keep.new np))) (m.fresh np)
  · cases rx
    exact .inr (.inl ⟨_, rfl, q.1, o _ _ _ _ q.2 (Keep.refl H) (.str _) m⟩)
  · obtain ⟨a, live, ds, xs, rfl, q, h, r⟩ := lsOf_at rx m q
    exact .inr (.inr ⟨_, _, rfl, h, fun p np => o _ _ _ _ (q p (m.free np)) (Keep.new np) (.ref p) (m.new (m := .lst _) np ⟨_, rfl, (r.cut lo hi).keep (Keep.new np)⟩)⟩)
theorem dSl_mono {te : DTE} {tl th : DTO} (me : MonoE te) (ml : MonoO tl) (mh : MonoO th) : MonoE (dSl te tl th) := ⟨fun h q => me.go (fun _ _ q => ml.go (fun _ _ q => mh.go (fun _ _ q => pSl_mono h q) q) q) q⟩
theorem de_slice {e : Expr} {lo hi : Option Expr} {te : DTE} {tl th : DTO} {p2 : Pos} (he : DE X e te) (hl : DO X lo tl) (hu : DO X hi th) : DE X (.Subscript e (.Slice lo hi none p2) pos) (dSl te tl th) := by
  refine de_of (pe_slice sl_all he.pe hl.po hu.po) (dSl_mono he.mono hl.mono hu.mono).go fun σ H Q τ M hs hm q => ?_
  refine ⟨τ, M, hs, hm, he.mono.go (fun d M1 q v H1 k1 r1 m1 => ⟨τ, M1, hs.keep k1, m1, hl.mono.go (fun l M2 q H2 k2 m2 => ⟨τ, M2, hs.keep (k1.trans k2), m2, hu.mono.go (fun u M3 q H3 k3 m3 => ?_) q⟩) q⟩) q⟩
  exact sl_to (r1.keep (k2.trans k3)) m3 q fun d M' v H' q k r m => q v H' (k1.trans (k2.trans (k3.trans k))) r m
end
end DL

namespace DL
open PySem PySem.Spec PyProof.Rows L2

section
variable {X : Cx} {K : PySem.W.Frag}
theorem reps1 {H : Hp} {xs : List V} {d : D} (r : Reps K H xs [d]) : ∃ v, xs = [v] ∧ Rep K H v d := by
  cases r with
  | cons h r => cases r; exact ⟨_, rfl, h⟩
theorem reps2 {H : Hp} {xs : List V} {d e : D} (r : Reps K H xs [d, e]) : ∃ v w, xs = [v, w] ∧ Rep K H v d ∧ Rep K H w e := by
  cases r with
  | cons h r =>
    cases r with
    | cons h2 r => cases r; exact ⟨_, _, rfl, h, h2⟩
/-! ### len -/
def pLen : DRL := fun ds M Q => match ds with
  | [.tup xs] => Q (.int (xs.length : Nat)) M
  | [.str x] => x.length ≤ sizeLine ∧ Q (.int (x.length : Nat)) M
  | [.kl xs] => Q (.int (xs.length : Nat)) M
  | [.ref a] => match M a with
    | some (.lst xs) => Q (.int (xs.length : Nat)) M
    | some (.dK kvs) => Q (.int (kvs.length : Nat)) M
    | _ => False
  | _ => False
abbrev rLenD : List V → Hp → VK → Prop := fun xs H Q => ∃ a kvs, xs = [V.ref a] ∧ H a = some (.dK kvs) ∧ Q (.int kvs.length) H
abbrev rLenL (K : PySem.W.Frag) : List V → Hp → VK → Prop := fun xs H Q => ∃ x n, xs = [x] ∧ LenV K x H n ∧ Q (.int n) H
def rLenAll (K : PySem.W.Frag) : List V → Hp → VK → Prop := fun xs H Q => rLenL K xs H Q ∨ rLenD xs H Q
theorem cr_len : CallR X (.builtin "len") (rLenAll X.K) := call_len.or call_lenD
theorem cd_len : CallD K (rLenAll K) pLen := ⟨fun {xs ds H M Qd Q} r m q o => by
  unfold pLen at q
  split at q
  · obtain ⟨v, rfl, rv⟩ := reps1 r
    cases rv with
    | tup h rr => exact .inl ⟨_, _, rfl, .inr ⟨_, h, rfl⟩, o _ _ _ _ q (Keep.refl H) (by rw [rr.length]; exact .int _) m⟩
  · obtain ⟨v, rfl, rv⟩ := reps1 r
    cases rv
    exact .inl ⟨_, _, rfl, ⟨q.1, rfl⟩, o _ _ _ _ q.2 (Keep.refl H) (.int _) m⟩
  · obtain ⟨v, rfl, rv⟩ := reps1 r
    cases rv with
    | kl h rr => exact .inl ⟨_, _, rfl, .inl ⟨_, h.sq, rfl⟩, o _ _ _ _ q (Keep.refl H) (by rw [rr.length]; exact .int _) m⟩
  · obtain ⟨v, rfl, rv⟩ := reps1 r
    cases rv
    split at q
    · rename_i e
      obtain ⟨ys, h, rr⟩ := m.lst e
      exact .inl ⟨_, _, rfl, .inl ⟨_, .inl (.inl h), rfl⟩, o _ _ _ _ q (Keep.refl H) (by rw [rr.length]; exact .int _) m⟩
    · rename_i kds e
      obtain ⟨kvs, h, rr⟩ := m _ _ e
      have hl : kvs.length = kds.length := by have := congrArg List.length rr.1; simpa using this
      exact .inr ⟨_, _, rfl, h, o _ _ _ _ q (Keep.refl H) (by rw [hl]; exact .int _) m⟩
    · exact q.elim
  · exact q.elim, ⟨fun {ds M Q Q'} h q => by
  unfold pLen at q ⊢
  split at q
  · exact h _ _ q
  · exact ⟨q.1, h _ _ q.2⟩
  · exact h _ _ q
  · split at q
    · exact h _ _ q
    · exact h _ _ q
    · exact q.elim
  · exact q.elim⟩⟩
/-! ### numbers -/
def pCI (g : Int → D) : DRL := fun ds M Q => match ds with
  | [.int i] => Q (g i) M
  | _ => False
theorem pCI_mono {g : Int → D} : MonoRL (pCI g) := ⟨fun {ds M Q Q'} h q => by
  unfold pCI at q ⊢
  split at q
  · exact h _ _ q
  · exact q.elim⟩
abbrev pAbs : DRL := pCI fun i => .int (i.natAbs : Nat)
theorem cd_abs : CallD K (fun xs H Q => ∃ i, xs = [.int i] ∧ Q (.int (if i < 0 then -i else i)) H) pAbs := ⟨fun {xs ds H M Qd Q} r m q o => by
  unfold pAbs pCI at q
  split at q
  · rename_i i
    obtain ⟨v, rfl, rv⟩ := reps1 r
    cases rv
    refine ⟨_, rfl, o _ _ _ _ q (Keep.refl H) ?_ m⟩
    have e : (if i < 0 then -i else i) = (i.natAbs : Int) := by split <;> omega
    rw [e]; exact .int _
  · exact q.elim, pCI_mono⟩
def pC2 (g : Int → Int → D) : DRL := fun ds M Q => match ds with
  | [.int i, .int j] => Q (g i j) M
  | _ => False
theorem pC2_mono {g : Int → Int → D} : MonoRL (pC2 g) := ⟨fun {ds M Q Q'} h q => by
  unfold pC2 at q ⊢
  split at q
  · exact h _ _ q
  · exact q.elim⟩
abbrev pMax2 : DRL := pC2 fun i j => .int (max i j)
abbrev pMin2 : DRL := pC2 fun i j => .int (min i j)
theorem cd_max2 : CallD K (fun xs H Q => ∃ i j, xs = [.int i, .int j] ∧ Q (.int (if j > i then j else i)) H) pMax2 := ⟨fun {xs ds H M Qd Q} r m q o => by
  unfold pMax2 pC2 at q
  split at q
  · rename_i i j
    obtain ⟨v, w, rfl, rv, rw'⟩ := reps2 r
    cases rv; cases rw'
    refine ⟨_, _, rfl, o _ _ _ _ q (Keep.refl H) ?_ m⟩
    have e : (if j > i then j else i) = max i j := by split <;> omega
    rw [e]; exact .int _
  · exact q.elim, pC2_mono⟩
theorem cd_min2 : CallD K (fun xs H Q => ∃ i j, xs = [.int i, .int j] ∧ Q (.int (if j < i then j else i)) H) pMin2 := ⟨fun {xs ds H M Qd Q} r m q o => by
  unfold pMin2 pC2 at q
  split at q
  · rename_i i j
    obtain ⟨v, w, rfl, rv, rw'⟩ := reps2 r
    cases rv; cases rw'
    refine ⟨_, _, rfl, o _ _ _ _ q (Keep.refl H) ?_ m⟩
    have e : (if j < i then j else i) = min i j := by split <;> omega
    rw [e]; exact .int _
  · exact q.elim, pC2_mono⟩
def pInt : DRL := fun ds M Q => match ds with
  | [.int i] => Q (.int i) M
  | [.bl k] => Q (.int (if k then 1 else 0)) M
  | _ => False
theorem cd_int : CallD K (fun xs H Q => (∃ i, xs = [.int i] ∧ Q (.int i) H) ∨ ∃ k, xs = [.bl k] ∧ Q (.int (if k then 1 else 0)) H) pInt := ⟨fun {xs ds H M Qd Q} r m q o => by
  unfold pInt at q
  split at q
  · obtain ⟨v, rfl, rv⟩ := reps1 r
    cases rv
    exact .inl ⟨_, rfl, o _ _ _ _ q (Keep.refl H) (.int _) m⟩
  · obtain ⟨v, rfl, rv⟩ := reps1 r
    cases rv
    exact .inr ⟨_, rfl, o _ _ _ _ q (Keep.refl H) (.int _) m⟩
  · exact q.elim, ⟨fun {ds M Q Q'} h q => by
  unfold pInt at q ⊢
  split at q
  · exact h _ _ q
  · exact h _ _ q
  · exact q.elim⟩⟩
def pStr : DRL := fun ds M Q => match ds with
  | [.int i] => i.natAbs.log2 < 1920 ∧ Q (.str (toString i)) M
  | _ => False
theorem cd_str : CallD K (fun xs H Q => ∃ i, xs = [.int i] ∧ i.natAbs.log2 < 1920 ∧ Q (.str (toString i)) H) pStr := ⟨fun {xs ds H M Qd Q} r m q o => by
  unfold pStr at q
  split at q
  · obtain ⟨v, rfl, rv⟩ := reps1 r
    cases rv
    exact ⟨_, rfl, q.1, o _ _ _ _ q.2 (Keep.refl H) (.str _) m⟩
  · exact q.elim, ⟨fun {ds M Q Q'} h q => by
  unfold pStr at q ⊢
  split at q
  · exact ⟨q.1, h _ _ q.2⟩
  · exact q.elim⟩⟩
/-! ### tuple(x), list(x) -/
def pTuple : DRL := fun ds M Q => match ds with
  | [.tup xs] => Q (.tup xs) M
  | [d] => lsOf M d fun _ xs => Q (.tup xs) M
  | _ => False
theorem cd_tuple : CallD K (fun xs H Q => ∃ p ys, xs = [.ref p] ∧ ((SqL K H p ys ∧ ∀ l, H l = none → Q (.ref l) (upd H l (.tup ys))) ∨ (SqT K H p ys ∧ Q (.ref p) H))) pTuple := ⟨fun {xs ds H M Qd Q} r m q o => by
  unfold pTuple at q
  split at q
  · obtain ⟨v, rfl, rv⟩ := reps1 r
    cases rv with
    | tup h rr => exact ⟨_, _, rfl, .inr ⟨h, o _ _ _ _ q (Keep.refl H) (.tup h rr) m⟩⟩
  · obtain ⟨v, rfl, rv⟩ := reps1 r
    obtain ⟨a, live, ds, ys, rfl, q, h, rr⟩ := lsOf_at rv m q
    exact ⟨_, _, rfl, .inl ⟨h, fun p np => o _ _ _ _ q (Keep.new np) (.tup (SqT.of upd_same) (rr.keep (Keep.new np))) (m.fresh np)⟩⟩
  · exact q.elim, ⟨fun {ds M Q Q'} h q => by
  unfold pTuple at q ⊢
  split at q
  · exact h _ _ q
  · exact lsOf_mono (fun _ _ q => h _ _ q) q
  · exact q.elim⟩⟩
def pList : DRL := fun ds M Q => match ds with
  | [.tup xs] => ∀ p, M p = none → Q (.ref p) (mupd M p (.lst xs))
  | [d] => lsOf M d fun _ xs => ∀ p, M p = none → Q (.ref p) (mupd M p (.lst xs))
  | _ => False
theorem cd_list : CallD K (fun xs H Q => ∃ p ys, xs = [.ref p] ∧ (SqL K H p ys ∨ SqT K H p ys) ∧ ∀ l, H l = none → Q (.ref l) (upd H l (.lst ys))) pList := ⟨fun {xs ds H M Qd Q} r m q o => by
  unfold pList at q
  split at q
  · obtain ⟨v, rfl, rv⟩ := reps1 r
    cases rv with
    | tup h rr => exact ⟨_, _, rfl, .inr h, fun p np => o _ _ _ _ (q p (m.free np)) (Keep.new np) (.ref p) (m.new (m := .lst _) np ⟨_, rfl, rr.keep (Keep.new np)⟩)⟩
  · obtain ⟨v, rfl, rv⟩ := reps1 r
    obtain ⟨a, live, ds, ys, rfl, q, h, rr⟩ := lsOf_at rv m q
    exact ⟨_, _, rfl, .inl h, fun p np => o _ _ _ _ (q p (m.free np)) (Keep.new np) (.ref p) (m.new (m := .lst _) np ⟨_, rfl, rr.keep (Keep.new np)⟩)⟩
  · exact q.elim, ⟨fun {ds M Q Q'} h q => by
  unfold pList at q ⊢
  split at q
  · exact fun p np => h _ _ (q p np)
  · exact lsOf_mono (fun _ _ q p np => h _ _ (q p np)) q
  · exact q.elim⟩⟩
/-! ### all, any, sum -/
def bsOf : List D → Option (List Bool)
  | [] => some []
  | .bl b :: ds => (bsOf ds).map (b :: ·)
  | _ => none
def nsOf : List D → Option (List Int)
  | [] => some []
  | .int b :: ds => (nsOf ds).map (b :: ·)
  | _ => none
theorem bsOf_eq : ∀ {ds : List D} {bs : List Bool}, bsOf ds = some bs → ds = bs.map D.bl
  | [], _, e => by cases e; rfl
  | .bl b :: ds, _, e => by
    unfold bsOf at e
    cases q : bsOf ds with
    | none => rw [q] at e; cases e
    | some cs => rw [q] at e; cases e; rw [bsOf_eq q]; rfl
theorem nsOf_eq : ∀ {ds : List D} {bs : List Int}, nsOf ds = some bs → ds = bs.map D.int
  | [], _, e => by cases e; rfl
  | .int b :: ds, _, e => by
    unfold nsOf at e
    cases q : nsOf ds with
    | none => rw [q] at e; cases e
    | some cs => rw [q] at e; cases e; rw [nsOf_eq q]; rfl
theorem bsOf_map {α : Type} (f : α → Bool) : ∀ xs : List α, bsOf (xs.map fun x => D.bl (f x)) = some (xs.map f)
  | [] => rfl
  | x :: xs => by rw [List.map_cons, bsOf, bsOf_map f xs]; rfl
theorem nsOf_map {α : Type} (f : α → Int) : ∀ xs : List α, nsOf (xs.map fun x => D.int (f x)) = some (xs.map f)
  | [] => rfl
  | x :: xs => by rw [List.map_cons, nsOf, nsOf_map f xs]; rfl
theorem nsOf_ints (xs : List Int) : nsOf (xs.map D.int) = some xs := by
  have := nsOf_map id xs
  simpa using this
def pBs (g : List Bool → D) : DRL := fun ds M Q => match ds with
  | [d] => lsOf M d fun _ xs => optQ (bsOf xs) fun bs => Q (g bs) M
  | _ => False
theorem pBs_mono {g : List Bool → D} : MonoRL (pBs g) := ⟨fun {ds M Q Q'} h q => by
  unfold pBs at q ⊢
  split at q
  · exact lsOf_mono (fun _ _ q => optQ_mono (fun _ q => h _ _ q) q) q
  · exact q.elim⟩
theorem cd_Bs {gv : List Bool → V} {g : List Bool → D} (hr : ∀ bs H, Rep K H (gv bs) (g bs)) : CallD K (fun vs H Q => ∃ (a : Addr) (bs : List Bool), vs = [V.ref a] ∧ SqL K H a (bs.map V.bl) ∧ Q (gv bs) H) (pBs g) := ⟨fun {xs ds H M Qd Q} r m q o => by
  unfold pBs at q
  split at q
  · obtain ⟨v, rfl, rv⟩ := reps1 r
    obtain ⟨a, live, ds, ys, rfl, q, h, rr⟩ := lsOf_at rv m q
    obtain ⟨bs, e, q⟩ := optQ_to q
    rw [bsOf_eq e] at rr
    rw [rr.bls] at h
    exact ⟨_, _, rfl, h, o _ _ _ _ q (Keep.refl H) (hr _ _) m⟩
  · exact q.elim, pBs_mono⟩
abbrev pAll : DRL := pBs fun bs => .bl (bs.all id)
abbrev pAny : DRL := pBs fun bs => .bl (bs.any id)
theorem cd_all : CallD K (rAll K) pAll := cd_Bs fun _ _ => .bl _
theorem cd_any : CallD K (rAny K) pAny := cd_Bs fun _ _ => .bl _
def pNs (g : List Int → D) : DRL := fun ds M Q => match ds with
  | [d] => lsOf M d fun _ xs => optQ (nsOf xs) fun bs => Q (g bs) M
  | _ => False
abbrev pSum : DRL := pNs fun ns => .int ns.sum
theorem cd_sum : CallD K (rSum K) pSum := ⟨fun {xs ds H M Qd Q} r m q o => by
  unfold pSum pNs at q
  split at q
  · obtain ⟨v, rfl, rv⟩ := reps1 r
    obtain ⟨a, live, ds, ys, rfl, q, h, rr⟩ := lsOf_at rv m q
    obtain ⟨bs, e, q⟩ := optQ_to q
    rw [nsOf_eq e] at rr
    rw [rr.ints] at h
    exact ⟨_, _, rfl, h, o _ _ _ _ q (Keep.refl H) (.int _) m⟩
  · exact q.elim, ⟨fun {ds M Q Q'} h q => by
  unfold pSum pNs at q ⊢
  split at q
  · exact lsOf_mono (fun _ _ q => optQ_mono (fun _ q => h _ _ q) q) q
  · exact q.elim⟩⟩
/-- sorted of a list of whole numbers -/
def pSortI : DRL := fun ds M Q => match ds with
  | [d] => lsOf M d fun _ xs => optQ (nsOf xs) fun ns => ∀ (ns' : List Int) (p : Addr), ns'.Perm ns → ns'.Pairwise (· ≤ ·) → M p = none → Q (.ref p) (mupd M p (.lst (ns'.map D.int)))
  | _ => False
theorem cd_sortI : CallD K (rSortedI K) pSortI := ⟨fun {xs ds H M Qd Q} r m q o => by
  unfold pSortI at q
  split at q
  · obtain ⟨v, rfl, rv⟩ := reps1 r
    obtain ⟨a, live, ds, ys, rfl, q, h, rr⟩ := lsOf_at rv m q
    obtain ⟨bs, e, q⟩ := optQ_to q
    rw [nsOf_eq e] at rr
    rw [rr.ints] at h
    exact ⟨_, _, rfl, h, fun ns' p hp hs np => o _ _ _ _ (q ns' p hp hs (m.free np)) (Keep.new np) (.ref p) (m.new (m := .lst _) np ⟨_, rfl, Reps.of_ints ns'⟩)⟩
  · exact q.elim, ⟨fun {ds M Q Q'} h q => by
  unfold pSortI at q ⊢
  split at q
  · exact lsOf_mono (fun _ _ q => optQ_mono (fun _ q ns' p a b c => h _ _ (q ns' p a b c)) q) q
  · exact q.elim⟩⟩
/-! ### isinstance -/
def kindD (M : Mem) (d : D) : Option String := match d with
  | .non => some "NoneType"
  | .bl _ => some "bool"
  | .int _ => some "int"
  | .str _ => some "str"
  | .tup _ => some "tuple"
  | .ref a => match M a with
    | some (.lst _) => some "list"
    | some (.dK _) => some "dict"
    | some (.dT _) => some "dict"
    | _ => none
  | .ty _ => none
  | .kl _ => some "list"
theorem kindD_ty {H : Hp} {M : Mem} {v : V} {d : D} {n : String} (m : RM K H M) (r : Rep K H v d) (e : kindD M d = some n) : TyX K H v (.type n) := by
  cases r with
  | non => cases e; exact .base .non
  | bl b => cases e; exact .base (.bl b)
  | int i => cases e; exact .base (.int i)
  | str x => cases e; exact .base (.str x)
  | ty n => cases e
  | tup h r =>
    cases e
    rcases h with (h | ⟨o, h⟩) | ⟨o, its, n, hk, hc, _⟩
    · exact .base (.tup h)
    · exact .fTuple h
    · exact .kTuple hk hc
  | kl h r =>
    cases e
    rcases h with ⟨o, h⟩ | ⟨o, its, n, hk, hc, _⟩
    · exact .base (.frz h)
    · exact .kList hk hc
  | ref a =>
    have e' : (match M a with
      | some (.lst _) => some "list"
      | some (.dK _) => some "dict"
      | some (.dT _) => some "dict"
      | _ => none) = some n := e
    split at e'
    · rename_i q
      cases e'
      obtain ⟨xs, h, _⟩ := m _ _ q
      exact .base (.lst h)
    · rename_i q
      cases e'
      obtain ⟨xs, h, _⟩ := m _ _ q
      exact .base (.dK h)
    · rename_i q
      cases e'
      obtain ⟨xs, h, _⟩ := m _ _ q
      exact .base (.dT h)
    · cases e'
def kinds : List String := ["NoneType", "bool", "int", "str", "tuple", "list", "dict"]
def isiB (a b : String) : Bool := decide (a = b) || (decide (a = "bool") && decide (b = "int"))
theorem isiB_kit : ∀ a ∈ kinds, ∀ b ∈ kinds, kitB a b = some (isiB a b) := by decide +kernel
def isiD (M : Mem) (d : D) (T : String) : Option Bool := match kindD M d with
  | some n => if n ∈ kinds ∧ T ∈ kinds then some (isiB n T) else none
  | none => none
def isiAny (M : Mem) (d : D) : List D → Option Bool
  | [] => (kindD M d).map fun _ => false
  | .ty T :: r => match isiD M d T, isiAny M d r with
    | some a, some b => some (a || b)
    | _, _ => none
  | _ => none
def pIsi : DRL := fun ds M Q => match ds with
  | [x, .ty T] => optQ (isiD M x T) fun b => Q (.bl b) M
  | [x, .tup cs] => optQ (isiAny M x cs) fun b => Q (.bl b) M
  | _ => False
theorem pIsi_mono : MonoRL pIsi := ⟨fun {ds M Q Q'} h q => by
  unfold pIsi at q ⊢
  split at q
  · exact optQ_mono (fun _ q => h _ _ q) q
  · exact optQ_mono (fun _ q => h _ _ q) q
  · exact q.elim⟩
/-- isinstance(x, t), t a tuple of classes wherever it stands -/
def rIsiS (K : PySem.W.Frag) : List V → Hp → VK → Prop := fun xs H Q => ∃ (x : V) (tp : Addr) (cs : List V) (t : Value) (us : List Value) (b : Bool), xs = [x, .ref tp] ∧ SqT K H tp cs ∧ Paired ClsV cs us ∧ TyX K H x t ∧ PySem.W.kitAny K t us = some b ∧ Q (.bl b) H
theorem call_isiS : CallR X (.builtin "isinstance") (rIsiS X.K) := by
  intro pins s σ H xs us Q I r h
  obtain ⟨x, tp, cs, t, ws, b, rfl, hT, k, ty, e, q⟩ := h
  obtain ⟨u1, u2, rfl, r1, r2⟩ := vals2 r
  cases (show u2 = Value.ref tp from r2)
  obtain ⟨P, Z, p, hx⟩ := kit_of I r1 ty
  obtain ⟨its, rv, ⟨o, h1, h2, n, h3⟩, _⟩ := I.tuple hT
  have e3 := ClsV.all k rv
  subst e3
  obtain ⟨oc, od, dt, sl⟩ := o
  simp only at h2 h3
  subst h2 h3
  exact PySem.W.kia_tup Z I.kIn p h1 e hx fun tk => ⟨.bl b, H, I.tok tk, rfl, q⟩
def rIsiAll (K : PySem.W.Frag) : List V → Hp → VK → Prop := fun xs H Q => rIsi K xs H Q ∨ rIsiS K xs H Q
theorem cr_isi : CallR X (.builtin "isinstance") (rIsiAll X.K) := call_isi.or call_isiS
theorem isiD_to {M : Mem} {d : D} {T : String} {b : Bool} (e : isiD M d T = some b) : ∃ n, kindD M d = some n ∧ kitB n T = some b := by
  unfold isiD at e
  split at e
  · rename_i n q
    split at e
    · rename_i z
      cases e
      exact ⟨n, q, isiB_kit n z.1 T z.2⟩
    · cases e
  · cases e
theorem isiAny_to {H : Hp} {M : Mem} {d : D} {n : String} (q : kindD M d = some n) : ∀ {cs : List D} {b : Bool}, isiAny M d cs = some b → ∀ {vs : List V}, Reps K H vs cs → ∃ us, Paired ClsV vs us ∧ PySem.W.kitAny K (.type n) us = some b
  | [], b, e, _, r => by
    unfold isiAny at e
    rw [q] at e
    cases e; cases r; exact ⟨[], .nil, rfl⟩
  | .ty T :: rest, b, e, _, r => by
    unfold isiAny at e
    split at e
    · rename_i a1 b1 h1 h2
      cases e
      cases r with
      | cons rh rt =>
        cases rh
        obtain ⟨us, hp, hk⟩ := isiAny_to q h2 rt
        obtain ⟨n', q', hb⟩ := isiD_to h1
        rw [q] at q'; cases q'
        refine ⟨.type T :: us, .cons (.ty T) hp, kitAny_cons (b := a1) (kit_ty hb) (fun z => ?_) (fun z => ?_)⟩
        · rw [z, Bool.false_or]; exact hk
        · rw [z, Bool.true_or]
    · cases e
theorem isiAny_some {M : Mem} {d : D} : ∀ {cs : List D} {b : Bool}, isiAny M d cs = some b → ∃ n, kindD M d = some n := fun {cs b} e => by
  cases z : kindD M d with
  | some n => exact ⟨n, rfl⟩
  | none =>
    cases cs with
    | nil => simp [isiAny, z] at e
    | cons c cs => cases c <;> simp [isiAny, isiD, z] at e
theorem cd_isi : CallD K (rIsiAll K) pIsi := ⟨fun {xs ds H M Qd Q} r m q o => by
  unfold pIsi at q
  split at q
  · obtain ⟨v, w, rfl, rv, rw'⟩ := reps2 r
    cases rw'
    obtain ⟨b, e, q⟩ := optQ_to q
    obtain ⟨n, hk, hb⟩ := isiD_to e
    exact .inl ⟨_, _, _, _, b, rfl, .ty _, kindD_ty m rv hk, kit_ty hb, o _ _ _ _ q (Keep.refl H) (.bl b) m⟩
  · obtain ⟨v, w, rfl, rv, rw'⟩ := reps2 r
    cases rw' with
    | tup h rr =>
      obtain ⟨b, e, q⟩ := optQ_to q
      obtain ⟨n, z⟩ := isiAny_some e
      obtain ⟨us, hp, hk⟩ := isiAny_to z e rr
      exact .inr ⟨_, _, _, _, us, b, rfl, h, hp, kindD_ty m rv z, hk, o _ _ _ _ q (Keep.refl H) (.bl b) m⟩
  · exact q.elim, pIsi_mono⟩
end
end DL

namespace DL
open PySem PySem.Spec PyProof.Rows L2

section
variable {X : Cx} {K : PySem.W.Frag}
/-! ### a built-in's methods -/
abbrev DRM := D → List D → Mem → DQ → Prop
structure MonoRM (rd : DRM) : Prop where
  go : ∀ {x : D} {ds : List D} {M : Mem} {Q Q' : DQ}, (∀ d M', Q d M' → Q' d M') → rd x ds M Q → rd x ds M Q'
structure MtD (K : PySem.W.Frag) (T : String) (r : V → List V → Hp → VK → Prop) (rd : DRM) (ty : Mem → D → Prop) : Prop where
  to : ∀ {x : V} {dx : D} {xs : List V} {ds : List D} {H : Hp} {M : Mem} {Qd : DQ} {Q : VK}, Rep K H x dx → Reps K H xs ds → RM K H M → rd dx ds M Qd → Out K H Q Qd → r x xs H Q
  isT : ∀ {x : V} {dx : D} {H : Hp} {M : Mem}, Rep K H x dx → RM K H M → ty M dx → tyV K T x H
  mono : MonoRM rd
def dBM (ty : Mem → D → Prop) (rd : DRM) (to : DTE) (t : DTA) : DTE := fun τ M Q => to τ M fun x M1 => ty M1 x ∧ t τ M1 fun ds M2 => rd x ds M2 Q
theorem dBM_mono {ty : Mem → D → Prop} {rd : DRM} {to : DTE} {t : DTA} (mo : MonoE to) (mt : MonoA t) (mr : MonoRM rd) : MonoE (dBM ty rd to t) := ⟨fun h q => mo.go (fun _ _ q => ⟨q.1, mt.go (fun _ _ q => mr.go h q) q.2⟩) q⟩
variable {o e : Expr} {es : List Expr} {to : DTE} {t : DTA} {name : Str} {apos cpos : Pos} {T id : String} {r : V → List V → Hp → VK → Prop} {rd : DRM} {ty : Mem → D → Prop}
theorem de_bm0 (pa : PlainAttrs T) (slot : Slot T name id) (hty : typeOf (.builtin id) = pure (.type "method_descriptor")) (hm : MtR X id r) (md : MtD X.K T r rd ty) (ho : DE X o to)
    (hbase : attributeBase o name X.env (eval o X.env) = eval o X.env := by rfl) (hline : (apos.endLine == cpos.line) = true := by rfl) : DE X (.Call (.Attribute o name apos) [] [] cpos) (dBM ty rd to dNil) :=
  de_of (pe_bm0 pa slot hty hm ho.pe hbase hline) (dBM_mono ho.mono (da_nil (X := X)).mono md.mono).go fun σ H Q τ M hs hm q =>
    ⟨τ, M, hs, hm, ho.mono.go (fun x M1 q v H1 k r m => ⟨md.isT r m q.1, md.to r .nil m q.2 fun d M' u H' q k2 r2 m2 => q u H' (k.trans k2) r2 m2⟩) q⟩
theorem de_bm (pa : PlainAttrs T) (slot : Slot T name id) (hty : typeOf (.builtin id) = pure (.type "method_descriptor")) (hm : MtR X id r) (md : MtD X.K T r rd ty) (ho : DE X o to) (ha : DA X (e :: es) t)
    (hbase : attributeBase o name X.env (eval o X.env) = eval o X.env := by rfl)
    (hfew : ((backTo cpos (starEach (e :: es) X.env)).all (fun x => !x.1) && (backToKw cpos (keywordEach [] X.env)).all (fun x => x.1.isSome)
      && decide ((e :: es).length + ([] : List Keyword).length + (if ([] : List Keyword).isEmpty then 0 else 1) < 30)) = true := by rfl)
    (hline : (apos.endLine == cpos.line) = true := by rfl) (hs : starEach (e :: es) X.env = (false, eval e X.env) :: starEach es X.env := by rfl) (hplain : (backTo cpos (starEach es X.env)).any (·.1) = false := by rfl) :
    DE X (.Call (.Attribute o name apos) (e :: es) [] cpos) (dBM ty rd to t) :=
  de_of (pe_bm pa slot hty hm ho.pe ha.pa hbase hfew hline hs hplain) (dBM_mono ho.mono ha.mono md.mono).go fun σ H Q τ M hs hm q =>
    ⟨τ, M, hs, hm, ho.mono.go (fun x M1 q v H1 k r m => ⟨md.isT r m q.1, τ, M1, hs.keep k, m, ha.mono.go (fun ds M2 q vs H2 k2 rs m2 => md.to (r.keep k2) rs m2 q fun d M' u H' q k3 r3 m3 => q u H' (k.trans (k2.trans k3)) r3 m3) q.2⟩) q⟩
def tyL (M : Mem) (d : D) : Prop := lsOf M d fun _ _ => True
theorem tyL_is {x : V} {dx : D} {H : Hp} {M : Mem} (r : Rep K H x dx) (m : RM K H M) (h : tyL M dx) : tyV K "list" x H := by
  obtain ⟨a, live, ds, xs, rfl, q, h, rr⟩ := lsOf_at r m h
  exact .inl ⟨rfl, _, h⟩
/-- the list of the store itself -/
def lstAt (M : Mem) (d : D) (Q : Addr → List D → Prop) : Prop := match d with
  | .ref a => match M a with
    | some (.lst ds) => Q a ds
    | _ => False
  | _ => False
theorem lstAt_mono {M : Mem} {d : D} {Q Q' : Addr → List D → Prop} (h : ∀ a ds, Q a ds → Q' a ds) (q : lstAt M d Q) : lstAt M d Q' := by
  unfold lstAt at q ⊢
  split at q
  · split at q
    · exact h _ _ q
    · exact q.elim
  · exact q.elim
theorem lstAt_to {M : Mem} {d : D} {Q : Addr → List D → Prop} (q : lstAt M d Q) : ∃ a ds, d = .ref a ∧ M a = some (.lst ds) ∧ Q a ds := by
  unfold lstAt at q
  split at q
  · split at q
    · rename_i e; exact ⟨_, _, rfl, e, q⟩
    · exact q.elim
  · exact q.elim
def pAppend : DRM := fun x ds M Q => match ds with
  | [y] => lstAt M x fun a xs => xs.length < sizeLine ∧ Q .non (mupd M a (.lst (xs ++ [y])))
  | _ => False
theorem md_append : MtD K "list" rAppend pAppend tyL := ⟨fun {x dx xs ds H M Qd Q} rx rs m q o => by
  unfold pAppend at q
  split at q
  · obtain ⟨a, ds, rfl, e, q⟩ := lstAt_to q
    obtain ⟨v, rfl, rv⟩ := reps1 rs
    cases rx
    obtain ⟨ys, h, rr⟩ := m.lst e
    have km : Keep H (upd H a (.lst (ys ++ [v]))) := Keep.mut (by rw [h]; trivial)
    exact ⟨a, ys, v, rfl, rfl, h, by rw [rr.length]; exact q.1, o _ _ _ _ q.2 km .non (m.write (m := .lst _) (by rw [h]; trivial) ⟨_, rfl, (rr.append (.cons rv .nil)).keep km⟩)⟩
  · exact q.elim, fun r m h => tyL_is r m h, ⟨fun {x ds M Q Q'} h q => by
  unfold pAppend at q ⊢
  split at q
  · exact lstAt_mono (fun _ _ q => ⟨q.1, h _ _ q.2⟩) q
  · exact q.elim⟩⟩
def pExtend : DRM := fun x ds M Q => match ds with
  | [y] => lstAt M x fun a xs => lstAt M y fun _ ys => xs.length + ys.length ≤ sizeLine ∧ Q .non (mupd M a (.lst (xs ++ ys)))
  | _ => False
theorem md_extend : MtD K "list" rExtend pExtend tyL := ⟨fun {x dx xs ds H M Qd Q} rx rs m q o => by
  unfold pExtend at q
  split at q
  · obtain ⟨a, ds, rfl, e, q⟩ := lstAt_to q
    obtain ⟨b, es, rfl, e2, q⟩ := lstAt_to q
    obtain ⟨v, rfl, rv⟩ := reps1 rs
    cases rx; cases rv
    obtain ⟨ys, h, rr⟩ := m.lst e
    obtain ⟨zs, h2, rr2⟩ := m.lst e2
    have km : Keep H (upd H a (.lst (ys ++ zs))) := Keep.mut (by rw [h]; trivial)
    exact ⟨a, b, ys, zs, rfl, rfl, h, h2, by rw [rr.length, rr2.length]; exact q.1, o _ _ _ _ q.2 km .non (m.write (m := .lst _) (by rw [h]; trivial) ⟨_, rfl, (rr.append rr2).keep km⟩)⟩
  · exact q.elim, fun r m h => tyL_is r m h, ⟨fun {x ds M Q Q'} h q => by
  unfold pExtend at q ⊢
  split at q
  · exact lstAt_mono (fun _ _ q => lstAt_mono (fun _ _ q => ⟨q.1, h _ _ q.2⟩) q) q
  · exact q.elim⟩⟩
def pPop : DRM := fun x ds M Q => match ds with
  | [] => lstAt M x fun a xs => optQ xs[xs.length - 1]? fun y => Q y (mupd M a (.lst xs.dropLast))
  | _ => False
theorem md_pop : MtD K "list" rPop pPop tyL := ⟨fun {x dx xs ds H M Qd Q} rx rs m q o => by
  unfold pPop at q
  split at q
  · obtain ⟨a, ds, rfl, e, q⟩ := lstAt_to q
    obtain ⟨y, ey, q⟩ := optQ_to q
    cases rs; cases rx
    obtain ⟨ys, h, rr⟩ := m.lst e
    obtain ⟨v, ev, rv⟩ := rr.get ey
    have km : Keep H (upd H a (.lst ys.dropLast)) := Keep.mut (by rw [h]; trivial)
    exact ⟨a, ys, v, rfl, rfl, h, by rw [rr.length]; exact ev, o _ _ _ _ q km (rv.keep km) (m.write (m := .lst _) (by rw [h]; trivial) ⟨_, rfl, rr.dropLast.keep km⟩)⟩
  · exact q.elim, fun r m h => tyL_is r m h, ⟨fun {x ds M Q Q'} h q => by
  unfold pPop at q ⊢
  split at q
  · exact lstAt_mono (fun _ _ q => optQ_mono (fun _ q => h _ _ q) q) q
  · exact q.elim⟩⟩
/-! ### xs[i] = e, xs[i] op= e -/
def stL (o i d : D) (M : Mem) (Q : Mem → Prop) : Prop := match i with
  | .int k => lstAt M o fun a ds => optQ (ixN ds.length k) fun j => Q (mupd M a (.lst (ds.set j d)))
  | _ => False
theorem stL_mono {o i d : D} {M : Mem} {Q Q' : Mem → Prop} (h : ∀ M, Q M → Q' M) (q : stL o i d M Q) : stL o i d M Q' := by
  unfold stL at q ⊢
  split at q
  · exact lstAt_mono (fun _ _ q => optQ_mono (fun _ q => h _ q) q) q
  · exact q.elim
theorem stL_to {ov iv v : V} {o i d : D} {H : Hp} {M : Mem} {Qd : Mem → Prop} {Q : Hp → Prop} (ro : Rep K H ov o) (ri : Rep K H iv i) (rv : Rep K H v d) (m : RM K H M) (q : stL o i d M Qd)
    (out : ∀ M' H', Qd M' → Keep H H' → RM K H' M' → Q H') : rSetL ov iv v H Q := by
  unfold stL at q
  split at q
  · obtain ⟨a, ds, rfl, e, q⟩ := lstAt_to q
    obtain ⟨j, ej, q⟩ := optQ_to q
    cases ro; cases ri
    obtain ⟨ys, h, rr⟩ := m.lst e
    have km : Keep H (upd H a (.lst (ys.set j v))) := Keep.mut (by rw [h]; trivial)
    exact ⟨a, ys, _, j, rfl, rfl, h, by rw [rr.length]; exact ej, out _ _ q km (m.write (m := .lst _) (by rw [h]; trivial) ⟨_, rfl, (rr.set j rv).keep km⟩)⟩
  · exact q.elim
def gSubL (to ti : DTE) : DTG := fun d τ M Q => to τ M fun o M1 => ti τ M1 fun i M2 => stL o i d M2 fun M3 => Q τ M3
theorem dg_subL {i : Expr} {ti : DTE} {pos : Pos} (ho : DE X o to) (hi : DE X i ti)
    (ha : ∀ v, assign (.Subscript o i pos) X.env v = (do
      let ov ← holding [v] (eval o X.env)
      let iv ← holding [v, ov] (eval i X.env)
      standAt pos
      holding [v, ov, iv] (setItem ov iv v)
      release [v, ov, iv] []) := by intro _; rfl) : DG X (.Subscript o i pos) (gSubL to ti) :=
  dg_of (pg_sub ho.pe hi.pe set_list ha) (fun h q => ho.mono.go (fun _ _ q => hi.mono.go (fun _ _ q => stL_mono (fun _ q => h _ _ q) q) q) q) fun v σ H Q d τ M r a b q =>
    ⟨τ, M, a, b, ho.mono.go (fun o M1 q ov H1 k1 r1 m1 => ⟨τ, M1, a.keep k1, m1, hi.mono.go (fun i M2 q iv H2 k2 r2 m2 => stL_to (r1.keep k2) r2 (r.keep (k1.trans k2)) m2 q fun M' H' q k3 m3 => q σ H' (k1.trans (k2.trans k3)) (a.keep (k1.trans (k2.trans k3))) m3) q⟩) q⟩
/-- xs[i] by values -/
theorem get_list : PGet X (rIxL X.K) := by
  intro pins s σ H x y v u Q I rx ry h
  obtain ⟨p, xs, i, z, rfl, rfl, hq, he, q⟩ := h
  cases rx
  obtain ⟨t, rfl⟩ := ry
  obtain ⟨its, r, pl, hz⟩ := I.list hq
  obtain ⟨j, h1, h2, h3, h4, h5⟩ := atI_get he
  obtain ⟨w, ew, rw'⟩ := r.get h2
  have hl := r.length
  have hn := line63
  have fin : EP X pins σ Q w s := ⟨z, H, I, rw', q⟩
  by_cases h0 : 0 ≤ i
  · have hj : i.toNat = j := by
      rw [seqIndex_of h0 h5] at h1
      exact Option.some.inj h1
    exact wpAny_getItem_list pl.isList h0 (by omega) (by rw [hj]; simpa using ew) fin
  · have hj : (i + (its.toArray.size : Int)).toNat = j := by
      rw [seqIndex_neg (by omega) h4] at h1
      rw [List.size_toArray, ← hl]
      exact Option.some.inj h1
    exact wpAny_getItem_list_neg pl.isList (by omega) (by rw [List.size_toArray] <;> omega) (by omega) (by rw [hj]; simpa using ew) fin
def gtL (o i : D) (M : Mem) (Q : D → Prop) : Prop := match i with
  | .int k => lstAt M o fun _ ds => optQ (atI ds k) fun d => Q d
  | _ => False
def dAugS (to ti te : DTE) (rd : DR2) : DTS := fun E τ M => to τ M fun o M1 => ti τ M1 fun i M2 => gtL o i M2 fun x => te τ M2 fun y M3 => rd x y M3 fun z M4 => stL o i z M4 fun M5 => E.nx τ M5
theorem ds_augS {i : Expr} {ti te : DTE} {op : Operator} {rr : R2} {rdd : DR2} {tpos pos : Pos} (ho : DE X o to) (hi : DE X i ti) (he : DE X e te) (hop : OpR X (inplaceOp op) rr) (od : OpD X.K rr rdd)
    (ha : ∀ ov iv new, augStore i ov iv new = (do holding [new, ov, iv] (setItem ov iv new); release [new, ov, iv] []; pure .next) := by intros; rfl) : DSt X (.AugAssign (.Subscript o i tpos) op e pos) (dAugS to ti te rdd) := by
  refine ds_of (ps_augS (tip := rr) ho.pe hi.pe get_list he.pe (fun pins s σ H x y v u Q I rx ry q => hop pins s σ H x y v u Q I rx ry q) set_list ha) (fun {E E' τ M} h q => ?_) fun D σ H τ M E a b c d => ?_
  · refine ho.mono.go (fun _ _ q => hi.mono.go (fun _ _ q => ?_) q) q
    unfold gtL at q ⊢
    split at q
    · exact lstAt_mono (fun _ _ q => optQ_mono (fun _ q => he.mono.go (fun _ _ q => od.mono.go (fun _ _ q => stL_mono (fun _ q => h.nx _ _ q) q) q) q) q) q
    · exact q.elim
  · refine ⟨τ, M, a, b, ho.mono.go (fun o M1 q ov H1 k1 r1 m1 => ⟨τ, M1, a.keep k1, m1, hi.mono.go (fun i M2 q iv H2 k2 r2 m2 => ?_) q⟩) d⟩
    unfold gtL at q
    split at q
    · obtain ⟨p, ds, rfl, e, q⟩ := lstAt_to q
      obtain ⟨x, ex, q⟩ := optQ_to q
      obtain ⟨xs, hx, rx⟩ := m2.lst e
      obtain ⟨v, ev, rv⟩ := atI_reps rx ex
      cases r1; cases r2
      refine ⟨p, xs, _, v, rfl, rfl, .inl (.inl hx), ev, τ, M2, a.keep (k1.trans k2), m2, he.mono.go (fun y M3 q w H3 k3 r3 m3 => od.to (rv.keep k3) r3 m3 q fun z M4 u H4 q k4 r4 m4 => ?_) q⟩
      exact stL_to (.ref p) (.int _) r4 m4 q fun M' H' q k5 m5 => c.nx _ _ _ _ q (k1.trans (k2.trans (k3.trans (k4.trans k5)))) (a.keep (k1.trans (k2.trans (k3.trans (k4.trans k5))))) m5
    · exact q.elim
end

/-! ### a def keeps its promise -/
def dstart (N : List Str) (ds : List D) : DS := ds.map some ++ List.replicate (N.length - ds.length) none
theorem rs_start {K : PySem.W.Frag} {H : Hp} {N : List Str} {vs : List V} {ds : List D} (r : Reps K H vs ds) : RS K H (L2.start N vs) (dstart N ds) := by
  unfold L2.start dstart
  refine ⟨by simp [r.length], fun i d e => ?_⟩
  by_cases hi : i < ds.length
  · rw [List.getElem?_append_left (by simpa using hi), List.getElem?_map] at e
    cases q : ds[i]? with
    | none => rw [q] at e; cases e
    | some x =>
      rw [q] at e; cases e
      obtain ⟨v, e1, r1⟩ := r.get q
      exact ⟨v, by rw [List.getElem?_append_left (by rw [List.length_map, r.length]; exact hi), List.getElem?_map, e1]; rfl, r1⟩
  · rw [List.getElem?_append_right (by simpa using hi), List.getElem?_replicate] at e
    split at e <;> cases e
/-- what may be forgotten may be forgotten -/
def Clo (Q : DQ) : Prop := ∀ d M1 M2, Sub M1 M2 → Q d M1 → Q d M2
section
variable {P : Program} {w : World} {K : PySem.W.Frag} {mg : Str → Option Value} {base : Heap} {x qual : Str} {params : Arguments} {body : List Stmt} {scope : Scope} {dvs : List V} {kws : List (Str × V)} {f : Addr} {fd : FuncData}
theorem def_ok {N ps : List Str} {k : Nat} {sp : DSp} {b : DTS} (F : FunD K x qual params body scope dvs kws f fd) (S : FnScope N ps scope) (len : ∀ ds M Q, sp ds M Q → ds.length = ps.length)
    (hd : ∀ (cdv : Value) (A : Around) (outer : List Env) (s : Shared) (H : Hp) (E : XK), Room k (A.deeper (envOfC qual scope s.heap.objs.size f cdv)) → DSs (cxOf CX0 P w K mg base N qual scope f cdv A outer s H E).nox body b)
    (hb : ∀ ds M Q, Clo Q → sp ds M Q → b { nx := fun _ M' => Q .non M', rt := Q } (dstart N ds) M) : FnOk P w K mg base CX0 (k + 1) f fd ps (upSp K sp) := by
  refine F.ok S (fun vs H Q E ⟨ds, M, r, m, q⟩ => by rw [r.length]; exact len ds M _ q) fun cdv A outer s H vs Q E hr ⟨ds, M, r, m, q⟩ => ?_
  have dd := hd cdv A outer s H E hr
  refine ⟨_, PSs.nox dd.pss, dstart N ds, M, { nx := fun _ M' => ∀ v H', Keep H H' → Rep K H' v .non → RM K H' M' → Q v H', rt := fun d M' => ∀ v H', Keep H H' → Rep K H' v d → RM K H' M' → Q v H' }, rs_start r, m, ⟨fun τ M' σ H' q k s m' => q _ _ k .non m', fun d M' v H' q k r m' => q v H' k r m', fun _ _ _ _ q => q.elim, fun _ _ _ _ q => q.elim⟩, ?_⟩
  exact hb ds M (fun d M' => ∀ v H', Keep H H' → Rep K H' v d → RM K H' M' → Q v H') (fun d M1 M2 s q v H' k r m => q v H' k r (m.sub s)) q
theorem can_mk {A : Around} {k j : Nat} {sp : DSp} {ps : List Str} {us : List Value} {dvs : List V} {dds : List D} (F : FnOk P w K mg base CX0 k f fd ps (upSp K sp)) (hr : Room j A) (hk : k ≤ j) (hm : mg x = some (.ref f)) (kp : PySem.W.keepIn K (.ref f) = true) (hb : Binds K fd ps us) (hv : Vals dvs us) (hd : ∀ H, Reps K H dvs dds) (mo : MonoSp sp) : Can P w K mg base A x dds sp :=
  ⟨⟨f, fd, ps, k, us, dvs, F, hr.mono hk, hm, kp, hb, hv, hd⟩, mo⟩
end
end DL

namespace DL
open PySem PySem.Spec PyProof.Rows L2

section
variable {X : Cx} {K : PySem.W.Frag}
theorem dv (i : Nat) {x : Str} {pos : Pos} (hN : X.N[i]? = some x := by rfl) (hv : Vis X.env.scope x := by first | exact Or.inl rfl | exact Or.inr (Or.inl rfl) | exact Or.inr (Or.inr rfl)) (hd : (x == ("__debug__" : Str)) = false := by decide)
    (hcd : (x == ("__classdict__" : Str)) = false := by decide) : DE X (.Name x pos) (dVar i) := de_var hN hv hd hcd
theorem hu1 {A : Around} (hu : A.units + 64 < cLine) : A.units + 1 < cLine := by omega

/-! ### for x in a list, a tuple, a text -/
def iSeqD (te : DTE) : DTI := fun τ M Q => te τ M fun d M1 => match d with
  | .tup ds => Q ⟨ds, fun _ => True⟩ M1
  | .str x => Q ⟨strD x, fun _ => True⟩ M1
  | d => lsOf M1 d fun live ds => Q ⟨ds, live⟩ M1
def iAny (K : PySem.W.Frag) (tl : TE) : TI := fun σ H R => tl σ H fun x H1 => (∃ a, x = .ref a ∧ (((∃ xs, SqL K H1 a xs) ∧ R (Itl K a) H1) ∨ ((∃ xs, SqT K H1 a xs) ∧ R (Itt K a) H1))) ∨ ∃ z, x = .str z ∧ R (Its z) H1
variable {tg e : Expr} {te : DTE}
theorem pi_any {tl : TE} (hl : PE X e tl) : PI X tg e (iAny X.K tl) := by
  refine ⟨fun pins s σ H R I h => ?_⟩
  refine thn (hl.run pins s σ H _ I h) fun v s1 ⟨x, H1, I1, r1, q1⟩ => ?_
  rcases q1 with ⟨a, e, ⟨⟨xs, hq⟩, q⟩ | ⟨⟨xs, hq⟩, q⟩⟩ | ⟨z, e, q⟩
  · subst e
    cases r1
    obtain ⟨its, rv, p, hz⟩ := I1.list hq
    refine wpAny_pyIter_list p.isList ?_
    refine ⟨s1.heap.objs.size, [s1.heap.objs.size], _, _, H1, rfl, I1.kept (t' := s1.toks) fun b o e => Heap.get?_push_of_some _ e, turn_list a _, ⟨_, Heap.get?_push_size _ rfl, rfl, rfl⟩, fun b hb => ?_, q⟩
    have e : b = s1.heap.objs.size := by simpa using hb
    subst e
    exact I1.fpOk (Nat.le_refl _) (I1.hok.fresh (Nat.le_refl _))
  · subst e
    cases r1
    obtain ⟨its, rv, p, hz⟩ := I1.tuple hq
    refine wpAny_pyIter_tuple (show s1.heap.IsTuple a its.toArray from p) ?_
    refine ⟨s1.heap.objs.size, [s1.heap.objs.size], _, _, H1, rfl, I1.kept (t' := s1.toks) fun b o e => Heap.get?_push_of_some _ e, turn_tuple a _, ⟨_, Heap.get?_push_size _ rfl, rfl, rfl⟩, fun b hb => ?_, q⟩
    have e : b = s1.heap.objs.size := by simpa using hb
    subst e
    exact I1.fpOk (Nat.le_refl _) (I1.hok.fresh (Nat.le_refl _))
  · subst e
    obtain ⟨t, rfl⟩ := r1
    cases ha : z.cps.all (· < 128)
    · exact wpAny_pyIter_wide ha (pi_one (tk := s1.toks) I1 _ (turn_str _ z t "str_iterator" (.inr rfl)) ⟨_, Heap.get?_push_size _ rfl, rfl, rfl⟩ q)
    · exact wpAny_pyIter_ascii ha (pi_one (tk := s1.toks) I1 _ (turn_str _ z t "str_ascii_iterator" (.inl rfl)) ⟨_, Heap.get?_push_size _ rfl, rfl, rfl⟩ q)
theorem di_seq (he : DE X e te) : DI X tg e (iSeqD te) := by
  refine di_of (pi_any he.pe) (fun h q => he.mono.go (fun d M1 q => ?_) q) fun σ H R τ M hs hm q => ?_
  · split at q
    · exact h _ _ q
    · exact h _ _ q
    · exact lsOf_mono (fun _ _ q => h _ _ q) q
  · refine ⟨τ, M, hs, hm, he.mono.go (fun d M1 q v H1 k r m => ?_) q⟩
    split at q
    · cases r with
      | tup h rr => exact .inl ⟨_, rfl, .inr ⟨⟨_, h⟩, q _ _ k m (itr_tup h rr)⟩⟩
    · cases r
      exact .inr ⟨_, rfl, q _ _ k m itr_str⟩
    · obtain ⟨a, live, ds, rfl, q, l, f⟩ := lsOf_to r m q
      obtain ⟨xs, h, _⟩ := f H1 M1 (Keep.refl _) m l
      exact .inl ⟨a, rfl, .inl ⟨⟨xs, h⟩, q _ _ k m (itr_lst f)⟩⟩
/-! ### enumerate -/
def enumFrom (i : Nat) : List D → List D
  | [] => []
  | d :: r => .tup [.int (i : Nat), d] :: enumFrom (i + 1) r
theorem enumFrom_get : ∀ (ds : List D) (j i : Nat) (d : D), (enumFrom j ds)[i]? = some d → ∃ x, ds[i]? = some x ∧ d = .tup [.int ((j + i : Nat) : Int), x]
  | [], _, _, _, e => by simp [enumFrom] at e
  | x :: r, j, 0, d, e => by simp [enumFrom] at e; exact ⟨x, rfl, by simp [← e]⟩
  | x :: r, j, i + 1, d, e => by
    obtain ⟨y, h1, h2⟩ := enumFrom_get r (j + 1) i d (by simpa [enumFrom] using e)
    exact ⟨y, by simpa using h1, by rw [h2, show j + 1 + i = j + (i + 1) by omega]⟩
theorem enumFrom_len : ∀ (ds : List D) (j : Nat), (enumFrom j ds).length = ds.length
  | [], _ => rfl
  | _ :: r, j => congrArg (· + 1) (enumFrom_len r (j + 1))
theorem enumFrom_none : ∀ (ds : List D) (j i : Nat), ds.length ≤ i → (enumFrom j ds)[i]? = none := fun ds j i h => List.getElem?_eq_none (by rw [enumFrom_len]; exact h)
def IteT (K : PySem.W.Frag) (a : Addr) : It :=
  ⟨fun i H => ∃ (xs : List V) (x : V), SqT K H a xs ∧ xs[i]? = some x, fun i H v H' => ∃ T x, v = .ref T ∧ H T = none ∧ H' = upd H T (.tup [.int (i : Nat), x]) ∧ ∀ xs, SqT K H a xs → xs[i]? = some x, fun i H => ∃ xs : List V, SqT K H a xs ∧ xs.length ≤ i⟩
theorem wpAny_in1_frz {A : Around} (h : A.handled = none) : A.in1.handled = none := h
theorem turn_enumT {P : Program} {w : World} {K : PySem.W.Frag} {elts : List Expr} {kk : Nat} {tpos : Pos} (a e it : Addr) (hai : a ≠ it) (hae : a ≠ e) :
    Turn P w K (.Tuple elts kk tpos) (IteT K a) [e, it] e (fun i h => (∃ old, IsEnum h e it ((i : Nat) : Int) old) ∧ h.IsTupleIter it a i ∧ e ≠ it) where
  mem := by simp
  obj := fun i h st b hb => by
    obtain ⟨⟨old, he⟩, ⟨o, ho, hc, hd⟩, _⟩ := st
    have e' : b = e ∨ b = it := by simpa using hb
    rcases e' with z | z
    · rw [z]; exact ⟨_, he, fun v q => nomatch q⟩
    · rw [z]; exact ⟨o, ho, fun v q => by rw [hd] at q; cases q⟩
  keep := fun i h h' st k => let ⟨⟨old, he⟩, hi, hne⟩ := st; ⟨⟨old, k e (by simp) _ he⟩, hi.at fun o q => k it (by simp) o q, hne⟩
  item := by
    intro X hP hw hK hc i pins s σ H E I hf st hg
    subst hP hw hK
    obtain ⟨⟨old, he⟩, hit, hne⟩ := st
    obtain ⟨xs, x, hq, hx⟩ := hg
    obtain ⟨its, rv, p, hz⟩ := I.tuple hq
    obtain ⟨u, hu, ru⟩ := rv.get hx
    have hel : e < s.heap.objs.size := Heap.lt_size he
    have hil : it < s.heap.objs.size := by obtain ⟨_, q, _⟩ := hit; exact Heap.lt_size q
    have D := Draws.tuple (prog := X.prog) (w := X.w) (A := X.A.in1) (I.ok.hd hc) it a hai its.toArray
    have hlt : i < its.toArray.size := by
      have := (List.getElem?_eq_some_iff.mp hu).1
      simpa using this
    refine wpAny_pyNext_enum_itemD D he ⟨hit, show s.heap.IsTuple a its.toArray from p⟩ hlt hne (by simp; exact ⟨hne, fun z => hae z.symm⟩) fun x' h' tk hx' ho hit' hT hsz hk => ?_
    have ex : x' = u := by
      have h1 : its.toArray[i]? = some x' := hx'
      have h2 : its.toArray[i]? = some u := by simpa using hu
      rw [h1] at h2; exact Option.some.inj h2
    subst ex
    refine ⟨_, rfl, wpAny_letOwnedTupleGo_enum (s := { s with heap := h', toks := tk + 1 }) ho fun h'' he' sb => ?_⟩
    have hT2 : h''.get? s.heap.objs.size = some { cls := .type "tuple", data := .seq #[.int i tk, x'] } := (sb.2 _ (Nat.ne_of_gt hel)).trans hT
    have new : ObjOk X.prog X.w (upd H s.heap.objs.size (.tup [.int (i : Nat), x])) h'' s.heap.objs.size (.tup [.int (i : Nat), x]) :=
      ⟨by show 2 ≤ sizeLine; decide, [.int i tk, x'], .cons ⟨_, rfl⟩ (.cons ru .nil), ⟨_, hT2, rfl, _, rfl⟩⟩
    have I1 : Inv X pins σ (upd H s.heap.objs.size (.tup [.int (i : Nat), x])) { s with heap := h'', toks := tk + 1 } :=
      I.turnedNew (ch := [e, it]) (fun b ob hb q => (sb.2 b (fun z => hb (by simp [z]))).trans (hk b ob (fun z => hb (by simp [z])) (fun z => hb (by simp [z])) q)) hf (Nat.le_refl _) new
    refine ⟨.ref s.heap.objs.size, _, I1, rfl, ⟨_, x, rfl, I.hok.fresh (Nat.le_refl _), rfl, fun ys hy => by rw [I.tuple_inj hy hq]; exact hx⟩, ⟨⟨x', ?_⟩, hit'.1.at fun o q => (sb.2 it (Ne.symm hne)).trans q, hne⟩, fun b hb => ?_⟩
    · have e1 : ((i + 1 : Nat) : Int) = (i : Int) + 1 := by omega
      rw [e1]; exact he'
    · have hb' : b < s.heap.objs.size := by
        have e' : b = e ∨ b = it := by simpa using hb
        rcases e' with z | z
        · rw [z]; exact hel
        · rw [z]; exact hil
      rw [upd_ne (Nat.ne_of_lt hb')]
      exact (hf b hb).1
  done := by
    intro X hP hw hK hc i pins s σ H E I hf st hg
    subst hP hw hK
    obtain ⟨⟨old, he⟩, hit, hne⟩ := st
    obtain ⟨xs, hq, hx⟩ := hg
    obtain ⟨its, rv, p, hz⟩ := I.tuple hq
    obtain ⟨f0, f1, f2, f3, f4, f5⟩ := hf it (by simp)
    have hl := rv.length
    have hT : s.TypeIs (.ref e) "enumerate" := ⟨_, he, rfl⟩
    unfold pyNext
    refine wpAny_bind (wpAny_attempt (wpAny_callSpecial?_slot (name := Str.ofString "__next__") hT F.slot_enumerate_next
      (wpAny_call_entry F.slot_enumerate_next hT F.entry_enumerate_next ?_ (F.args_enumerate_next_1 _))))
    show wpAny _ _ (PySem.field (.ref e) 2 >>= _) _ _ _
    refine wpAny_bind (wpAny_field he rfl (x := .ref it) rfl ?_)
    refine wpAny_bind (wpAny_nextOf_tuple_end (I.ok.hd hc) hit (show s.heap.IsTuple a its.toArray from p) (by simp; omega) fun h' x he' hx' => ?_)
    obtain ⟨o, ho, hcx⟩ := hx'
    refine wpAny_bind (wpAny_isInstance (T := "StopIteration") (b := true) ⟨o, ho, hcx⟩ isSubtype_stop ?_)
    exact wpAny_pure ⟨rfl, I.turned (t' := s.toks) (fun b o hb q => he' b o hb q) f0 f1 f3 f4 f5⟩
  self := fun A i s Q E st h => let ⟨⟨_, he⟩, _⟩ := st; wpAny_pyIter_enum he h
end
theorem meets_enumerate_newB1 {v : Value} {o : Obj} {H : Heap → Prop} (B : Begins v o H) :
    Meets (Builtin.«enumerate.__new__» ⟨[.type "enumerate", v], []⟩) (fun _ R s => H s.heap ∧
      R (.ok (.ret (.ref (s.heap.push o).objs.size))) { s with heap := (s.heap.push o).push { cls := .type "enumerate", data := .fields #[.none, .bool false, .ref s.heap.objs.size, rawInt 0, .none, .none] } }) :=
  .of_wp fun prog w A R s h => by
    obtain ⟨hp, g, d, tk, os⟩ := s; obtain ⟨h1, h⟩ := h
    have hsub := sub_enumerate
    have q1 : ∀ {A' : Around} {E : Value → Shared → Prop} {Q : Value → Shared → Prop}, Q (.ref hp.objs.size) ⟨hp.push o, g, d, tk, os⟩ → wpAny (model prog w) A' (pyIter v) Q E ⟨hp, g, d, tk, os⟩ :=
      fun q => B.iter prog w _ _ ⟨hp, g, d, tk, os⟩ _ h1 q
    wp_walk using q1
    refine wpAny_stack_any fun st => wpAny_pure ?_
    split
    · rename_i c _ _ _ _ _
      cases (c == Value.type "enumerate")
      · wp_walk using q1
        exact ⟨_, rfl, h⟩
      · wp_walk using q1
        exact ⟨_, rfl, h⟩
    · wp_walk using q1
      exact ⟨_, rfl, h⟩
section
variable {X : Cx} {K : PySem.W.Frag} {tg e : Expr} {te : DTE}
theorem enum_begins1 {prog : Program} {w : World} {A : Around} {E : Value → Shared → Prop} {s : Shared} {v : Value} {o : Obj} {H : Heap → Prop} {Q : Value → Shared → Prop} (B : Begins v o H) (h1 : H s.heap)
    (h : ∀ h', IsEnum h' (s.heap.objs.size + 1) s.heap.objs.size 0 .none → h'.get? s.heap.objs.size = some o → h'.objs.size = s.heap.objs.size + 2 →
      (∀ b o, s.heap.get? b = some o → h'.get? b = some o) → Q (.ref (s.heap.objs.size + 1)) { s with heap := h' }) :
    wpAny (model prog w) A (call (.type "enumerate") [v]) Q E s := by
  refine callType_new F.called_enumerate (by decide) (F.typeCall_enumerate_1 _) (F.newCall_enumerate_1 _) (fun obj => F.args_object_init_2 obj _) F.entry_enumerate_new
    (meets_enumerate_newB1 B) ⟨h1, ?_⟩
  have hz : (s.heap.push o).objs.size = s.heap.objs.size + 1 := Heap.size_push ..
  show _ ∧ _
  rw [hz]
  have he : IsEnum ((s.heap.push o).push { cls := .type "enumerate", data := .fields #[.none, .bool false, .ref s.heap.objs.size, rawInt 0, .none, .none] }) (s.heap.objs.size + 1) s.heap.objs.size 0 .none := by
    have := Heap.get?_push_size (s.heap.push o) (o := { cls := .type "enumerate", data := .fields #[.none, .bool false, .ref s.heap.objs.size, rawInt 0, .none, .none] }) rfl
    rw [hz] at this; exact this
  refine ⟨⟨_, he, rfl⟩, h _ he (Heap.get?_push_of_some _ (Heap.get?_push_size _ B.free)) (by rw [Heap.size_push, hz]) fun b o x => Heap.get?_push_of_some _ (Heap.get?_push_of_some _ x)⟩
def iEnumA (K : PySem.W.Frag) (ta : TA) : TI := fun σ H R => ta σ H fun vs H1 => ∃ a, vs = [.ref a] ∧ (((∃ xs, SqL K H1 a xs) ∧ R (Ite K a) H1) ∨ ((∃ xs, SqT K H1 a xs) ∧ R (IteT K a) H1))
theorem pi_enumA {ta : TA} {p pos tpos : Pos} {elts : List Expr} {kk : Nat} (hg : Gl X "enumerate") (hm : X.mg "enumerate" = none) (ha : PA X [e] ta) (hs : starEach [e] X.env = [(false, eval e X.env)] := by rfl) :
    PI X (.Tuple elts kk tpos) (.Call (.Name "enumerate" p) [e] [] pos) (iEnumA X.K ta) := by
  refine ⟨fun pins s σ H R I h => ?_⟩
  refine Call_ (ld_blt I hg hm boot_enumerate (PyProof.Rows.callWith_type1 (thn (ha.run pos pins s σ H _ I h) fun us s1 ⟨vs, H1, I1, r1, q1⟩ => ?_) hs rfl))
  obtain ⟨a, ex, q1⟩ := q1
  subst ex
  cases r1 with
  | cons r rr =>
    cases rr
    cases r
    have fin : ∀ b, b ∈ [s1.heap.objs.size + 1, s1.heap.objs.size] → FpOk X pins H1 b := fun b hb => by
      have e' : b = s1.heap.objs.size + 1 ∨ b = s1.heap.objs.size := by simpa using hb
      have hle : s1.heap.objs.size ≤ b := by
        rcases e' with z | z
        · rw [z]; exact Nat.le_add_right _ _
        · rw [z]; exact Nat.le_refl _
      exact I1.fpOk hle (I1.hok.fresh hle)
    rcases q1 with ⟨⟨xs, hq⟩, q⟩ | ⟨⟨xs, hq⟩, q⟩
    · obtain ⟨its, rv, p', hz⟩ := I1.list hq
      refine call_enumerate_list p'.isList fun h' he hit hsz hk => wpAny_pyIter_enum he ?_
      have I2 : Inv X pins σ H1 { s1 with heap := h' } := I1.kept (t' := s1.toks) hk
      exact ⟨s1.heap.objs.size + 1, [s1.heap.objs.size + 1, s1.heap.objs.size], _, _, H1, rfl, I2, turn_enum a (s1.heap.objs.size + 1) s1.heap.objs.size, ⟨⟨.none, he⟩, hit, Nat.succ_ne_self _⟩, fin, q⟩
    · obtain ⟨its, rv, p', hz⟩ := I1.tuple hq
      have la : a < s1.heap.objs.size := p'.lt
      refine enum_begins1 (begins_tuple a its.toArray) (show s1.heap.IsTuple a its.toArray from p') fun h' he hit hsz hk => wpAny_pyIter_enum he ?_
      have I2 : Inv X pins σ H1 { s1 with heap := h' } := I1.kept (t' := s1.toks) hk
      exact ⟨s1.heap.objs.size + 1, [s1.heap.objs.size + 1, s1.heap.objs.size], _, _, H1, rfl, I2, turn_enumT a (s1.heap.objs.size + 1) s1.heap.objs.size (Nat.ne_of_lt la) (Nat.ne_of_lt (Nat.lt_succ_of_lt la)), ⟨⟨.none, he⟩, ⟨_, hit, rfl, rfl⟩, Nat.succ_ne_self _⟩, fin, q⟩
def iEnumD (te : DTE) : DTI := fun τ M Q => te τ M fun d M1 => match d with
  | .tup ds => Q ⟨enumFrom 0 ds, fun _ => True⟩ M1
  | d => lsOf M1 d fun live ds => Q ⟨enumFrom 0 ds, live⟩ M1
theorem itr_enumL {H : Hp} {a : Addr} {live : Mem → Prop} {ds : List D} (f : ∀ H' M', Keep H H' → RM K H' M' → live M' → ∃ xs, SqL K H' a xs ∧ Reps K H' xs ds) : ItR K H (Ite K a) ⟨enumFrom 0 ds, live⟩ where
  go := fun i d H' M k m l e => let ⟨xs, h, r⟩ := f H' M k m l; let ⟨y, e2, _⟩ := enumFrom_get ds 0 i d e; let ⟨v, e1, _⟩ := r.get e2; ⟨xs, v, h, e1⟩
  yld := fun i d H' M x H2 k m l e y => by
    obtain ⟨T, z, rfl, hT, rfl, y⟩ := y
    obtain ⟨xs, h, r⟩ := f _ M k m l
    obtain ⟨d', e2, rfl⟩ := enumFrom_get ds 0 i d e
    obtain ⟨v, e1, rv⟩ := r.get e2
    have := y xs h
    rw [e1] at this; cases this
    rw [Nat.zero_add]
    exact ⟨Keep.new hT, .tup (SqT.of upd_same) (.cons (.int _) (.cons (rv.keep (Keep.new hT)) .nil)), m.fresh hT⟩
  stop := fun i H' M k m l q => let ⟨xs, h, r⟩ := f H' M k m l; ⟨xs, h, by rw [r.length]; have q' : (enumFrom 0 ds).length ≤ i := q; rwa [enumFrom_len] at q'⟩
theorem itr_enumT {H : Hp} {a : Addr} {xs : List V} {ds : List D} (h : SqT K H a xs) (r : Reps K H xs ds) : ItR K H (IteT K a) ⟨enumFrom 0 ds, fun _ => True⟩ where
  go := fun i d H' M k m l e => let ⟨y, e2, _⟩ := enumFrom_get ds 0 i d e; let ⟨v, e1, _⟩ := r.get e2; ⟨xs, v, SqT.keep k h, e1⟩
  yld := fun i d H' M x H2 k m l e y => by
    obtain ⟨T, z, rfl, hT, rfl, y⟩ := y
    obtain ⟨d', e2, rfl⟩ := enumFrom_get ds 0 i d e
    obtain ⟨v, e1, rv⟩ := r.get e2
    have := y xs (SqT.keep k h)
    rw [e1] at this; cases this
    rw [Nat.zero_add]
    exact ⟨Keep.new hT, .tup (SqT.of upd_same) (.cons (.int _) (.cons (rv.keep (k.trans (Keep.new hT))) .nil)), m.fresh hT⟩
  stop := fun i H' M k m l q => ⟨xs, SqT.keep k h, by rw [r.length]; have q' : (enumFrom 0 ds).length ≤ i := q; rwa [enumFrom_len] at q'⟩
theorem di_enum {p pos tpos : Pos} {elts : List Expr} {kk : Nat} (hg : Gl X "enumerate") (hm : X.mg "enumerate" = none) (he : DE X e te) (hst : starEach [e] X.env = (false, eval e X.env) :: starEach [] X.env := by rfl) (hs : starEach [e] X.env = [(false, eval e X.env)] := by rfl) :
    DI X (.Tuple elts kk tpos) (.Call (.Name "enumerate" p) [e] [] pos) (iEnumD te) := by
  refine di_of (pi_enumA hg hm (da_cons he da_nil hst).pa hs) (fun h q => he.mono.go (fun d M1 q => ?_) q) fun σ H R τ M hs hm q => ?_
  · split at q
    · exact h _ _ q
    · exact lsOf_mono (fun _ _ q => h _ _ q) q
  · refine ⟨τ, M, hs, hm, he.mono.go (fun d M1 q vs H1 k rs m => ?_) q⟩
    obtain ⟨v, rfl, r⟩ := reps1 rs
    split at q
    · cases r with
      | tup h rr => exact ⟨_, rfl, .inr ⟨⟨_, h⟩, q _ _ k m (itr_enumT h rr)⟩⟩
    · obtain ⟨a, live, ds, rfl, q, l, f⟩ := lsOf_to r m q
      obtain ⟨xs, h, _⟩ := f H1 M1 (Keep.refl _) m l
      exact ⟨a, rfl, .inl ⟨⟨xs, h⟩, q _ _ k m (itr_enumL f)⟩⟩
end
end DL

namespace DL
open PySem PySem.Spec PyProof.Rows L2

section
variable {X : Cx} {K : PySem.W.Frag} {a b c : Expr} {pos : Pos}
theorem ds_par3 {i j l : Nat} {x y z : Str} {ta : DTA} {px py pz pt : Pos} {kt k2 pt2} (hc : X.calm = true) (hN : X.N.Nodup) (hi : X.N[i]? = some x) (hj : X.N[j]? = some y) (hl : X.N[l]? = some z) (hij : i ≠ j) (hil : i ≠ l) (hjl : j ≠ l)
    (hx : X.env.scope.names.lookup x = some .local) (hy : X.env.scope.names.lookup y = some .local) (hz : X.env.scope.names.lookup z = some .local) (ha : DA X [a, b, c] ta)
    (hw : swappedStores [.Tuple [.Name x px, .Name y py, .Name z pz] kt pt] (.Tuple [a, b, c] k2 pt2) X.env = pure (some [x, y, z]))
    (hs : swapsWithSole [.Tuple [.Name x px, .Name y py, .Name z pz] kt pt] (.Tuple [a, b, c] k2 pt2) pos.line X.env = pure false := by rfl) :
    DSt X (.Assign [.Tuple [.Name x px, .Name y py, .Name z pz] kt pt] (.Tuple [a, b, c] k2 pt2) pos) (dPar3 i j l ta) := by
  refine ds_of (ps_par3 hc hN hi hj hl hij hil hjl hx hy hz ha.pa hw hs) (fun h q => ha.mono.go (fun ds M1 q => ?_) q) fun D σ H τ M E a b c d => ?_
  · split at q
    · exact h.nx _ _ q
    · exact q.elim
  · refine ⟨τ, M, a, b, ha.mono.go (fun ds M1 q vs H1 k r m1 => ?_) d⟩
    split at q
    · cases r with
      | cons r1 r =>
        cases r with
        | cons r2 r =>
          cases r with
          | cons r3 r =>
            cases r
            rw [dset_eq, dset_eq, dset_eq] at q
            exact ⟨_, _, _, rfl, c.nx _ _ _ _ q k ((((a.keep k).set i r1).set j r2).set l r3) m1⟩
    · exact q.elim
/-! ### calls with keywords -/
/-- positional values and keywords' values in the parameters' sequence -/
def gK {α : Type} (n m : Nat) (pm : List (Nat × Nat)) (us ws : List α) : List α := if us.length = n ∧ ws.length = m then pm.filterMap fun p => if p.1 = 0 then us[p.2]? else ws[p.2]? else []
theorem gK_vals {n m : Nat} {pm : List (Nat × Nat)} {vs : List V} {us : List Value} {zs : List V} {ws : List Value} (r : Vals vs us) (q : Vals zs ws) : Vals (gK n m pm vs zs) (gK n m pm us ws) := by
  unfold gK
  rw [r.length, q.length]
  split
  · induction pm with
    | nil => exact .nil
    | cons p pm ih =>
      rw [List.filterMap_cons, List.filterMap_cons]
      have key : ∀ {l : List V} {l' : List Value} (i : Nat), Vals l l' → (∃ x u, l[i]? = some x ∧ l'[i]? = some u ∧ RelV x u) ∨ (l[i]? = none ∧ l'[i]? = none) := fun {l l'} i h => by
        cases e : l[i]? with
        | some x => obtain ⟨u, h1, h2⟩ := h.get e; exact .inl ⟨x, u, rfl, h1, h2⟩
        | none => exact .inr ⟨rfl, h.none_of e⟩
      by_cases hp : p.1 = 0
      · rw [if_pos hp, if_pos hp]
        rcases key p.2 r with ⟨x, u, e1, e2, h⟩ | ⟨e1, e2⟩
        · rw [e1, e2]; exact .cons h ih
        · rw [e1, e2]; exact ih
      · rw [if_neg hp, if_neg hp]
        rcases key p.2 q with ⟨x, u, e1, e2, h⟩ | ⟨e1, e2⟩
        · rw [e1, e2]; exact .cons h ih
        · rw [e1, e2]; exact ih
  · exact .nil
theorem gK_reps {H : Hp} {n m : Nat} {pm : List (Nat × Nat)} {vs : List V} {us : List D} {zs : List V} {ws : List D} (r : Reps K H vs us) (q : Reps K H zs ws) : Reps K H (gK n m pm vs zs) (gK n m pm us ws) := by
  unfold gK
  rw [r.length, q.length]
  split
  · induction pm with
    | nil => exact .nil
    | cons p pm ih =>
      rw [List.filterMap_cons, List.filterMap_cons]
      have key : ∀ {l : List V} {l' : List D} (i : Nat), Reps K H l l' → (∃ x u, l[i]? = some x ∧ l'[i]? = some u ∧ Rep K H x u) ∨ (l[i]? = none ∧ l'[i]? = none) := fun {l l'} i h => by
        cases e : l[i]? with
        | some x => obtain ⟨u, h1, h2⟩ := h.get' e; exact .inl ⟨x, u, rfl, h1, h2⟩
        | none =>
          refine .inr ⟨rfl, ?_⟩
          have := List.getElem?_eq_none_iff.mp e
          exact List.getElem?_eq_none (by rw [← h.length]; exact this)
      by_cases hp : p.1 = 0
      · rw [if_pos hp, if_pos hp]
        rcases key p.2 r with ⟨x, u, e1, e2, h⟩ | ⟨e1, e2⟩
        · rw [e1, e2]; exact .cons h ih
        · rw [e1, e2]; exact ih
      · rw [if_neg hp, if_neg hp]
        rcases key p.2 q with ⟨x, u, e1, e2, h⟩ | ⟨e1, e2⟩
        · rw [e1, e2]; exact .cons h ih
        · rw [e1, e2]; exact ih
  · exact .nil
structure DKw (X : Cx) (kws : List Keyword) (t : DTA) : Prop where
  pk : PK X kws (upA X.K t)
  mono : MonoA t
variable {e : Expr} {es : List Expr} {kws : List Keyword} {te : DTE} {t tk : DTA} {nm : Option Str} {kpos p : Pos} {x : Str}
theorem dk_nil : DKw X [] dNil := ⟨⟨fun pos pins s σ H Q I ⟨τ, M, a, b, q⟩ => pk_nil.run pos pins s σ H Q I (q [] H (Keep.refl H) .nil b)⟩, (da_nil (X := X)).mono⟩
theorem dk_cons (ha : DE X e te) (hr : DKw X kws t) : DKw X (⟨nm, e, kpos⟩ :: kws) (dCons te t) :=
  ⟨⟨fun pos pins s σ H Q I ⟨τ, M, hs, hm, q⟩ => (pk_cons ha.pe hr.pk).run pos pins s σ H Q I
    ⟨τ, M, hs, hm, ha.mono.go (fun d M1 q v H1 k1 r1 m1 => ⟨τ, M1, hs.keep k1, m1, hr.mono.go (fun ds M2 q vs H2 k2 r2 m2 => q (v :: vs) H2 (k1.trans k2) (.cons (r1.keep k2) r2) m2) q⟩) q⟩⟩,
   ⟨fun h q => ha.mono.go (fun _ _ q => hr.mono.go (fun _ _ q => h _ _ q) q) q⟩⟩
structure CanK (P : Program) (w : World) (K : PySem.W.Frag) (mg : Str → Option Value) (base : Heap) (A : Around) (x : Str) (n : Nat) (ks : List Str) (pm : List (Nat × Nat)) (sp : DSp) : Prop where
  ex : ∃ (f : Addr) (fd : FuncData) (ps : List Str) (k : Nat), FnOk P w K mg base CX0 k f fd ps (upSp K sp) ∧ Room k A ∧ mg x = some (.ref f) ∧ PySem.W.keepIn K (.ref f) = true ∧ KBinds K fd ps ks (gK n ks.length pm) (gK n ks.length pm)
  mono : MonoSp sp
def dCallK (sp : DSp) (n m : Nat) (pm : List (Nat × Nat)) (t tk : DTA) : DTE := fun τ M Q => t τ M fun ds M1 => tk τ M1 fun es M2 => sp (gK n m pm ds es) M2 Q
theorem dCallK_mono {sp : DSp} {n m : Nat} {pm : List (Nat × Nat)} (ms : MonoSp sp) (mt : MonoA t) (mk : MonoA tk) : MonoE (dCallK sp n m pm t tk) := ⟨fun h q => mt.go (fun _ _ q => mk.go (fun _ _ q => ms.go h q) q) q⟩
theorem de_callK {sp : DSp} {n m : Nat} {ks : List Str} {pm : List (Nat × Nat)} (c : CanK X.prog X.w X.K X.mg X.base X.A x n ks pm sp) (hg : Gl X x) (ha : DA X (e :: es) t) (hkw : DKw X kws tk)
    (hall : (backToKw pos (keywordEach kws X.env)).all (·.1.isSome) = true := by rfl) (hks : (backToKw pos (keywordEach kws X.env)).filterMap (·.1) = ks := by rfl)
    (hdb : (x == ("__debug__" : Str)) = false := by decide) (he : starEach (e :: es) X.env = (false, eval e X.env) :: starEach es X.env := by rfl)
    (hpl : ((backTo pos (starEach (e :: es) X.env)).any (·.1) || (backToKw pos (keywordEach kws X.env)).any (·.1.isNone)) = false := by rfl) (hl : ks.length = m := by rfl) :
    DE X (.Call (.Name x p) (e :: es) kws pos) (dCallK sp n m pm t tk) := by
  subst hl
  obtain ⟨f, fd, ps, k, F, hr, hm, hk, hb⟩ := c.ex
  refine de_of (pe_callK F hr hg hm hk hb pass0 ha.pa hkw.pk hall hks hdb he hpl) (dCallK_mono c.mono ha.mono hkw.mono).go fun σ H Q τ M hs hm q => ?_
  exact ⟨τ, M, hs, hm, ha.mono.go (fun ds M1 q vs H1 k1 r1 m1 => ⟨τ, M1, hs.keep k1, m1, hkw.mono.go (fun es M2 q zs H2 k2 r2 m2 => ⟨_, M2, gK_reps (r1.keep k2) r2, m2, c.mono.go (fun d M' q v H' k3 => q v H' (k1.trans (k2.trans k3))) q⟩) q⟩) q⟩
theorem pe_callK0 {CX : CXT} {k : Nat} {f : Addr} {fd : FuncData} {ps ks : List Str} {sp : Sp} {E : XK} {tk : TA} {g : List Value → List Value → List Value} {gV : List V → List V → List V} (F : FnOk X.prog X.w X.K X.mg X.base CX k f fd ps sp) (hr : Room k X.A) (hg : Gl X x) (hm : X.mg x = some (.ref f)) (hk : PySem.W.keepIn X.K (.ref f) = true) (hb : KBinds X.K fd ps ks g gV) (hx : Passes CX X E)
    (hkw : PK X kws tk) (hall : (backToKw pos (keywordEach kws X.env)).all (·.1.isSome) = true := by rfl) (hks : (backToKw pos (keywordEach kws X.env)).filterMap (·.1) = ks := by rfl)
    (hdb : (x == ("__debug__" : Str)) = false := by decide)
    (hpl : ((backTo pos (starEach [] X.env)).any (·.1) || (backToKw pos (keywordEach kws X.env)).any (·.1.isNone)) = false := by rfl) :
    PE X (.Call (.Name x p) [] kws pos) (tCallK sp gV E tNil tk) := by
  refine ⟨fun pins s σ H Q I h => ?_⟩
  refine wpAny_Call_Name_kw (ld_glob I hg hm ?_ hdb)
  refine PySem.W.callWith_KW0 (h₀ := X.base) I.ok.mod.kin hk hall ?_ hpl
  refine thn (hkw.run pos pins s σ H _ I h) fun ws s2 ⟨zs, H2, I2, rz, q2⟩ => ⟨I2.kIn, ?_⟩
  rw [hks]
  exact run_fnk F hr hb hx I2 .nil rz q2
theorem de_callK0 {sp : DSp} {n m : Nat} {ks : List Str} {pm : List (Nat × Nat)} (c : CanK X.prog X.w X.K X.mg X.base X.A x n ks pm sp) (hg : Gl X x) (hkw : DKw X kws tk)
    (hall : (backToKw pos (keywordEach kws X.env)).all (·.1.isSome) = true := by rfl) (hks : (backToKw pos (keywordEach kws X.env)).filterMap (·.1) = ks := by rfl)
    (hdb : (x == ("__debug__" : Str)) = false := by decide)
    (hpl : ((backTo pos (starEach [] X.env)).any (·.1) || (backToKw pos (keywordEach kws X.env)).any (·.1.isNone)) = false := by rfl) (hl : ks.length = m := by rfl) :
    DE X (.Call (.Name x p) [] kws pos) (dCallK sp n m pm dNil tk) := by
  subst hl
  obtain ⟨f, fd, ps, k, F, hr, hm, hk, hb⟩ := c.ex
  refine de_of (pe_callK0 F hr hg hm hk hb pass0 hkw.pk hall hks hdb hpl) (dCallK_mono c.mono (da_nil (X := X)).mono hkw.mono).go fun σ H Q τ M hs hm q => ?_
  exact ⟨τ, M, hs, hm, hkw.mono.go (fun es M2 q zs H2 k2 r2 m2 => ⟨_, M2, gK_reps .nil r2, m2, c.mono.go (fun d M' q v H' k3 => q v H' (k2.trans k3)) q⟩) q⟩
/-- a def without defaults, called with all its parameters -/
theorem kbinds_mk {x qual : Str} {params : Arguments} {body : List Stmt} {scope : Scope} {kwd : List (Str × V)} {f : Addr} {fd : FuncData} {ps ks : List Str} {n : Nat} {pm : List (Nat × Nat)} (F : FunD K x qual params body scope [] kwd f fd) (hps : ps ≠ [])
    (h : ∀ (kV doc pm' : Value) (an : Option Addr) (cdv ct : Value) (us ws : List Value), us.length = n → ws.length = ks.length → bindArgs (PySem.W.fnOf x qual params body scope .none kV doc pm' an cdv ct) ⟨us, ks.zip ws⟩ = pure (ps.zip (gK n ks.length pm us ws))) :
    KBinds K fd ps ks (gK n ks.length pm) (gK n ks.length pm) := by
  obtain ⟨oc, od, dV, kV, doc, pm', an, cdv, ct, osl, rfl, lk, hcd, hD, hK⟩ := F.ex
  rcases hD with ⟨_, rfl⟩ | ⟨e, _⟩
  · refine ⟨fun s us ws _ hl => ?_, fun r q => gK_vals r q⟩
    by_cases hh : us.length = n ∧ ws.length = ks.length
    · exact .of_eq (h kV doc pm' an cdv ct us ws hh.1 hh.2)
    · unfold gK at hl
      rw [if_neg hh] at hl
      cases ps with
      | nil => exact absurd rfl hps
      | cons => cases hl
  · exact absurd rfl e
/-! ### zip -/
def zipD : List D → List D → List D
  | x :: xs, y :: ys => .tup [x, y] :: zipD xs ys
  | _, _ => []
theorem zipD_get : ∀ (xs ys : List D) (i : Nat) (d : D), (zipD xs ys)[i]? = some d → ∃ x y, xs[i]? = some x ∧ ys[i]? = some y ∧ d = .tup [x, y]
  | [], _, i, d, e => by simp [zipD] at e
  | _ :: _, [], i, d, e => by simp [zipD] at e
  | x :: xs, y :: ys, 0, d, e => by simp [zipD] at e; exact ⟨x, y, rfl, rfl, e.symm⟩
  | x :: xs, y :: ys, i + 1, d, e => by simpa using zipD_get xs ys i d (by simpa [zipD] using e)
theorem zipD_len : ∀ xs ys : List D, (zipD xs ys).length = min xs.length ys.length
  | [], ys => by simp [zipD]
  | _ :: _, [] => by simp [zipD]
  | x :: xs, y :: ys => by simp [zipD, zipD_len xs ys] <;> omega
def iZipD (ta tb : DTE) : DTI := fun τ M Q => ta τ M fun d M1 => tb τ M1 fun e M2 => match d, e with
  | .tup xs, .tup ys => Q ⟨zipD xs ys, fun _ => True⟩ M2
  | d, e => lsOf M2 d fun l1 xs => lsOf M2 e fun l2 ys => Q ⟨zipD xs ys, fun M => l1 M ∧ l2 M⟩ M2
theorem itr_zipT {H : Hp} {a b : Addr} {xs ys : List V} {ds es : List D} (h : SqT K H a xs) (r : Reps K H xs ds) (h2 : SqT K H b ys) (r2 : Reps K H ys es) : ItR K H (RZ.ItzT K a b) ⟨zipD ds es, fun _ => True⟩ where
  go := fun i d H' M k m l e => by
    obtain ⟨x, y, e1, e2, _⟩ := zipD_get ds es i d e
    obtain ⟨v, f1, _⟩ := r.get e1
    obtain ⟨w, f2, _⟩ := r2.get e2
    exact ⟨xs, ys, v, w, SqT.keep k h, SqT.keep k h2, f1, f2⟩
  yld := fun i d H' M x H2 k m l e y => by
    obtain ⟨T, u, v, rfl, hT, rfl, y1, y2⟩ := y
    obtain ⟨d1, d2, e1, e2, rfl⟩ := zipD_get ds es i d e
    obtain ⟨v1, f1, rv1⟩ := r.get e1
    obtain ⟨v2, f2, rv2⟩ := r2.get e2
    have g1 := y1 xs (SqT.keep k h)
    have g2 := y2 ys (SqT.keep k h2)
    rw [f1] at g1; cases g1
    rw [f2] at g2; cases g2
    exact ⟨Keep.new hT, .tup (SqT.of upd_same) (.cons (rv1.keep (k.trans (Keep.new hT))) (.cons (rv2.keep (k.trans (Keep.new hT))) .nil)), m.fresh hT⟩
  stop := fun i H' M k m l q => by
    have q' : (zipD ds es).length ≤ i := q
    rw [zipD_len] at q'
    exact ⟨xs, ys, SqT.keep k h, SqT.keep k h2, by rw [r.length, r2.length]; omega⟩
theorem itr_zipL {H : Hp} {a b : Addr} {l1 l2 : Mem → Prop} {ds es : List D} (f : ∀ H' M', Keep H H' → RM K H' M' → l1 M' → ∃ xs, SqL K H' a xs ∧ Reps K H' xs ds) (g : ∀ H' M', Keep H H' → RM K H' M' → l2 M' → ∃ xs, SqL K H' b xs ∧ Reps K H' xs es) : ItR K H (Itz K a b) ⟨zipD ds es, fun M => l1 M ∧ l2 M⟩ where
  go := fun i d H' M k m l e => by
    obtain ⟨x, y, e1, e2, _⟩ := zipD_get ds es i d e
    obtain ⟨xs, h, r⟩ := f H' M k m l.1
    obtain ⟨ys, h2, r2⟩ := g H' M k m l.2
    obtain ⟨v, f1, _⟩ := r.get e1
    obtain ⟨w, f2, _⟩ := r2.get e2
    exact ⟨xs, ys, v, w, h, h2, f1, f2⟩
  yld := fun i d H' M x H2 k m l e y => by
    obtain ⟨T, u, v, rfl, hT, rfl, y1, y2⟩ := y
    obtain ⟨d1, d2, e1, e2, rfl⟩ := zipD_get ds es i d e
    obtain ⟨xs, h, r⟩ := f _ M k m l.1
    obtain ⟨ys, h2, r2⟩ := g _ M k m l.2
    obtain ⟨v1, f1, rv1⟩ := r.get e1
    obtain ⟨v2, f2, rv2⟩ := r2.get e2
    have g1 := y1 xs h
    have g2 := y2 ys h2
    rw [f1] at g1; cases g1
    rw [f2] at g2; cases g2
    exact ⟨Keep.new hT, .tup (SqT.of upd_same) (.cons (rv1.keep (Keep.new hT)) (.cons (rv2.keep (Keep.new hT)) .nil)), m.fresh hT⟩
  stop := fun i H' M k m l q => by
    obtain ⟨xs, h, r⟩ := f H' M k m l.1
    obtain ⟨ys, h2, r2⟩ := g H' M k m l.2
    have q' : (zipD ds es).length ≤ i := q
    rw [zipD_len] at q'
    exact ⟨xs, ys, h, h2, by rw [r.length, r2.length]; omega⟩
theorem di_zip {ta tb : DTE} {tpos : Pos} {elts : List Expr} {kk : Nat} (hg : Gl X "zip") (hm : X.mg "zip" = none) (ha : DE X a ta) (hb : DE X b tb) (hst : starEach [a, b] X.env = (false, eval a X.env) :: starEach [b] X.env := by rfl) (hst2 : starEach [b] X.env = (false, eval b X.env) :: starEach [] X.env := by rfl)
    (hpl : (backTo pos (starEach [b] X.env)).any (·.1) = false := by rfl) :
    DI X (.Tuple elts kk tpos) (.Call (.Name "zip" p) [a, b] [] pos) (iZipD ta tb) := by
  refine di_of (RZ.pi_zipA hg hm (da_cons ha (da_cons hb da_nil hst2) hst).pa hst hpl) (fun h q => ha.mono.go (fun d M1 q => hb.mono.go (fun e M2 q => ?_) q) q) fun σ H R τ M hs hm q => ?_
  · split at q
    · exact h _ _ q
    · exact lsOf_mono (fun _ _ q => lsOf_mono (fun _ _ q => h _ _ q) q) q
  · refine ⟨τ, M, hs, hm, ha.mono.go (fun d M1 q => hb.mono.go (fun e M2 q vs H2 k rs m => ?_) q) q⟩
    obtain ⟨v1, v2, rfl, r1, r2⟩ := reps2 rs
    split at q
    · cases r1 with
      | tup h1 rr1 =>
        cases r2 with
        | tup h2 rr2 => exact ⟨_, _, _, _, rfl, .inr ⟨h1, h2, q _ _ k m (itr_zipT h1 rr1 h2 rr2)⟩⟩
    · obtain ⟨a1, l1, ds1, rfl, q, L1, f1⟩ := lsOf_to r1 m q
      obtain ⟨a2, l2, ds2, rfl, q, L2', f2⟩ := lsOf_to r2 m q
      obtain ⟨xs, h1, _⟩ := f1 H2 M2 (Keep.refl _) m L1
      obtain ⟨ys, h2, _⟩ := f2 H2 M2 (Keep.refl _) m L2'
      exact ⟨_, _, _, _, rfl, .inl ⟨h1, h2, q _ _ k m (itr_zipL f1 f2)⟩⟩
end
end DL
namespace DL
open PySem PySem.Spec PyProof.Rows L2
section
variable {X : Cx} {pos : Pos}
/-! ### {} -/
def dNewK : DTE := fun _ M Q => ∀ p, M p = none → Q (.ref p) (mupd M p (.dK []))
def dNewT : DTE := fun _ M Q => ∀ p, M p = none → Q (.ref p) (mupd M p (.dT []))
theorem de_dnewK : DE X (.Dict [] [] pos) dNewK := de_of pe_dnewK (fun h q p np => h _ _ (q p np)) fun σ H Q τ M a b q p np => q p (b.free np) _ _ (Keep.new np) (.ref p) (b.new (m := .dK []) np ⟨[], rfl, rfl, .nil⟩)
theorem de_dnewT : DE X (.Dict [] [] pos) dNewT := de_of pe_dnewT (fun h q p np => h _ _ (q p np)) fun σ H Q τ M a b q p np => q p (b.free np) _ _ (Keep.new np) (.ref p) (b.new (m := .dT []) np ⟨[], rfl, rfl, .nil⟩)
end
end DL

namespace DL
open PySem PySem.Spec PyProof.Rows L2
/-! what all laws share: the well of numbers -/
theorem atI0 {α : Type} {a : α} {l : List α} : atI (a :: l) 0 = some a := by
  unfold atI ixN
  rw [if_pos (by omega), if_pos (by simp only [List.length_cons]; omega)]
  rfl
theorem atI1 {α : Type} {a b : α} {l : List α} : atI (a :: b :: l) 1 = some b := by
  unfold atI ixN
  rw [if_pos (by omega), if_pos (by simp only [List.length_cons]; omega)]
  rfl
theorem atI2 {α : Type} {a b c : α} {l : List α} : atI (a :: b :: c :: l) 2 = some c := by
  unfold atI ixN
  rw [if_pos (by omega), if_pos (by simp only [List.length_cons]; omega)]
  rfl
theorem atI3 {α : Type} {a b c d : α} {l : List α} : atI (a :: b :: c :: d :: l) 3 = some d := by
  unfold atI ixN
  rw [if_pos (by omega), if_pos (by simp only [List.length_cons]; omega)]
  rfl
theorem atI_nat {α : Type} {l : List α} {i : Nat} : atI l (i : Int) = l[i]? := by
  unfold atI ixN
  rw [if_pos (by omega)]
  split
  · rfl
  · rw [List.getElem?_eq_none (by omega)]; rfl
theorem atI_lt {α : Type} {l : List α} {i : Int} (h0 : 0 ≤ i) (h : i < l.length) : atI l i = some (l[i.toNat]'(by omega)) := by
  unfold atI ixN
  rw [if_pos h0, if_pos h]
  exact List.getElem?_eq_getElem (by omega)
theorem ixN0 {n : Nat} : ixN (n + 1) 0 = some 0 := by
  unfold ixN
  rw [if_pos (by omega), if_pos (by omega)]; rfl
theorem ixN1 {n : Nat} : ixN (n + 2) 1 = some 1 := by
  unfold ixN
  rw [if_pos (by omega), if_pos (by omega)]; rfl
theorem ixN2 {n : Nat} : ixN (n + 3) 2 = some 2 := by
  unfold ixN
  rw [if_pos (by omega), if_pos (by omega)]; rfl
theorem ixN3 {n : Nat} : ixN (n + 4) 3 = some 3 := by
  unfold ixN
  rw [if_pos (by omega), if_pos (by omega)]; rfl
theorem fmod_pos (a : Int) {b : Int} (h : 0 < b) : 0 ≤ a.fmod b ∧ a.fmod b < b := by
  rw [Int.fmod_eq_emod_of_nonneg a (by omega)]
  exact ⟨Int.emod_nonneg a (by omega), Int.emod_lt_of_pos a h⟩
theorem fdiv_pos {a b : Int} (ha : 0 ≤ a) (h : 0 < b) : 0 ≤ a.fdiv b ∧ a.fdiv b ≤ a := by
  rw [Int.fdiv_eq_ediv_of_nonneg a (by omega)]
  exact ⟨Int.ediv_nonneg ha (by omega), Int.ediv_le_self b ha⟩
/-- all but one stays -/
def SubE (a : Addr) (M M' : Mem) : Prop := ∀ x o, x ≠ a → M x = some o → M' x = some o
theorem SubE.refl (a : Addr) (M : Mem) : SubE a M M := fun _ _ _ h => h
theorem SubE.trans {a : Addr} {M M1 M2 : Mem} (h : SubE a M M1) (k : SubE a M1 M2) : SubE a M M2 := fun x o n e => k x o n (h x o n e)
theorem SubE.of {a : Addr} {M M' : Mem} (h : Sub M M') : SubE a M M' := fun x o _ e => h x o e
theorem SubE.set {a : Addr} {M M' : Mem} {o : MO} (h : SubE a M M') : SubE a M (mupd M' a o) := fun x o n e => by
  rw [mupd_ne n]; exact h x o n e
theorem SubE.new {a p : Addr} {M M' : Mem} {o : MO} (h : SubE a M M') (hp : M p = none) : SubE a M (mupd M' p o) := fun x u n e => by
  rw [mupd_ne (fun z => by subst z; rw [e] at hp; cases hp)]; exact h x u n e
theorem ne_new {M : Mem} {a p : Addr} {o : MO} (h : M a = some o) (hp : M p = none) : a ≠ p := fun z => by subst z; rw [h] at hp; cases hp
/-- the well stands at a; B: how often it was turned at most -/
def Wl (B : Int) (M : Mem) (a : Addr) : Prop := ∃ p q r : Int, M a = some (.lst [.int p, .int q, .int r]) ∧ 0 ≤ p ∧ p < 10 ^ 60 ∧ 1 ≤ q ∧ q ≤ 2147483563 ∧ 0 ≤ r ∧ r ≤ B
theorem Wl.mono {B B' : Int} {M : Mem} {a : Addr} (h : Wl B M a) (k : B ≤ B') : Wl B' M a := by
  obtain ⟨p, q, r, e, h⟩ := h
  exact ⟨p, q, r, e, by omega⟩
theorem Wl.new {B : Int} {M : Mem} {a p : Addr} {o : MO} (h : Wl B M a) (hp : M p = none) : Wl B (mupd M p o) a := by
  obtain ⟨u, q, r, e, h⟩ := h
  exact ⟨u, q, r, by rw [mupd_ne (ne_new e hp)]; exact e, h⟩
theorem Wl.sub {B : Int} {M M' : Mem} {a : Addr} (h : Wl B M a) (k : Sub M M') : Wl B M' a := by
  obtain ⟨u, q, r, e, h⟩ := h
  exact ⟨u, q, r, k _ _ e, h⟩
/-! ### _law_dip -/
def bDip : DTS :=
    (dSeq (dIf (dTest (dOp pGt (dOp pIx (dVar 0) (dC (.int 0))) (dC (.int 0)))) (dSeq (dAsg (dOp pMod (dCB pInt (dCons (dOp pIx (dVar 0) (dC (.int 0))) dNil)) (dVar 1)) (gN 2))
    (dSeq (dAsg (dOp pFdiv (dOp pIx (dVar 0) (dC (.int 0))) (dVar 1)) (gSubL (dVar 0) (dC (.int 0))))
    (dRet (dVar 2)))) dNext)
    (dSeq (dAsg (dOp pAdd (dOp pIx (dVar 0) (dC (.int 2))) (dC (.int 1))) (gSubL (dVar 0) (dC (.int 2))))
    (dSeq (dAsg (dOp pMod (dCB pInt (dCons (dOp pAdd (dOp pMul (dOp pAdd (dOp pIx (dVar 0) (dC (.int 1))) (dOp pMul (dC (.int 88001)) (dOp pIx (dVar 0) (dC (.int 2))))) (dC (.int 57037))) (dC (.int 61))) dNil)) (dC (.int 2147483549))) (gN 3))
    (dSeq (dAsg (dOp pAdd (dOp pMod (dCB pInt (dCons (dOp pAdd (dOp pMul (dVar 3) (dC (.int 41141))) (dC (.int 21013))) dNil)) (dC (.int 2147483563))) (dC (.int 1))) (gSubL (dVar 0) (dC (.int 1))))
    (dRet (dOp pMod (dCB pInt (dCons (dOp pFdiv (dOp pAdd (dOp pMul (dVar 3) (dC (.int 2147483587))) (dOp pIx (dVar 0) (dC (.int 1)))) (dC (.int 8209))) dNil)) (dVar 1)))))))
def sp_dip : DSp := fun ds M Q => match ds with
  | [.ref a, .int n] => ∃ B : Int, Wl B M a ∧ B < 2 ^ 60 ∧ 0 < n ∧ n < 2 ^ 1000 ∧ ∀ (d : Int) (M' : Mem), 0 ≤ d → d < n → SubE a M M' → Wl (B + 1) M' a → Q (.int d) M'
  | _ => False
theorem sp_dip_mono : MonoSp sp_dip := ⟨fun {ds M Q Q'} h q => by
  unfold sp_dip at q ⊢
  split at q
  · obtain ⟨B, a, b, c, d, e⟩ := q
    exact ⟨B, a, b, c, d, fun x M' u v w z => h _ _ (e x M' u v w z)⟩
  · exact q⟩
theorem body_dip (ds : List D) (M : Mem) (Q : DQ) (hc : Clo Q) (h : sp_dip ds M Q) : bDip { nx := fun _ M' => Q .non M', rt := Q } (dstart ["well", "many", "digit", "raw"] ds) M := by
  unfold sp_dip at h
  split at h
  · rename_i a n
    obtain ⟨B, ⟨p, q, r, e, p0, p1, q0, q1, r0, r1⟩, hB, n0, n1, h⟩ := h
    by_cases hp : 0 < p
    · simp only [bDip, dSeq, dNext, dIf, dRet, dRetN, dDrop, dAsg, gN, gN0, gNc, gTp, gSubL, dPar, dPar3, dAug, dVar, dC, dOp, dUn, dTest, dAnd, dOr, dNot, dAndV, dOrV, dNotV, dIfE, dNil, dCons, dTup, dLst, dCB, dCall, dstart, dget, dset, dwp, dclr, asB, pI0, pI, pU, pAdd, pMul, pEqB, pIsB, pIx, pCI, pC2, pInt, pIsi, pLen, optQ, stL, lstAt, lsOf, atI0, atI1, atI2, atI3, ixN0, ixN1, ixN2, ixN3, mupd_same, mupd_mupd, dFor, iRng, List.map_cons, List.map_nil, List.length_cons, List.length_nil, List.replicate, List.cons_append, List.nil_append, List.append_nil, List.set_cons_zero, List.set_cons_succ, Nat.reduceAdd, Nat.reduceSub, Nat.sub_self, if_true, if_false, decide_eq_true_eq, Bool.false_eq_true, Bool.not_true, Bool.not_false, id_eq, ite_true, ite_false, e, hp]
      have hm := fmod_pos p n0
      have hd := fdiv_pos p0 n0
      refine ⟨by omega, cdv_small (by omega) (b := 1000) (by omega) (by decide), ?_⟩
      refine h _ _ hm.1 hm.2 (SubE.set (SubE.refl _ _)) ⟨_, _, _, mupd_same, by omega⟩
    · have hpf : decide (0 < p) = false := decide_eq_false hp
      simp only [bDip, dSeq, dNext, dIf, dRet, dRetN, dDrop, dAsg, gN, gN0, gNc, gTp, gSubL, dPar, dPar3, dAug, dVar, dC, dOp, dUn, dTest, dAnd, dOr, dNot, dAndV, dOrV, dNotV, dIfE, dNil, dCons, dTup, dLst, dCB, dCall, dstart, dget, dset, dwp, dclr, asB, pI0, pI, pU, pAdd, pMul, pEqB, pIsB, pIx, pCI, pC2, pInt, pIsi, pLen, optQ, stL, lstAt, lsOf, atI0, atI1, atI2, atI3, ixN0, ixN1, ixN2, ixN3, mupd_same, mupd_mupd, dFor, iRng, List.map_cons, List.map_nil, List.length_cons, List.length_nil, List.replicate, List.cons_append, List.nil_append, List.append_nil, List.set_cons_zero, List.set_cons_succ, Nat.reduceAdd, Nat.reduceSub, Nat.sub_self, if_true, if_false, decide_eq_true_eq, Bool.false_eq_true, Bool.not_true, Bool.not_false, id_eq, ite_true, ite_false, e, hpf]
      have h1 := fmod_pos ((q + 88001 * (r + 1)) * 57037 + 61) (b := 2147483549) (by omega)
      generalize hR : ((q + 88001 * (r + 1)) * 57037 + 61).fmod 2147483549 = R at h1
      have h2 := fmod_pos (R * 41141 + 21013) (b := 2147483563) (by omega)
      generalize hS : (R * 41141 + 21013).fmod 2147483563 = S at h2
      refine ⟨mulx_ok (a := 64) (b := 64) (by omega) (by omega) (by decide), mulx_ok (a := 128) (b := 64) (by omega) (by omega) (by decide), by decide, mulx_ok (a := 64) (b := 64) (by omega) (by omega) (by decide), by decide, mulx_ok (a := 64) (b := 64) (by omega) (by omega) (by decide), cdv_small (by decide) (b := 64) (by decide) (by decide), by omega, ?_⟩
      have hm := fmod_pos ((R * 2147483587 + (S + 1)).fdiv 8209) n0
      exact h _ _ hm.1 hm.2 (SubE.set (SubE.refl _ _)) ⟨_, _, _, mupd_same, by omega⟩
  · exact h.elim
end DL

namespace DL
open PySem PySem.Spec PyProof.Rows L2
/-! ### loops by invariants -/
section
variable {live : Mem → Prop} {g : DTG} {tb : DTS} {E : DEnds} {c tt : DTT} {te : DTE} {p : Addr} {τ : DS}
theorem loop_inv (I : List D → DS → Mem → Prop) (hl : ∀ r τ M, I r τ M → live M)
    (step : ∀ d r τ M (X : DS → Mem → Prop), I (d :: r) τ M → (∀ τ M, I r τ M → X τ M) → g d τ M fun τ2 M2 => tb { nx := X, rt := E.rt, bk := E.nx, ct := X } τ2 M2)
    (fin : ∀ τ M, I [] τ M → E.nx τ M) : ∀ (l : List D) (τ : DS) (M : Mem), I l τ M → dLoop live g tb l E τ M
  | [], τ, M, h => ⟨hl _ _ _ h, fin _ _ h⟩
  | d :: r, τ, M, h => ⟨hl _ _ _ h, step d r τ M _ h fun τ M q => loop_inv I hl step fin r τ M q⟩
theorem rngD_nil {lo hi : Int} (h : hi ≤ lo) : rngD lo hi = [] := by
  unfold rngD
  rw [show (hi - lo).toNat = 0 by omega]; rfl
theorem rngD_cons {lo hi : Int} (h : lo < hi) : rngD lo hi = .int lo :: rngD (lo + 1) hi := by
  unfold rngD
  rw [show (hi - lo).toNat = (hi - (lo + 1)).toNat + 1 by omega, List.range_succ_eq_map, List.map_cons, List.map_map]
  congr 1
  · congr 1; omega
  · apply List.map_congr_left
    intro i _
    simp only [Function.comp]
    congr 1; omega
theorem loop_rng {hi : Int} (I : Int → DS → Mem → Prop)
    (step : ∀ i τ M (X : DS → Mem → Prop), i < hi → I i τ M → (∀ τ M, I (i + 1) τ M → X τ M) → g (.int i) τ M fun τ2 M2 => tb { nx := X, rt := E.rt, bk := E.nx, ct := X } τ2 M2)
    (fin : ∀ τ M, I hi τ M → E.nx τ M) : ∀ (k : Nat) (lo : Int) (τ : DS) (M : Mem), hi = lo + k → I lo τ M → dLoop (fun _ => True) g tb (rngD lo hi) E τ M
  | 0, lo, τ, M, e, h => by
    rw [rngD_nil (by omega)]
    have e' : hi = lo := by omega
    subst e'
    exact ⟨trivial, fin _ _ h⟩
  | k + 1, lo, τ, M, e, h => by
    rw [rngD_cons (by omega)]
    exact ⟨trivial, step lo τ M _ (by omega) h fun τ M q => loop_rng I step fin k (lo + 1) τ M (by omega) q⟩
theorem while_inv (I : Nat → DS → Mem → Prop)
    (step : ∀ n τ M (X : DS → Mem → Prop), I n τ M → (∀ m τ M, m < n → I m τ M → X τ M) → c τ M fun b M1 => if b = true then tb { nx := X, rt := E.rt, bk := E.nx, ct := X } τ M1 else E.nx τ M1)
    {n : Nat} {τ : DS} {M : Mem} (h : I n τ M) : dWhile c tb E τ M := by
  refine ⟨n + 1, ?_⟩
  have key : ∀ (N n : Nat) (τ : DS) (M : Mem), n < N → I n τ M → dWhN c tb E N τ M := by
    intro N
    induction N with
    | zero => intro n τ M hn; omega
    | succ N ih =>
      intro n τ M hn h
      exact step n τ M _ h fun m τ M hm q => ih m τ M (by omega) q
  exact key (n + 1) n τ M (Nat.lt_succ_self n) h
/-- a comprehension whose element changes nothing -/
theorem lc_map {M0 : Mem} (f : D → D) (hl : ∀ xs, live (mupd M0 p (.lst xs))) : ∀ (r acc : List D) (Q : Mem → Prop),
    (∀ d ∈ r, ∀ xs (K : DQ), K (f d) (mupd M0 p (.lst xs)) → g d τ (mupd M0 p (.lst xs)) fun τ2 M2 => te τ2 M2 K) →
    acc.length + r.length ≤ sizeLine → Q (mupd M0 p (.lst (acc ++ r.map f))) → dLcL live g dYes te p τ r acc (mupd M0 p (.lst acc)) Q
  | [], acc, Q, _, _, q => ⟨hl _, by simpa using q⟩
  | d :: r, acc, Q, h, hs, q => by
    refine ⟨hl _, ?_⟩
    have hs' : acc.length + r.length + 1 ≤ sizeLine := by simp only [List.length_cons] at hs; omega
    refine h d (List.mem_cons_self ..) acc (fun y M4 => M4 p = some (.lst acc) ∧ acc.length < sizeLine ∧ dLcL live g dYes te p τ r (acc ++ [y]) (mupd M4 p (.lst (acc ++ [y]))) Q) ⟨mupd_same, by omega, ?_⟩
    rw [mupd_mupd]
    refine lc_map f hl r (acc ++ [f d]) Q (fun d hd => h d (List.mem_cons_of_mem _ hd)) (by simp only [List.length_append, List.length_cons, List.length_nil]; omega) ?_
    simpa using q
theorem lc_rng {M0 : Mem} {n : Nat} (f : Nat → D) {Q : Mem → Prop} (h : ∀ i : Nat, i < n → ∀ xs (K : DQ), K (f i) (mupd M0 p (.lst xs)) → g (.int i) τ (mupd M0 p (.lst xs)) fun τ2 M2 => te τ2 M2 K)
    (hs : n ≤ sizeLine) (q : Q (mupd M0 p (.lst ((List.range n).map f)))) : dLcL (fun _ => True) g dYes te p τ (rngD 0 n) [] (mupd M0 p (.lst [])) Q := by
  refine lc_map (fun d => match d with | .int i => f i.toNat | d => d) (fun _ => trivial) _ [] Q (fun d hd xs K k => ?_) (by simp [rngD]; exact hs) ?_
  · simp only [rngD, List.mem_map, List.mem_range] at hd
    obtain ⟨i, hi, rfl⟩ := hd
    have e : (0 : Int) + (i : Nat) = i := by omega
    rw [e] at k ⊢
    exact h i (by omega) xs K k
  · rw [List.nil_append]
    have e : (rngD 0 n).map (fun d => match d with | .int i => f i.toNat | d => d) = (List.range n).map f := by
      simp only [rngD, List.map_map]
      rw [show ((n : Int) - 0).toNat = n by omega]
      apply List.map_congr_left
      intro i _
      simp only [Function.comp]
      rw [show ((0 : Int) + (i : Nat)).toNat = i by omega]
    rw [e]; exact q
end
theorem bsOf_rep : ∀ n : Nat, bsOf (List.replicate n (.bl true)) = some (List.replicate n true)
  | 0 => rfl
  | n + 1 => by rw [List.replicate_succ, bsOf, bsOf_rep n]; rfl
theorem map_const {α β : Type} (l : List α) (b : β) : l.map (fun _ => b) = List.replicate l.length b := by
  induction l with
  | nil => rfl
  | cons a l ih => rw [List.map_cons, ih]; rfl
/-! ### _law_one, _law_is -/
def seqAt (M : Mem) (x : D) : Option (List D) := match x with
  | .tup xs => some xs
  | .kl xs => some xs
  | .ref b => match M b with
    | some (.lst xs) => some xs
    | _ => none
  | _ => none
def bOne (sp : DSp) : DTS := (dRet (dOp pIx (dVar 1) (dCall sp [] (dCons (dVar 0) (dCons (dCB pLen (dCons (dVar 1) dNil)) dNil)))))
def sp_one : DSp := fun ds M Q => match ds with
  | [.ref a, x] => ∃ (B : Int) (xs : List D), seqAt M x = some xs ∧ x ≠ .ref a ∧ Wl B M a ∧ B < 2 ^ 60 ∧ 0 < xs.length ∧ xs.length < 2 ^ 60 ∧ ∀ (d : D) (M' : Mem), d ∈ xs → SubE a M M' → Wl (B + 1) M' a → Q d M'
  | _ => False
theorem sp_one_mono : MonoSp sp_one := ⟨fun {ds M Q Q'} h q => by
  unfold sp_one at q ⊢
  split at q
  · obtain ⟨B, xs, a, b, c, d, e, f, k⟩ := q
    exact ⟨B, xs, a, b, c, d, e, f, fun x M' u v w => h _ _ (k x M' u v w)⟩
  · exact q⟩
theorem body_one (ds : List D) (M : Mem) (Q : DQ) (hc : Clo Q) (h : sp_one ds M Q) : bOne sp_dip { nx := fun _ M' => Q .non M', rt := Q } (dstart ["well", "some"] ds) M := by
  unfold sp_one at h
  split at h
  · rename_i a x
    obtain ⟨B, xs, e, nx, hw, hB, h0, h1, h⟩ := h
    unfold seqAt at e
    split at e
    · cases e
      simp only [bOne, dSeq, dNext, dIf, dRet, dRetN, dDrop, dAsg, gN, gN0, gNc, gTp, gSubL, dPar, dPar3, dAug, dVar, dC, dOp, dUn, dTest, dAnd, dOr, dNot, dAndV, dOrV, dNotV, dIfE, dNil, dCons, dTup, dLst, dCB, dCall, dstart, dget, dset, dwp, dclr, asB, pI0, pI, pU, pAdd, pMul, pEqB, pIsB, pIx, pCI, pC2, pInt, pIsi, pLen, optQ, stL, lstAt, lsOf, atI0, atI1, atI2, atI3, ixN0, ixN1, ixN2, ixN3, mupd_same, mupd_mupd, dFor, iRng, List.map_cons, List.map_nil, List.length_cons, List.length_nil, List.replicate, List.cons_append, List.nil_append, List.append_nil, List.set_cons_zero, List.set_cons_succ, Nat.reduceAdd, Nat.reduceSub, Nat.sub_self, if_true, if_false, decide_eq_true_eq, Bool.false_eq_true, Bool.not_true, Bool.not_false, id_eq, ite_true, ite_false]
      refine ⟨B, hw, hB, by omega, by omega, fun d M' d0 d1 s w => ?_⟩
      simp only [atI_lt d0 d1]
      exact h _ _ (List.getElem_mem _) s w
    · cases e
      simp only [bOne, dSeq, dNext, dIf, dRet, dRetN, dDrop, dAsg, gN, gN0, gNc, gTp, gSubL, dPar, dPar3, dAug, dVar, dC, dOp, dUn, dTest, dAnd, dOr, dNot, dAndV, dOrV, dNotV, dIfE, dNil, dCons, dTup, dLst, dCB, dCall, dstart, dget, dset, dwp, dclr, asB, pI0, pI, pU, pAdd, pMul, pEqB, pIsB, pIx, pCI, pC2, pInt, pIsi, pLen, optQ, stL, lstAt, lsOf, atI0, atI1, atI2, atI3, ixN0, ixN1, ixN2, ixN3, mupd_same, mupd_mupd, dFor, iRng, List.map_cons, List.map_nil, List.length_cons, List.length_nil, List.replicate, List.cons_append, List.nil_append, List.append_nil, List.set_cons_zero, List.set_cons_succ, Nat.reduceAdd, Nat.reduceSub, Nat.sub_self, if_true, if_false, decide_eq_true_eq, Bool.false_eq_true, Bool.not_true, Bool.not_false, id_eq, ite_true, ite_false]
      refine ⟨B, hw, hB, by omega, by omega, fun d M' d0 d1 s w => ?_⟩
      simp only [atI_lt d0 d1]
      exact h _ _ (List.getElem_mem _) s w
    · split at e
      · rename_i b _ _ eb
        cases e
        have nb : b ≠ a := fun z => nx (by rw [z])
        simp only [bOne, dSeq, dNext, dIf, dRet, dRetN, dDrop, dAsg, gN, gN0, gNc, gTp, gSubL, dPar, dPar3, dAug, dVar, dC, dOp, dUn, dTest, dAnd, dOr, dNot, dAndV, dOrV, dNotV, dIfE, dNil, dCons, dTup, dLst, dCB, dCall, dstart, dget, dset, dwp, dclr, asB, pI0, pI, pU, pAdd, pMul, pEqB, pIsB, pIx, pCI, pC2, pInt, pIsi, pLen, optQ, stL, lstAt, lsOf, atI0, atI1, atI2, atI3, ixN0, ixN1, ixN2, ixN3, mupd_same, mupd_mupd, dFor, iRng, List.map_cons, List.map_nil, List.length_cons, List.length_nil, List.replicate, List.cons_append, List.nil_append, List.append_nil, List.set_cons_zero, List.set_cons_succ, Nat.reduceAdd, Nat.reduceSub, Nat.sub_self, if_true, if_false, decide_eq_true_eq, Bool.false_eq_true, Bool.not_true, Bool.not_false, id_eq, ite_true, ite_false, eb]
        refine ⟨B, hw, hB, by omega, by omega, fun d M' d0 d1 s w => ?_⟩
        simp only [s _ _ nb eb, atI_lt d0 d1]
        exact h _ _ (List.getElem_mem _) s w
      · cases e
    · cases e
  · exact h.elim
def bIs : DTS := (dRet (dAndV (dCB pIsi (dCons (dVar 0) (dCons (dC (.ty "bool")) dNil))) (dOp pEq (dVar 0) (dVar 1))))
def sp_is : DSp := fun ds M Q => match ds with
  | [.bl a, .bl b] => Q (.bl (decide (a = b))) M
  | _ => False
theorem sp_is_mono : MonoSp sp_is := ⟨fun {ds M Q Q'} h q => by
  unfold sp_is at q ⊢
  split at q
  · exact h _ _ q
  · exact q⟩
theorem isiD_eq {M : Mem} {d : D} {n T : String} (h : kindD M d = some n) (hk : n ∈ kinds ∧ T ∈ kinds) : isiD M d T = some (isiB n T) := by
  unfold isiD; rw [h]; simp only [if_pos hk]
theorem isi_bl {M : Mem} {b : Bool} {T : String} (h : T ∈ kinds) : isiD M (.bl b) T = some (isiB "bool" T) := isiD_eq rfl ⟨by decide, h⟩
theorem isi_int {M : Mem} {b : Int} {T : String} (h : T ∈ kinds) : isiD M (.int b) T = some (isiB "int" T) := isiD_eq rfl ⟨by decide, h⟩
theorem isi_str {M : Mem} {b : Str} {T : String} (h : T ∈ kinds) : isiD M (.str b) T = some (isiB "str" T) := isiD_eq rfl ⟨by decide, h⟩
theorem isi_tup {M : Mem} {b : List D} {T : String} (h : T ∈ kinds) : isiD M (.tup b) T = some (isiB "tuple" T) := isiD_eq rfl ⟨by decide, h⟩
theorem isi_kl {M : Mem} {b : List D} {T : String} (h : T ∈ kinds) : isiD M (.kl b) T = some (isiB "list" T) := isiD_eq rfl ⟨by decide, h⟩
theorem isi_non {M : Mem} {T : String} (h : T ∈ kinds) : isiD M .non T = some (isiB "NoneType" T) := isiD_eq rfl ⟨by decide, h⟩
theorem k_bool : "bool" ∈ kinds := by decide
theorem k_int : "int" ∈ kinds := by decide
theorem k_str : "str" ∈ kinds := by decide
theorem k_tuple : "tuple" ∈ kinds := by decide
theorem k_list : "list" ∈ kinds := by decide
theorem k_dict : "dict" ∈ kinds := by decide
theorem ib1 : isiB "bool" "bool" = true := by decide
theorem ib2 : isiB "bool" "int" = true := by decide
theorem ib3 : isiB "bool" "str" = false := by decide
theorem ib4 : isiB "bool" "tuple" = false := by decide
theorem ib5 : isiB "bool" "list" = false := by decide
theorem ib6 : isiB "bool" "dict" = false := by decide
theorem ii1 : isiB "int" "bool" = false := by decide
theorem ii2 : isiB "int" "int" = true := by decide
theorem ii3 : isiB "int" "str" = false := by decide
theorem ii4 : isiB "int" "tuple" = false := by decide
theorem ii5 : isiB "int" "list" = false := by decide
theorem ii6 : isiB "int" "dict" = false := by decide
theorem is1 : isiB "str" "bool" = false := by decide
theorem is2 : isiB "str" "int" = false := by decide
theorem is3 : isiB "str" "str" = true := by decide
theorem is4 : isiB "str" "tuple" = false := by decide
theorem is5 : isiB "str" "list" = false := by decide
theorem is6 : isiB "str" "dict" = false := by decide
theorem it1 : isiB "tuple" "bool" = false := by decide
theorem it2 : isiB "tuple" "int" = false := by decide
theorem it3 : isiB "tuple" "str" = false := by decide
theorem it4 : isiB "tuple" "tuple" = true := by decide
theorem it5 : isiB "tuple" "list" = false := by decide
theorem it6 : isiB "tuple" "dict" = false := by decide
theorem in1 : isiB "NoneType" "bool" = false := by decide
theorem in2 : isiB "NoneType" "int" = false := by decide
theorem in3 : isiB "NoneType" "str" = false := by decide
theorem in4 : isiB "NoneType" "tuple" = false := by decide
theorem in5 : isiB "NoneType" "list" = false := by decide
theorem in6 : isiB "NoneType" "dict" = false := by decide
theorem body_is (ds : List D) (M : Mem) (Q : DQ) (hc : Clo Q) (h : sp_is ds M Q) : bIs { nx := fun _ M' => Q .non M', rt := Q } (dstart ["told", "due"] ds) M := by
  unfold sp_is at h
  split at h
  · simp only [bIs, dSeq, dNext, dIf, dRet, dRetN, dDrop, dAsg, gN, gN0, gNc, gTp, gSubL, dPar, dPar3, dAug, dVar, dC, dOp, dUn, dTest, dAnd, dOr, dNot, dAndV, dOrV, dNotV, dIfE, dNil, dCons, dTup, dLst, dCB, dCall, dstart, dget, dset, dwp, dclr, asB, pI0, pI, pU, pAdd, pMul, pEqB, pIsB, pIx, pCI, pC2, pInt, pIsi, pLen, optQ, stL, lstAt, lsOf, atI0, atI1, atI2, atI3, ixN0, ixN1, ixN2, ixN3, mupd_same, mupd_mupd, dFor, iRng, List.map_cons, List.map_nil, List.length_cons, List.length_nil, List.replicate, List.cons_append, List.nil_append, List.append_nil, List.set_cons_zero, List.set_cons_succ, Nat.reduceAdd, Nat.reduceSub, Nat.sub_self, if_true, if_false, decide_eq_true_eq, Bool.false_eq_true, Bool.not_true, Bool.not_false, id_eq, ite_true, ite_false, isi_bl k_bool, ib1]
    exact h
  · exact h.elim
/-! ### _law_like, by depth -/
def lk : Nat → D → Prop
  | _, .non => True
  | _, .bl _ => True
  | _, .int _ => True
  | _, .str _ => True
  | 0, .tup _ => False
  | k + 1, .tup ds => ds.length ≤ sizeLine ∧ ∀ d ∈ ds, lk k d
  | _, _ => False
def bLike (sp : DSp) : DTS :=
    (dSeq (dIf (dTest (dCB pIsi (dCons (dVar 1) (dCons (dC (.ty "tuple")) dNil)))) (dRet (dAndV (dCB pIsi (dCons (dVar 0) (dCons (dC (.ty "tuple")) dNil))) (dAndV (dOp pEq (dCB pLen (dCons (dVar 0) dNil)) (dCB pLen (dCons (dVar 1) dNil))) (dPure (dCB pAll (dCons (dLc (iRng (dCons (dCB pLen (dCons (dVar 1) dNil)) dNil)) (gN 2) dYes (dCall sp [] (dCons (dOp pIx (dVar 0) (dVar 2)) (dCons (dOp pIx (dVar 1) (dVar 2)) dNil))) [2]) dNil)))))) dNext)
    (dSeq (dIf (dTest (dOp pIs (dVar 1) (dC .non))) (dRet (dOp pIs (dVar 0) (dC .non))) dNext)
    (dSeq (dIf (dTest (dCB pIsi (dCons (dVar 1) (dCons (dC (.ty "bool")) dNil)))) (dRet (dAndV (dCB pIsi (dCons (dVar 0) (dCons (dC (.ty "bool")) dNil))) (dOp pEq (dVar 0) (dVar 1)))) dNext)
    (dSeq (dIf (dTest (dCB pIsi (dCons (dVar 1) (dCons (dC (.ty "str")) dNil)))) (dRet (dAndV (dCB pIsi (dCons (dVar 0) (dCons (dC (.ty "str")) dNil))) (dOp pEq (dVar 0) (dVar 1)))) dNext)
    (dRet (dAndV (dCB pIsi (dCons (dVar 0) (dCons (dC (.ty "int")) dNil))) (dAndV (dNotV (dCB pIsi (dCons (dVar 0) (dCons (dC (.ty "bool")) dNil)))) (dOp pEq (dVar 0) (dVar 1)))))))))
def spLikeS (k : Nat) : DSp := fun ds M Q => match ds with
  | [t, d] => t = d ∧ lk k d ∧ Q (.bl true) M
  | _ => False
def sp_like : Nat → DSp
  | 0 => fun _ _ _ => False
  | k + 1 => spLikeS k
theorem sp_like_mono : ∀ k, MonoSp (sp_like k)
  | 0 => ⟨fun h q => q⟩
  | k + 1 => ⟨fun {ds M Q Q'} h q => by
    change spLikeS k ds M Q at q
    change spLikeS k ds M Q'
    unfold spLikeS at q ⊢
    split at q
    · exact ⟨q.1, q.2.1, h _ _ q.2.2⟩
    · exact q⟩
theorem body_like (k : Nat) (ds : List D) (M : Mem) (Q : DQ) (hc : Clo Q) (h : sp_like (k + 1) ds M Q) : bLike (sp_like k) { nx := fun _ M' => Q .non M', rt := Q } (dstart ["told", "due", "at"] ds) M := by
  change spLikeS k ds M Q at h
  unfold spLikeS at h
  split at h
  · rename_i t d
    obtain ⟨rfl, hk, h⟩ := h
    cases t with
    | non => simp only [bLike, dSeq, dNext, dIf, dRet, dRetN, dDrop, dAsg, gN, gN0, gNc, gTp, gSubL, dPar, dPar3, dAug, dVar, dC, dOp, dUn, dTest, dAnd, dOr, dNot, dAndV, dOrV, dNotV, dIfE, dNil, dCons, dTup, dLst, dCB, dCall, dstart, dget, dset, dwp, dclr, asB, pI0, pI, pU, pAdd, pMul, pEqB, pIsB, pIx, pCI, pC2, pInt, pIsi, pLen, optQ, stL, lstAt, lsOf, atI0, atI1, atI2, atI3, ixN0, ixN1, ixN2, ixN3, mupd_same, mupd_mupd, dFor, iRng, List.map_cons, List.map_nil, List.length_cons, List.length_nil, List.replicate, List.cons_append, List.nil_append, List.append_nil, List.set_cons_zero, List.set_cons_succ, Nat.reduceAdd, Nat.reduceSub, Nat.sub_self, if_true, if_false, decide_eq_true_eq, Bool.false_eq_true, Bool.not_true, Bool.not_false, id_eq, ite_true, ite_false, isi_non k_tuple, in4, pIsB]; exact h
    | bl b => simp only [bLike, dSeq, dNext, dIf, dRet, dRetN, dDrop, dAsg, gN, gN0, gNc, gTp, gSubL, dPar, dPar3, dAug, dVar, dC, dOp, dUn, dTest, dAnd, dOr, dNot, dAndV, dOrV, dNotV, dIfE, dNil, dCons, dTup, dLst, dCB, dCall, dstart, dget, dset, dwp, dclr, asB, pI0, pI, pU, pAdd, pMul, pEqB, pIsB, pIx, pCI, pC2, pInt, pIsi, pLen, optQ, stL, lstAt, lsOf, atI0, atI1, atI2, atI3, ixN0, ixN1, ixN2, ixN3, mupd_same, mupd_mupd, dFor, iRng, List.map_cons, List.map_nil, List.length_cons, List.length_nil, List.replicate, List.cons_append, List.nil_append, List.append_nil, List.set_cons_zero, List.set_cons_succ, Nat.reduceAdd, Nat.reduceSub, Nat.sub_self, if_true, if_false, decide_eq_true_eq, Bool.false_eq_true, Bool.not_true, Bool.not_false, id_eq, ite_true, ite_false, isi_bl k_tuple, isi_bl k_bool, ib4, ib1, pIsB, decide_true]; exact h
    | int i => simp only [bLike, dSeq, dNext, dIf, dRet, dRetN, dDrop, dAsg, gN, gN0, gNc, gTp, gSubL, dPar, dPar3, dAug, dVar, dC, dOp, dUn, dTest, dAnd, dOr, dNot, dAndV, dOrV, dNotV, dIfE, dNil, dCons, dTup, dLst, dCB, dCall, dstart, dget, dset, dwp, dclr, asB, pI0, pI, pU, pAdd, pMul, pEqB, pIsB, pIx, pCI, pC2, pInt, pIsi, pLen, optQ, stL, lstAt, lsOf, atI0, atI1, atI2, atI3, ixN0, ixN1, ixN2, ixN3, mupd_same, mupd_mupd, dFor, iRng, List.map_cons, List.map_nil, List.length_cons, List.length_nil, List.replicate, List.cons_append, List.nil_append, List.append_nil, List.set_cons_zero, List.set_cons_succ, Nat.reduceAdd, Nat.reduceSub, Nat.sub_self, if_true, if_false, decide_eq_true_eq, Bool.false_eq_true, Bool.not_true, Bool.not_false, id_eq, ite_true, ite_false, isi_int k_tuple, isi_int k_bool, isi_int k_str, isi_int k_int, ii1, ii2, ii3, ii4, pIsB, decide_true]; exact h
    | str x => simp only [bLike, dSeq, dNext, dIf, dRet, dRetN, dDrop, dAsg, gN, gN0, gNc, gTp, gSubL, dPar, dPar3, dAug, dVar, dC, dOp, dUn, dTest, dAnd, dOr, dNot, dAndV, dOrV, dNotV, dIfE, dNil, dCons, dTup, dLst, dCB, dCall, dstart, dget, dset, dwp, dclr, asB, pI0, pI, pU, pAdd, pMul, pEqB, pIsB, pIx, pCI, pC2, pInt, pIsi, pLen, optQ, stL, lstAt, lsOf, atI0, atI1, atI2, atI3, ixN0, ixN1, ixN2, ixN3, mupd_same, mupd_mupd, dFor, iRng, List.map_cons, List.map_nil, List.length_cons, List.length_nil, List.replicate, List.cons_append, List.nil_append, List.append_nil, List.set_cons_zero, List.set_cons_succ, Nat.reduceAdd, Nat.reduceSub, Nat.sub_self, if_true, if_false, decide_eq_true_eq, Bool.false_eq_true, Bool.not_true, Bool.not_false, id_eq, ite_true, ite_false, isi_str k_tuple, isi_str k_bool, isi_str k_str, is4, is1, is3, pIsB, decide_true]; exact h
    | tup es =>
      cases k with
      | zero => exact hk.elim
      | succ k =>
        obtain ⟨hs, hd⟩ := hk
        simp only [bLike, dSeq, dNext, dIf, dRet, dRetN, dDrop, dAsg, gN, gN0, gNc, gTp, gSubL, dPar, dPar3, dAug, dVar, dC, dOp, dUn, dTest, dAnd, dOr, dNot, dAndV, dOrV, dNotV, dIfE, dNil, dCons, dTup, dLst, dCB, dCall, dstart, dget, dset, dwp, dclr, asB, pI0, pI, pU, pAdd, pMul, pEqB, pIsB, pIx, pCI, pC2, pInt, pIsi, pLen, optQ, stL, lstAt, lsOf, atI0, atI1, atI2, atI3, ixN0, ixN1, ixN2, ixN3, mupd_same, mupd_mupd, dFor, iRng, List.map_cons, List.map_nil, List.length_cons, List.length_nil, List.replicate, List.cons_append, List.nil_append, List.append_nil, List.set_cons_zero, List.set_cons_succ, Nat.reduceAdd, Nat.reduceSub, Nat.sub_self, if_true, if_false, decide_eq_true_eq, Bool.false_eq_true, Bool.not_true, Bool.not_false, id_eq, ite_true, ite_false, isi_tup k_tuple, it4, decide_true, dPure, dLc, pBs]
        have h62 : (es.length : Int) < 2 ^ 62 := by
          have : sizeLine < 2 ^ 62 := by decide +kernel
          omega
        refine ⟨⟨by omega, h62⟩, fun p np => ?_⟩
        refine lc_rng (fun _ => .bl true) (fun i hi xs K k' => ?_) hs ?_
        · simp only [dSeq, dNext, dIf, dRet, dRetN, dDrop, dAsg, gN, gN0, gNc, gTp, gSubL, dPar, dPar3, dAug, dVar, dC, dOp, dUn, dTest, dAnd, dOr, dNot, dAndV, dOrV, dNotV, dIfE, dNil, dCons, dTup, dLst, dCB, dCall, dstart, dget, dset, dwp, dclr, asB, pI0, pI, pU, pAdd, pMul, pEqB, pIsB, pIx, pCI, pC2, pInt, pIsi, pLen, optQ, stL, lstAt, lsOf, atI0, atI1, atI2, atI3, ixN0, ixN1, ixN2, ixN3, mupd_same, mupd_mupd, dFor, iRng, List.map_cons, List.map_nil, List.length_cons, List.length_nil, List.replicate, List.cons_append, List.nil_append, List.append_nil, List.set_cons_zero, List.set_cons_succ, Nat.reduceAdd, Nat.reduceSub, Nat.sub_self, if_true, if_false, decide_eq_true_eq, Bool.false_eq_true, Bool.not_true, Bool.not_false, id_eq, ite_true, ite_false]
          rw [atI_nat, List.getElem?_eq_getElem hi]
          simp only [sp_like, spLikeS]
          exact ⟨trivial, hd _ (List.getElem_mem _), k'⟩
        · simp only [dSeq, dNext, dIf, dRet, dRetN, dDrop, dAsg, gN, gN0, gNc, gTp, gSubL, dPar, dPar3, dAug, dVar, dC, dOp, dUn, dTest, dAnd, dOr, dNot, dAndV, dOrV, dNotV, dIfE, dNil, dCons, dTup, dLst, dCB, dCall, dstart, dget, dset, dwp, dclr, asB, pI0, pI, pU, pAdd, pMul, pEqB, pIsB, pIx, pCI, pC2, pInt, pIsi, pLen, optQ, stL, lstAt, lsOf, atI0, atI1, atI2, atI3, ixN0, ixN1, ixN2, ixN3, mupd_same, mupd_mupd, dFor, iRng, List.map_cons, List.map_nil, List.length_cons, List.length_nil, List.replicate, List.cons_append, List.nil_append, List.append_nil, List.set_cons_zero, List.set_cons_succ, Nat.reduceAdd, Nat.reduceSub, Nat.sub_self, if_true, if_false, decide_eq_true_eq, Bool.false_eq_true, Bool.not_true, Bool.not_false, id_eq, ite_true, ite_false, map_const, List.length_range, bsOf_rep]
          rw [show (List.replicate es.length true).all id = true by simp]
          exact ⟨Sub.new np, h⟩
    | ref a => exact absurd hk (by cases k <;> exact id)
    | ty n => exact absurd hk (by cases k <;> exact id)
    | kl ds => exact absurd hk (by cases k <;> exact id)
  · exact h.elim
/-! ### _law_well -/
def bWellEnd : DTS := dRet (dLst (dCons (dOp pIx (dLst (dCons (dC (.int 0)) (dCons (dVar 2) dNil))) (dCB pInt (dCons (dOp pGe (dVar 2) (dOp pPow (dC (.int 10)) (dC (.int 18)))) dNil))) (dCons (dOp pAdd (dOp pMod (dCB pInt (dCons (dOp pAdd (dOp pMul (dOp pMod (dCB pInt (dCons (dVar 2) dNil)) (dC (.int 2147483563))) (dC (.int 45007))) (dOp pMul (dC (.int 42013)) (dVar 1))) dNil)) (dC (.int 2147483563))) (dC (.int 1))) (dCons (dC (.int 0)) dNil))))
def bWell : DTS :=
    (dSeq (dAsg (dOp pAdd (dOp pMul (dC (.int 6121)) (dVar 1)) (dC (.int 811))) (gN 2))
    (dSeq (dIf (dTest (dOp pLt (dVar 1) (dCB pLen (dCons (dVar 0) dNil)))) (dAsg (dOp pMod (dCB pInt (dCons (dCB pAbs (dCons (dOp pIx (dVar 0) (dVar 1)) dNil)) dNil)) (dOp pPow (dC (.int 10)) (dC (.int 60)))) (gN 2)) (dIf (dTest (dOp pGt (dCB pLen (dCons (dVar 0) dNil)) (dC (.int 0)))) (dAsg (dOp pAdd (dVar 2) (dOp pMul (dOp pMod (dCB pInt (dCons (dCB pAbs (dCons (dOp pIx (dVar 0) (dOp pMod (dCB pInt (dCons (dVar 1) dNil)) (dCB pLen (dCons (dVar 0) dNil)))) dNil)) dNil)) (dC (.int 2147483563))) (dC (.int 60029)))) (gN 2)) dNext))
    bWellEnd))
def sp_well : DSp := fun ds M Q => match ds with
  | [.kl xs, .int k] => ∃ ns : List Int, xs = ns.map D.int ∧ 0 ≤ k ∧ k < 1000 ∧ ∀ (p : Addr) (M' : Mem), Sub M M' → M p = none → Wl 0 M' p → Q (.ref p) M'
  | _ => False
theorem sp_well_mono : MonoSp sp_well := ⟨fun {ds M Q Q'} h q => by
  unfold sp_well at q ⊢
  split at q
  · obtain ⟨ns, a, b, c, d⟩ := q
    exact ⟨ns, a, b, c, fun p M' u v w => h _ _ (d p M' u v w)⟩
  · exact q⟩
theorem well_end (cell k : Int) (k0 : 0 ≤ k) (k1 : k < 1000) (c0 : 0 ≤ cell) (c1 : cell < 10 ^ 60) (M : Mem) (Q : DQ) (h : ∀ (p : Addr) (M' : Mem), Sub M M' → M p = none → Wl 0 M' p → Q (.ref p) M') (x : DS) (s : D) :
    bWellEnd
      { nx := fun _ M' => Q .non M', rt := Q } [some s, some (.int k), some (.int cell)] M := by
  simp only [bWellEnd, dSeq, dNext, dIf, dRet, dRetN, dDrop, dAsg, gN, gN0, gNc, gTp, gSubL, dPar, dPar3, dAug, dVar, dC, dOp, dUn, dTest, dAnd, dOr, dNot, dAndV, dOrV, dNotV, dIfE, dNil, dCons, dTup, dLst, dCB, dCall, dstart, dget, dset, dwp, dclr, asB, pI0, pI, pU, pAdd, pMul, pEqB, pIsB, pIx, pCI, pC2, pInt, pIsi, pLen, optQ, stL, lstAt, lsOf, atI0, atI1, atI2, atI3, ixN0, ixN1, ixN2, ixN3, mupd_same, mupd_mupd, dFor, iRng, List.map_cons, List.map_nil, List.length_cons, List.length_nil, List.replicate, List.cons_append, List.nil_append, List.append_nil, List.set_cons_zero, List.set_cons_succ, Nat.reduceAdd, Nat.reduceSub, Nat.sub_self, if_true, if_false, decide_eq_true_eq, Bool.false_eq_true, Bool.not_true, Bool.not_false, id_eq, ite_true, ite_false]
  refine ⟨by decide, fun p np => ?_⟩
  refine ⟨⟨by decide, by decide, by decide⟩, ?_⟩
  have hm := fmod_pos cell (b := 2147483563) (by omega)
  have hm2 := fmod_pos ((cell.fmod 2147483563 * 45007 + 42013 * k)) (b := 2147483563) (by omega)
  by_cases hge : (10 : Int) ^ (18 : Int).toNat ≤ cell
  · simp only [hge, dSeq, dNext, dIf, dRet, dRetN, dDrop, dAsg, gN, gN0, gNc, gTp, gSubL, dPar, dPar3, dAug, dVar, dC, dOp, dUn, dTest, dAnd, dOr, dNot, dAndV, dOrV, dNotV, dIfE, dNil, dCons, dTup, dLst, dCB, dCall, dstart, dget, dset, dwp, dclr, asB, pI0, pI, pU, pAdd, pMul, pEqB, pIsB, pIx, pCI, pC2, pInt, pIsi, pLen, optQ, stL, lstAt, lsOf, atI0, atI1, atI2, atI3, ixN0, ixN1, ixN2, ixN3, mupd_same, mupd_mupd, dFor, iRng, List.map_cons, List.map_nil, List.length_cons, List.length_nil, List.replicate, List.cons_append, List.nil_append, List.append_nil, List.set_cons_zero, List.set_cons_succ, Nat.reduceAdd, Nat.reduceSub, Nat.sub_self, if_true, if_false, decide_eq_true_eq, Bool.false_eq_true, Bool.not_true, Bool.not_false, id_eq, ite_true, ite_false]
    refine ⟨by decide, mulx_ok (a := 64) (b := 64) (by omega) (by omega) (by decide), mulx_ok (a := 64) (b := 64) (by omega) (by omega) (by decide), by decide, by decide, fun q nq => ?_⟩
    have nq' : M q = none := by
      by_cases z : q = p
      · subst z; exact np
      · rw [mupd_ne z] at nq; exact nq
    exact h q _ ((Sub.new np).new' nq') nq' ⟨_, _, _, mupd_same, by omega⟩
  · simp only [hge, dSeq, dNext, dIf, dRet, dRetN, dDrop, dAsg, gN, gN0, gNc, gTp, gSubL, dPar, dPar3, dAug, dVar, dC, dOp, dUn, dTest, dAnd, dOr, dNot, dAndV, dOrV, dNotV, dIfE, dNil, dCons, dTup, dLst, dCB, dCall, dstart, dget, dset, dwp, dclr, asB, pI0, pI, pU, pAdd, pMul, pEqB, pIsB, pIx, pCI, pC2, pInt, pIsi, pLen, optQ, stL, lstAt, lsOf, atI0, atI1, atI2, atI3, ixN0, ixN1, ixN2, ixN3, mupd_same, mupd_mupd, dFor, iRng, List.map_cons, List.map_nil, List.length_cons, List.length_nil, List.replicate, List.cons_append, List.nil_append, List.append_nil, List.set_cons_zero, List.set_cons_succ, Nat.reduceAdd, Nat.reduceSub, Nat.sub_self, if_true, if_false, decide_eq_true_eq, Bool.false_eq_true, Bool.not_true, Bool.not_false, id_eq, ite_true, ite_false]
    refine ⟨by decide, mulx_ok (a := 64) (b := 64) (by omega) (by omega) (by decide), mulx_ok (a := 64) (b := 64) (by omega) (by omega) (by decide), by decide, by decide, fun q nq => ?_⟩
    have nq' : M q = none := by
      by_cases z : q = p
      · subst z; exact np
      · rw [mupd_ne z] at nq; exact nq
    exact h q _ ((Sub.new np).new' nq') nq' ⟨_, _, _, mupd_same, by omega⟩
theorem atI_map {α β : Type} (f : α → β) (xs : List α) (i : Int) : atI (xs.map f) i = (atI xs i).map f := by
  unfold atI
  rw [List.length_map]
  cases ixN xs.length i with
  | none => rfl
  | some j => simp
theorem body_well (ds : List D) (M : Mem) (Q : DQ) (hc : Clo Q) (h : sp_well ds M Q) : bWell { nx := fun _ M' => Q .non M', rt := Q } (dstart ["script", "k", "cell"] ds) M := by
  unfold sp_well at h
  split at h
  · rename_i xs k
    obtain ⟨ns, rfl, k0, k1, h⟩ := h
    unfold bWell dSeq
    by_cases hl : k < ((ns.map D.int).length : Nat)
    · have e : decide (k < ((ns.map D.int).length : Nat)) = true := decide_eq_true hl
      simp only [dSeq, dNext, dIf, dRet, dRetN, dDrop, dAsg, gN, gN0, gNc, gTp, gSubL, dPar, dPar3, dAug, dVar, dC, dOp, dUn, dTest, dAnd, dOr, dNot, dAndV, dOrV, dNotV, dIfE, dNil, dCons, dTup, dLst, dCB, dCall, dstart, dget, dset, dwp, dclr, asB, pI0, pI, pU, pAdd, pMul, pEqB, pIsB, pIx, pCI, pC2, pInt, pIsi, pLen, optQ, stL, lstAt, lsOf, atI0, atI1, atI2, atI3, ixN0, ixN1, ixN2, ixN3, mupd_same, mupd_mupd, dFor, iRng, List.map_cons, List.map_nil, List.length_cons, List.length_nil, List.replicate, List.cons_append, List.nil_append, List.append_nil, List.set_cons_zero, List.set_cons_succ, Nat.reduceAdd, Nat.reduceSub, Nat.sub_self, if_true, if_false, decide_eq_true_eq, Bool.false_eq_true, Bool.not_true, Bool.not_false, id_eq, ite_true, ite_false, e]
      refine ⟨mulx_ok (a := 64) (b := 64) (by omega) (by omega) (by decide), ?_⟩
      rw [List.length_map] at hl
      rw [atI_map, atI_lt k0 hl]
      simp only [Option.map_some, dSeq, dNext, dIf, dRet, dRetN, dDrop, dAsg, gN, gN0, gNc, gTp, gSubL, dPar, dPar3, dAug, dVar, dC, dOp, dUn, dTest, dAnd, dOr, dNot, dAndV, dOrV, dNotV, dIfE, dNil, dCons, dTup, dLst, dCB, dCall, dstart, dget, dset, dwp, dclr, asB, pI0, pI, pU, pAdd, pMul, pEqB, pIsB, pIx, pCI, pC2, pInt, pIsi, pLen, optQ, stL, lstAt, lsOf, atI0, atI1, atI2, atI3, ixN0, ixN1, ixN2, ixN3, mupd_same, mupd_mupd, dFor, iRng, List.map_cons, List.map_nil, List.length_cons, List.length_nil, List.replicate, List.cons_append, List.nil_append, List.append_nil, List.set_cons_zero, List.set_cons_succ, Nat.reduceAdd, Nat.reduceSub, Nat.sub_self, if_true, if_false, decide_eq_true_eq, Bool.false_eq_true, Bool.not_true, Bool.not_false, id_eq, ite_true, ite_false]
      refine ⟨⟨by decide, by decide, by decide⟩, by decide, ?_⟩
      have hm := fmod_pos ((ns[k.toNat]'(by omega)).natAbs : Int) (b := 10 ^ (60 : Int).toNat) (by decide)
      exact well_end _ k k0 k1 hm.1 hm.2 M Q h [] _
    · have e : decide (k < ((ns.map D.int).length : Nat)) = false := decide_eq_false hl
      simp only [dSeq, dNext, dIf, dRet, dRetN, dDrop, dAsg, gN, gN0, gNc, gTp, gSubL, dPar, dPar3, dAug, dVar, dC, dOp, dUn, dTest, dAnd, dOr, dNot, dAndV, dOrV, dNotV, dIfE, dNil, dCons, dTup, dLst, dCB, dCall, dstart, dget, dset, dwp, dclr, asB, pI0, pI, pU, pAdd, pMul, pEqB, pIsB, pIx, pCI, pC2, pInt, pIsi, pLen, optQ, stL, lstAt, lsOf, atI0, atI1, atI2, atI3, ixN0, ixN1, ixN2, ixN3, mupd_same, mupd_mupd, dFor, iRng, List.map_cons, List.map_nil, List.length_cons, List.length_nil, List.replicate, List.cons_append, List.nil_append, List.append_nil, List.set_cons_zero, List.set_cons_succ, Nat.reduceAdd, Nat.reduceSub, Nat.sub_self, if_true, if_false, decide_eq_true_eq, Bool.false_eq_true, Bool.not_true, Bool.not_false, id_eq, ite_true, ite_false, e]
      refine ⟨mulx_ok (a := 64) (b := 64) (by omega) (by omega) (by decide), ?_⟩
      rw [List.length_map] at hl ⊢
      by_cases h0 : (0 : Int) < (ns.length : Nat)
      · simp only [dSeq, dNext, dIf, dRet, dRetN, dDrop, dAsg, gN, gN0, gNc, gTp, gSubL, dPar, dPar3, dAug, dVar, dC, dOp, dUn, dTest, dAnd, dOr, dNot, dAndV, dOrV, dNotV, dIfE, dNil, dCons, dTup, dLst, dCB, dCall, dstart, dget, dset, dwp, dclr, asB, pI0, pI, pU, pAdd, pMul, pEqB, pIsB, pIx, pCI, pC2, pInt, pIsi, pLen, optQ, stL, lstAt, lsOf, atI0, atI1, atI2, atI3, ixN0, ixN1, ixN2, ixN3, mupd_same, mupd_mupd, dFor, iRng, List.map_cons, List.map_nil, List.length_cons, List.length_nil, List.replicate, List.cons_append, List.nil_append, List.append_nil, List.set_cons_zero, List.set_cons_succ, Nat.reduceAdd, Nat.reduceSub, Nat.sub_self, if_true, if_false, decide_eq_true_eq, Bool.false_eq_true, Bool.not_true, Bool.not_false, id_eq, ite_true, ite_false, h0]
        have hm := fmod_pos k h0
        refine ⟨by omega, ?_⟩
        rw [atI_map, atI_lt hm.1 hm.2]
        simp only [Option.map_some, dSeq, dNext, dIf, dRet, dRetN, dDrop, dAsg, gN, gN0, gNc, gTp, gSubL, dPar, dPar3, dAug, dVar, dC, dOp, dUn, dTest, dAnd, dOr, dNot, dAndV, dOrV, dNotV, dIfE, dNil, dCons, dTup, dLst, dCB, dCall, dstart, dget, dset, dwp, dclr, asB, pI0, pI, pU, pAdd, pMul, pEqB, pIsB, pIx, pCI, pC2, pInt, pIsi, pLen, optQ, stL, lstAt, lsOf, atI0, atI1, atI2, atI3, ixN0, ixN1, ixN2, ixN3, mupd_same, mupd_mupd, dFor, iRng, List.map_cons, List.map_nil, List.length_cons, List.length_nil, List.replicate, List.cons_append, List.nil_append, List.append_nil, List.set_cons_zero, List.set_cons_succ, Nat.reduceAdd, Nat.reduceSub, Nat.sub_self, if_true, if_false, decide_eq_true_eq, Bool.false_eq_true, Bool.not_true, Bool.not_false, id_eq, ite_true, ite_false]
        refine ⟨by decide, ?_⟩
        generalize ((ns[(k.fmod (ns.length : Nat)).toNat]'(by omega)).natAbs : Int) = z
        have hz := fmod_pos z (b := 2147483563) (by decide)
        refine ⟨mulx_ok (a := 64) (b := 64) (by omega) (by omega) (by decide), ?_⟩
        exact well_end _ k k0 k1 (by omega) (by omega) M Q h [] _
      · simp only [dSeq, dNext, dIf, dRet, dRetN, dDrop, dAsg, gN, gN0, gNc, gTp, gSubL, dPar, dPar3, dAug, dVar, dC, dOp, dUn, dTest, dAnd, dOr, dNot, dAndV, dOrV, dNotV, dIfE, dNil, dCons, dTup, dLst, dCB, dCall, dstart, dget, dset, dwp, dclr, asB, pI0, pI, pU, pAdd, pMul, pEqB, pIsB, pIx, pCI, pC2, pInt, pIsi, pLen, optQ, stL, lstAt, lsOf, atI0, atI1, atI2, atI3, ixN0, ixN1, ixN2, ixN3, mupd_same, mupd_mupd, dFor, iRng, List.map_cons, List.map_nil, List.length_cons, List.length_nil, List.replicate, List.cons_append, List.nil_append, List.append_nil, List.set_cons_zero, List.set_cons_succ, Nat.reduceAdd, Nat.reduceSub, Nat.sub_self, if_true, if_false, decide_eq_true_eq, Bool.false_eq_true, Bool.not_true, Bool.not_false, id_eq, ite_true, ite_false, h0]
        exact well_end _ k k0 k1 (by omega) (by omega) M Q h [] _
  · exact h.elim
end DL

namespace DL
open PySem PySem.Spec PyProof.Rows L2
/-! ### a promise that nothing meets -/
def spNo : DSp := fun _ _ _ => False
theorem fn_no {P : Program} {w : World} {K : PySem.W.Frag} {mg : Str → Option Value} {base : Heap} {k : Nat} {f : Addr} {fd : FuncData} {ps : List Str} : FnOk P w K mg base CX0 k f fd ps (upSp K spNo) :=
  ⟨fun vs H Q E ⟨_, _, _, _, h⟩ => h.elim, fun A outer s H args us vs Q E _ _ _ _ ⟨_, _, _, _, h⟩ => h.elim⟩
theorem spNo_mono : MonoSp spNo := ⟨fun _ q => q⟩
/-! ### constants of the module -/
mutual
def repB (K : PySem.W.Frag) : D → Value → Bool
  | .non, .none => true
  | .bl b, .bool c => b == c
  | .int i, .int j _ => decide (i = j)
  | .str x, .str y _ => decide (x = y)
  | .ty n, .type m => decide (n = m)
  | .tup ds, .ref a => match K.lookup a with
    | some ⟨.type c, _, .seq its _, _⟩ => decide (c = "tuple") && (decide (its.size ≤ sizeLine) && repBs K ds its.toList)
    | _ => false
  | _, _ => false
def repBs (K : PySem.W.Frag) : List D → List Value → Bool
  | [], [] => true
  | d :: ds, u :: us => repB K d u && repBs K ds us
  | _, _ => false
end
mutual
theorem repB_ok {K : PySem.W.Frag} : ∀ (d : D) (u : Value), repB K d u = true → ∃ v, RelV v u ∧ ∀ H, Rep K H v d
  | .non, u, h => by
    cases u with
    | none => exact ⟨.non, rfl, fun _ => .non⟩
    | _ => simp [repB] at h
  | .bl b, u, h => by
    cases u with
    | bool c =>
      simp only [repB, beq_iff_eq] at h
      subst h
      exact ⟨.bl b, rfl, fun _ => .bl b⟩
    | _ => simp [repB] at h
  | .int i, u, h => by
    cases u with
    | int j t =>
      simp only [repB, decide_eq_true_eq] at h
      subst h
      exact ⟨.int i, ⟨_, rfl⟩, fun _ => .int i⟩
    | _ => simp [repB] at h
  | .str x, u, h => by
    cases u with
    | str y t =>
      simp only [repB, decide_eq_true_eq] at h
      subst h
      exact ⟨.str x, ⟨_, rfl⟩, fun _ => .str x⟩
    | _ => simp [repB] at h
  | .ty n, u, h => by
    cases u with
    | type m =>
      simp only [repB, decide_eq_true_eq] at h
      subst h
      exact ⟨.ty n, rfl, fun _ => .ty n⟩
    | _ => simp [repB] at h
  | .ref a, u, h => by cases u <;> simp [repB] at h
  | .kl ds, u, h => by cases u <;> simp [repB] at h
  | .tup ds, u, h => by
    cases u with
    | ref a =>
      simp only [repB] at h
      split at h
      · rename_i c od its n os e
        simp only [Bool.and_eq_true, decide_eq_true_eq] at h
        obtain ⟨rfl, hs, hr⟩ := h
        obtain ⟨vs, r, q⟩ := repBs_ok ds its.toList hr
        exact ⟨.ref a, rfl, fun H => .tup (.inr ⟨_, its, n, e, rfl, rfl, hs, r⟩) (q H)⟩
      · cases h
    | _ => simp [repB] at h
theorem repBs_ok {K : PySem.W.Frag} : ∀ (ds : List D) (us : List Value), repBs K ds us = true → ∃ vs, Vals vs us ∧ ∀ H, Reps K H vs ds
  | [], us, h => by
    cases us with
    | nil => exact ⟨[], .nil, fun _ => .nil⟩
    | cons => simp [repBs] at h
  | d :: ds, us, h => by
    cases us with
    | nil => simp [repBs] at h
    | cons u us =>
      simp only [repBs, Bool.and_eq_true] at h
      obtain ⟨v, r, q⟩ := repB_ok d u h.1
      obtain ⟨vs, rs, qs⟩ := repBs_ok ds us h.2
      exact ⟨v :: vs, .cons r rs, fun H => .cons (q H) (qs H)⟩
end
def cOk (K : PySem.W.Frag) (p : Str × D) : Bool := match PySem.W.nsIn K mainGlobals p.1 with
  | some (some u) => repB K p.2 u
  | _ => false
theorem gc_ok {K : PySem.W.Frag} {h : Heap} {mg : Str → Option Value} (X : K.In h) (G : h.Ns mainGlobals mg) {x : Str} {d : D} (c : cOk K (x, d) = true) : GC K mg x d := by
  unfold cOk at c
  split at c
  · rename_i u e
    obtain ⟨v, r, q⟩ := repB_ok d u c
    exact ⟨u, v, PySem.W.mg_of X G e, r, q⟩
  · cases c
/-! ### the Hook: facts, constants, defs -/
open He in
def obsC (fa : List Fa) (cs : List (Str × D)) (fn : List DefD) (K : PySem.W.Frag) : AlD := (((fa.all fun f => f.ok K) && cs.all fun p => cOk K p) && fn.all fun d => d.ok K, fn.map fun d => fnW K d.at_)
open He in
def SaysC (fa : List Fa) (cs : List (Str × D)) (fn : List DefD) (K : PySem.W.Frag) : Prop := obsC fa cs fn K = valD fn
open He in
def obsCG (n : Nat) (fa : List Fa) (cs : List (Str × D)) (fn : List DefD) (g : Addr → Option Obj) : AlD := obsC fa cs fn (frG g (asD g n))
open He in
def hookC (n : Nat) (fa : List Fa) (cs : List (Str × D)) (fn : List DefD) : PySem.W.Hook where
  α := AlD
  obs := fun s => obsCG n fa cs fn s.heap.get?
  val := fun _ => valD fn
  says := fun _ h => ∃ K : PySem.W.Frag, K.In h ∧ SaysC fa cs fn K
  of := fun _ _ e => ⟨_, frG_in, e⟩
  keeps := fun _ _ _ ⟨K, hK, c⟩ k => ⟨K, PySem.W.Frag.In.keeps hK k, c⟩
open He in
theorem obsCG_eq {n : Nat} {fa : List Fa} {cs : List (Str × D)} {fn : List DefD} {g : Addr → Option Obj} {s : Shared} (h : ∀ a, g a = s.heap.get? a) : obsCG n fa cs fn g = (hookC n fa cs fn).obs s := by
  have e : g = s.heap.get? := funext h
  rw [e] <;> rfl
section
open He
variable {fa : List Fa} {cs : List (Str × D)} {fn : List DefD} {K : PySem.W.Frag}
theorem SaysC.d (c : SaysC fa cs fn K) : SaysD fa fn K := by
  have c1 := ba (show (((fa.all fun f => f.ok K) && cs.all fun p => cOk K p) && fn.all fun d => d.ok K) = true from congrArg (fun z : AlD => z.1) c)
  have c2 := ba c1.1
  have e : fn.map (fun d => fnW K d.at_) = fn.map DefD.val := congrArg (fun z : AlD => z.2) c
  show ((fa.all fun f => f.ok K) && fn.all fun d => d.ok K, fn.map fun d => fnW K d.at_) = valD fn
  rw [c2.1, c1.2, e]; rfl
theorem SaysC.con (c : SaysC fa cs fn K) (i : Nat) {p : Str × D} (h : cs[i]? = some p := by rfl) : cOk K p = true := by
  have c1 := ba (show (((fa.all fun f => f.ok K) && cs.all fun p => cOk K p) && fn.all fun d => d.ok K) = true from congrArg (fun z : AlD => z.1) c)
  exact List.all_eq_true.mp (ba c1.1).2 p (List.mem_of_getElem? h)
end
/-- the script is a list that nothing changes -/
theorem law_up {K : PySem.W.Frag} {sp : DSp} (hsp : ∀ (ns : List Int) (M : Mem) (Q : DQ), Q (.bl true) M → sp [.kl (ns.map D.int)] M Q) (H : Hp) (a : Addr) (ns : List Int) (hO : Only H) (hS : SqL K H a (ns.map V.int)) :
    upSp K sp [.ref a] H (fun v _ => v = .bl true) fun _ _ _ => False := by
  have hk : SqK K H a (ns.map V.int) := by
    rcases hS with (h | ⟨o, h⟩) | h
    · rcases hO a with e | ⟨o, xs, e⟩ <;> (rw [e] at h; cases h)
    · exact .inl ⟨o, h⟩
    · exact .inr h
  refine ⟨[.kl (ns.map D.int)], fun _ => none, .cons (.kl hk (Reps.of_ints ns)) .nil, ?_, hsp ns _ _ fun v H' k r m => ?_⟩
  · intro b o e; cases e
  · cases r; rfl
end DL

namespace K07
open PySem PySem.Spec PyProof.Rows L2 DL
def topS (i : Nat) : Stmt := PySem.Challenge.pw_slopesumskept_k07_fractions_and_binomial.main.body.getD i (.Pass ⟨0, 0, 0, 0⟩)
/-! ### is_integer(value): 0 value -/
abbrev s_is_integer : Stmt := topS 1
theorem sc_is_integer : FnScope ["value"] ["value"] (defScope s_is_integer) := ⟨rfl, rfl, rfl, by decide +kernel, rfl, by decide +kernel, by decide +kernel⟩
def b_is_integer : DTS :=
    (dRet (dAndV (dCB pIsi (dCons (dVar 0) (dCons (dC (.ty "int")) dNil))) (dNotV (dCB pIsi (dCons (dVar 0) (dCons (dC (.ty "bool")) dNil))))))
theorem d_is_integer {P : Program} {w : World} {K : PySem.W.Frag} {mg : Str → Option Value} {base : Heap} {f : Addr} {cdv : Value} {A : Around} {outer : List Env} {s : Shared} {H : Hp} {E : XK} (n_isinstance : mg "isinstance" = none) (n_int : mg "int" = none) (n_bool : mg "bool" = none) :
    DSs (cxOf CX0 P w K mg base ["value"] "is_integer" (defScope s_is_integer) f cdv A outer s H E).nox (defBody s_is_integer) (b_is_integer) :=
    (dss_one (ds_ret (de_and (de_callB cr_isi cd_isi (by rfl) n_isinstance (by decide +kernel) (da_cons (dv 0) (da_cons (de_bltn (n := "int") (by rfl) n_int (by decide +kernel)) da_nil))) (de_one (de_not (de_callB cr_isi cd_isi (by rfl) n_isinstance (by decide +kernel) (da_cons (dv 0) (da_cons (de_bltn (n := "bool") (by rfl) n_bool (by decide +kernel)) da_nil))))))))
/-! ### divisor_of(one, other): 0 one 1 other -/
abbrev s_divisor_of : Stmt := topS 4
theorem sc_divisor_of : FnScope ["one", "other"] ["one", "other"] (defScope s_divisor_of) := ⟨rfl, rfl, rfl, by decide +kernel, rfl, by decide +kernel, by decide +kernel⟩
def b_divisor_of : DTS :=
    (dSeq (dPar 0 1 (dCons (dCB pAbs (dCons (dVar 0) dNil)) (dCons (dCB pAbs (dCons (dVar 1) dNil)) dNil)))
    (dSeq (dWhile (dTest (dOp pGt (dVar 1) (dC (.int 0)))) (dPar 0 1 (dCons (dVar 1) (dCons (dOp pMod (dVar 0) (dVar 1)) dNil))))
    (dRet (dVar 0))))
theorem d_divisor_of {P : Program} {w : World} {K : PySem.W.Frag} {mg : Str → Option Value} {base : Heap} {f : Addr} {cdv : Value} {A : Around} {outer : List Env} {s : Shared} {H : Hp} {E : XK} (n_abs : mg "abs" = none) :
    DSs (cxOf CX0 P w K mg base ["one", "other"] "divisor_of" (defScope s_divisor_of) f cdv A outer s H E).nox (defBody s_divisor_of) (b_divisor_of) :=
    (dss_cons (ds_par (i := 0) (j := 1) rfl sc_divisor_of.nd rfl rfl (by decide) rfl rfl (da_cons (de_callB call_abs cd_abs (by rfl) n_abs (by decide +kernel) (da_cons (dv 0) da_nil)) (da_cons (de_callB call_abs cd_abs (by rfl) n_abs (by decide +kernel) (da_cons (dv 1) da_nil)) da_nil)) (by rfl))
    (dss_cons (ds_while PassesOwn.never (dt_cmp op_gt opd_gt (dv 1) de_int (nomark _)) (dss_one (ds_par (i := 0) (j := 1) rfl sc_divisor_of.nd rfl rfl (by decide) rfl rfl (da_cons (dv 1) (da_cons (de_op op_modN opd_mod (dv 0) (dv 1)) da_nil)) (by rfl))))
    (dss_one (ds_ret (dv 0)))))
/-! ### is_fraction(value): 0 value -/
abbrev s_is_fraction : Stmt := topS 5
theorem sc_is_fraction : FnScope ["value"] ["value"] (defScope s_is_fraction) := ⟨rfl, rfl, rfl, by decide +kernel, rfl, by decide +kernel, by decide +kernel⟩
def b_is_fraction (sp_is_integer : DSp) (sp_divisor_of : DSp) : DTS :=
    (dSeq (dIf (dOr (dNot (dTest (dCB pIsi (dCons (dVar 0) (dCons (dC (.ty "tuple")) dNil))))) (dOr (dTest (dOp pNe (dCB pLen (dCons (dVar 0) dNil)) (dC (.int 2)))) (dOr (dNot (dTest (dCall sp_is_integer [] (dCons (dOp pIx (dVar 0) (dC (.int 0))) dNil)))) (dNot (dTest (dCall sp_is_integer [] (dCons (dOp pIx (dVar 0) (dC (.int 1))) dNil))))))) (dRet (dC (.bl false))) dNext)
    (dRet (dAndV (dOp pGt (dOp pIx (dVar 0) (dC (.int 1))) (dC (.int 0))) (dOp pEq (dCall sp_divisor_of [] (dCons (dOp pIx (dVar 0) (dC (.int 0))) (dCons (dOp pIx (dVar 0) (dC (.int 1))) dNil))) (dC (.int 1))))))
theorem d_is_fraction {P : Program} {w : World} {K : PySem.W.Frag} {mg : Str → Option Value} {base : Heap} {f : Addr} {cdv : Value} {A : Around} {outer : List Env} {s : Shared} {H : Hp} {E : XK} {sp_is_integer : DSp} {sp_divisor_of : DSp} (c_is_integer_1 : Can P w K mg base (A.deeper (envOfC "is_fraction" (defScope s_is_fraction) s.heap.objs.size f cdv)) "is_integer" [] sp_is_integer) (c_divisor_of_2 : Can P w K mg base (A.deeper (envOfC "is_fraction" (defScope s_is_fraction) s.heap.objs.size f cdv)) "divisor_of" [] sp_divisor_of) (n_isinstance : mg "isinstance" = none) (n_tuple : mg "tuple" = none) (n_len : mg "len" = none) (hu : (A.deeper (envOfC "is_fraction" (defScope s_is_fraction) s.heap.objs.size f cdv)).units + 64 < cLine) :
    DSs (cxOf CX0 P w K mg base ["value"] "is_fraction" (defScope s_is_fraction) f cdv A outer s H E).nox (defBody s_is_fraction) (b_is_fraction sp_is_integer sp_divisor_of) :=
    (dss_cons (ds_if (DW.dt (dw_or (dt_not (dt_val (de_callB cr_isi cd_isi (by rfl) n_isinstance (by decide +kernel) (da_cons (dv 0) (da_cons (de_bltn (n := "tuple") (by rfl) n_tuple (by decide +kernel)) da_nil))))) (dw_or (dt_cmp (op_neAll hu) opd_ne (de_callB cr_len cd_len (by rfl) n_len (by decide +kernel) (da_cons (dv 0) da_nil)) de_int (nomark _)) (dw_or (dt_not (dt_val (de_call c_is_integer_1 (by rfl) (da_cons (de_ix (dv 0) de_int (fun _ _ => rfl)) da_nil)))) (dw_or1 (dt_not (dt_val (de_call c_is_integer_1 (by rfl) (da_cons (de_ix (dv 0) de_int (fun _ _ => rfl)) da_nil))))))))) (dss_one (ds_ret de_bl)) dss_nil)
    (dss_one (ds_ret (de_and (de_cmp op_gt opd_gt (de_ix (dv 0) de_int (fun _ _ => rfl)) de_int (nomark _)) (de_one (de_cmp (op_eqAll hu) opd_eq (de_call c_divisor_of_2 (by rfl) (da_cons (de_ix (dv 0) de_int (fun _ _ => rfl)) (da_cons (de_ix (dv 0) de_int (fun _ _ => rfl)) da_nil))) de_int (nomark _)))))))
/-! ### fraction_of(top, bottom): 0 top 1 bottom 2 common -/
abbrev s_fraction_of : Stmt := topS 6
theorem sc_fraction_of : FnScope ["top", "bottom", "common"] ["top", "bottom"] (defScope s_fraction_of) := ⟨rfl, rfl, rfl, by decide +kernel, rfl, by decide +kernel, by decide +kernel⟩
def b_fraction_of (sp_divisor_of : DSp) : DTS :=
    (dSeq (dAsg (dCall sp_divisor_of [] (dCons (dVar 0) (dCons (dVar 1) dNil))) (gN 2))
    (dSeq (dIf (dTest (dOp pLt (dVar 1) (dC (.int 0)))) (dAsg (dUn pNeg (dVar 2)) (gN 2)) dNext)
    (dRet (dTup (dCons (dOp pFdiv (dVar 0) (dVar 2)) (dCons (dOp pFdiv (dVar 1) (dVar 2)) dNil))))))
theorem d_fraction_of {P : Program} {w : World} {K : PySem.W.Frag} {mg : Str → Option Value} {base : Heap} {f : Addr} {cdv : Value} {A : Around} {outer : List Env} {s : Shared} {H : Hp} {E : XK} {sp_divisor_of : DSp} (c_divisor_of_2 : Can P w K mg base (A.deeper (envOfC "fraction_of" (defScope s_fraction_of) s.heap.objs.size f cdv)) "divisor_of" [] sp_divisor_of) :
    DSs (cxOf CX0 P w K mg base ["top", "bottom", "common"] "fraction_of" (defScope s_fraction_of) f cdv A outer s H E).nox (defBody s_fraction_of) (b_fraction_of sp_divisor_of) :=
    (dss_cons (ds_set (i := 2) sc_fraction_of.nd rfl (by first | exact Or.inl rfl | exact Or.inr rfl) (de_call c_divisor_of_2 (by rfl) (da_cons (dv 0) (da_cons (dv 1) da_nil))))
    (dss_cons (ds_if (dt_cmp op_lt opd_lt (dv 1) de_int (nomark _)) (dss_one (ds_set (i := 2) sc_fraction_of.nd rfl (by first | exact Or.inl rfl | exact Or.inr rfl) (de_un un_neg und_neg (dv 2)))) dss_nil)
    (dss_one (ds_ret (de_tup (da_cons (de_op op_fdivV opd_fdiv (dv 0) (dv 2)) (da_cons (de_op op_fdivV opd_fdiv (dv 1) (dv 2)) da_nil)))))))
/-! ### plus(one, other): 0 one 1 other -/
abbrev s_plus : Stmt := topS 7
theorem sc_plus : FnScope ["one", "other"] ["one", "other"] (defScope s_plus) := ⟨rfl, rfl, rfl, by decide +kernel, rfl, by decide +kernel, by decide +kernel⟩
def b_plus (sp_fraction_of : DSp) : DTS :=
    (dSeq (dIf (dAnd (dTest (dOp pEq (dOp pIx (dVar 0) (dC (.int 1))) (dC (.int 1)))) (dTest (dOp pEq (dOp pIx (dVar 1) (dC (.int 1))) (dC (.int 1))))) (dRet (dTup (dCons (dOp pAdd (dOp pIx (dVar 0) (dC (.int 0))) (dOp pIx (dVar 1) (dC (.int 0)))) (dCons (dC (.int 1)) dNil)))) dNext)
    (dRet (dCall sp_fraction_of [] (dCons (dOp pAdd (dOp pMul (dOp pIx (dVar 0) (dC (.int 0))) (dOp pIx (dVar 1) (dC (.int 1)))) (dOp pMul (dOp pIx (dVar 1) (dC (.int 0))) (dOp pIx (dVar 0) (dC (.int 1))))) (dCons (dOp pMul (dOp pIx (dVar 0) (dC (.int 1))) (dOp pIx (dVar 1) (dC (.int 1)))) dNil)))))
theorem d_plus {P : Program} {w : World} {K : PySem.W.Frag} {mg : Str → Option Value} {base : Heap} {f : Addr} {cdv : Value} {A : Around} {outer : List Env} {s : Shared} {H : Hp} {E : XK} {sp_fraction_of : DSp} (c_fraction_of_2 : Can P w K mg base (A.deeper (envOfC "plus" (defScope s_plus) s.heap.objs.size f cdv)) "fraction_of" [] sp_fraction_of) (hu : (A.deeper (envOfC "plus" (defScope s_plus) s.heap.objs.size f cdv)).units + 64 < cLine) :
    DSs (cxOf CX0 P w K mg base ["one", "other"] "plus" (defScope s_plus) f cdv A outer s H E).nox (defBody s_plus) (b_plus sp_fraction_of) :=
    (dss_cons (ds_if (DW.dt (dw_and (dt_cmp (op_eqAll hu) opd_eq (de_ix (dv 0) de_int (fun _ _ => rfl)) de_int (nomark _)) (dw_and1 (dt_cmp (op_eqAll hu) opd_eq (de_ix (dv 1) de_int (fun _ _ => rfl)) de_int (nomark _))))) (dss_one (ds_ret (de_tup (da_cons (de_op op_addAll opd_add (de_ix (dv 0) de_int (fun _ _ => rfl)) (de_ix (dv 1) de_int (fun _ _ => rfl))) (da_cons de_int da_nil))))) dss_nil)
    (dss_one (ds_ret (de_call c_fraction_of_2 (by rfl) (da_cons (de_op op_addAll opd_add (de_op op_mulAll opd_mul (de_ix (dv 0) de_int (fun _ _ => rfl)) (de_ix (dv 1) de_int (fun _ _ => rfl))) (de_op op_mulAll opd_mul (de_ix (dv 1) de_int (fun _ _ => rfl)) (de_ix (dv 0) de_int (fun _ _ => rfl)))) (da_cons (de_op op_mulAll opd_mul (de_ix (dv 0) de_int (fun _ _ => rfl)) (de_ix (dv 1) de_int (fun _ _ => rfl))) da_nil))))))
/-! ### minus(one, other): 0 one 1 other -/
abbrev s_minus : Stmt := topS 8
theorem sc_minus : FnScope ["one", "other"] ["one", "other"] (defScope s_minus) := ⟨rfl, rfl, rfl, by decide +kernel, rfl, by decide +kernel, by decide +kernel⟩
def b_minus (sp_plus : DSp) : DTS :=
    (dRet (dCall sp_plus [] (dCons (dVar 0) (dCons (dTup (dCons (dUn pNeg (dOp pIx (dVar 1) (dC (.int 0)))) (dCons (dOp pIx (dVar 1) (dC (.int 1))) dNil))) dNil))))
theorem d_minus {P : Program} {w : World} {K : PySem.W.Frag} {mg : Str → Option Value} {base : Heap} {f : Addr} {cdv : Value} {A : Around} {outer : List Env} {s : Shared} {H : Hp} {E : XK} {sp_plus : DSp} (c_plus_2 : Can P w K mg base (A.deeper (envOfC "minus" (defScope s_minus) s.heap.objs.size f cdv)) "plus" [] sp_plus) :
    DSs (cxOf CX0 P w K mg base ["one", "other"] "minus" (defScope s_minus) f cdv A outer s H E).nox (defBody s_minus) (b_minus sp_plus) :=
    (dss_one (ds_ret (de_call c_plus_2 (by rfl) (da_cons (dv 0) (da_cons (de_tup (da_cons (de_un un_neg und_neg (de_ix (dv 1) de_int (fun _ _ => rfl))) (da_cons (de_ix (dv 1) de_int (fun _ _ => rfl)) da_nil))) da_nil)))))
/-! ### times(one, other): 0 one 1 other -/
abbrev s_times : Stmt := topS 9
theorem sc_times : FnScope ["one", "other"] ["one", "other"] (defScope s_times) := ⟨rfl, rfl, rfl, by decide +kernel, rfl, by decide +kernel, by decide +kernel⟩
def b_times (sp_fraction_of : DSp) : DTS :=
    (dSeq (dIf (dAnd (dTest (dOp pEq (dOp pIx (dVar 0) (dC (.int 1))) (dC (.int 1)))) (dTest (dOp pEq (dOp pIx (dVar 1) (dC (.int 1))) (dC (.int 1))))) (dRet (dTup (dCons (dOp pMul (dOp pIx (dVar 0) (dC (.int 0))) (dOp pIx (dVar 1) (dC (.int 0)))) (dCons (dC (.int 1)) dNil)))) dNext)
    (dRet (dCall sp_fraction_of [] (dCons (dOp pMul (dOp pIx (dVar 0) (dC (.int 0))) (dOp pIx (dVar 1) (dC (.int 0)))) (dCons (dOp pMul (dOp pIx (dVar 0) (dC (.int 1))) (dOp pIx (dVar 1) (dC (.int 1)))) dNil)))))
theorem d_times {P : Program} {w : World} {K : PySem.W.Frag} {mg : Str → Option Value} {base : Heap} {f : Addr} {cdv : Value} {A : Around} {outer : List Env} {s : Shared} {H : Hp} {E : XK} {sp_fraction_of : DSp} (c_fraction_of_2 : Can P w K mg base (A.deeper (envOfC "times" (defScope s_times) s.heap.objs.size f cdv)) "fraction_of" [] sp_fraction_of) (hu : (A.deeper (envOfC "times" (defScope s_times) s.heap.objs.size f cdv)).units + 64 < cLine) :
    DSs (cxOf CX0 P w K mg base ["one", "other"] "times" (defScope s_times) f cdv A outer s H E).nox (defBody s_times) (b_times sp_fraction_of) :=
    (dss_cons (ds_if (DW.dt (dw_and (dt_cmp (op_eqAll hu) opd_eq (de_ix (dv 0) de_int (fun _ _ => rfl)) de_int (nomark _)) (dw_and1 (dt_cmp (op_eqAll hu) opd_eq (de_ix (dv 1) de_int (fun _ _ => rfl)) de_int (nomark _))))) (dss_one (ds_ret (de_tup (da_cons (de_op op_mulAll opd_mul (de_ix (dv 0) de_int (fun _ _ => rfl)) (de_ix (dv 1) de_int (fun _ _ => rfl))) (da_cons de_int da_nil))))) dss_nil)
    (dss_one (ds_ret (de_call c_fraction_of_2 (by rfl) (da_cons (de_op op_mulAll opd_mul (de_ix (dv 0) de_int (fun _ _ => rfl)) (de_ix (dv 1) de_int (fun _ _ => rfl))) (da_cons (de_op op_mulAll opd_mul (de_ix (dv 0) de_int (fun _ _ => rfl)) (de_ix (dv 1) de_int (fun _ _ => rfl))) da_nil))))))
/-! ### over(one, other): 0 one 1 other -/
abbrev s_over : Stmt := topS 10
theorem sc_over : FnScope ["one", "other"] ["one", "other"] (defScope s_over) := ⟨rfl, rfl, rfl, by decide +kernel, rfl, by decide +kernel, by decide +kernel⟩
def b_over (sp_fraction_of : DSp) : DTS :=
    (dRet (dCall sp_fraction_of [] (dCons (dOp pMul (dOp pIx (dVar 0) (dC (.int 0))) (dOp pIx (dVar 1) (dC (.int 1)))) (dCons (dOp pMul (dOp pIx (dVar 0) (dC (.int 1))) (dOp pIx (dVar 1) (dC (.int 0)))) dNil))))
theorem d_over {P : Program} {w : World} {K : PySem.W.Frag} {mg : Str → Option Value} {base : Heap} {f : Addr} {cdv : Value} {A : Around} {outer : List Env} {s : Shared} {H : Hp} {E : XK} {sp_fraction_of : DSp} (c_fraction_of_2 : Can P w K mg base (A.deeper (envOfC "over" (defScope s_over) s.heap.objs.size f cdv)) "fraction_of" [] sp_fraction_of) :
    DSs (cxOf CX0 P w K mg base ["one", "other"] "over" (defScope s_over) f cdv A outer s H E).nox (defBody s_over) (b_over sp_fraction_of) :=
    (dss_one (ds_ret (de_call c_fraction_of_2 (by rfl) (da_cons (de_op op_mulAll opd_mul (de_ix (dv 0) de_int (fun _ _ => rfl)) (de_ix (dv 1) de_int (fun _ _ => rfl))) (da_cons (de_op op_mulAll opd_mul (de_ix (dv 0) de_int (fun _ _ => rfl)) (de_ix (dv 1) de_int (fun _ _ => rfl))) da_nil)))))
/-! ### power_of(fraction, many): 0 fraction 1 many 2 found 3 turn -/
abbrev s_power_of : Stmt := topS 11
theorem sc_power_of : FnScope ["fraction", "many", "found", "turn"] ["fraction", "many"] (defScope s_power_of) := ⟨rfl, rfl, rfl, by decide +kernel, rfl, by decide +kernel, by decide +kernel⟩
def b_power_of (sp_times : DSp) : DTS :=
    (dSeq (dAsg (dC (.tup [(.int 1), (.int 1)])) (gN 2))
    (dSeq (dFor (iRng (dCons (dVar 1) dNil)) (gN 3) (dAsg (dCall sp_times [] (dCons (dVar 2) (dCons (dVar 0) dNil))) (gN 2)))
    (dRet (dVar 2))))
theorem d_power_of {P : Program} {w : World} {K : PySem.W.Frag} {mg : Str → Option Value} {base : Heap} {f : Addr} {cdv : Value} {A : Around} {outer : List Env} {s : Shared} {H : Hp} {E : XK} {sp_times : DSp} (c_times_2 : Can P w K mg base (A.deeper (envOfC "power_of" (defScope s_power_of) s.heap.objs.size f cdv)) "times" [] sp_times) (g_ONE : GC K mg "ONE" (.tup [(.int 1), (.int 1)])) (n_range : mg "range" = none) :
    DSs (cxOf CX0 P w K mg base ["fraction", "many", "found", "turn"] "power_of" (defScope s_power_of) f cdv A outer s H E).nox (defBody s_power_of) (b_power_of sp_times) :=
    (dss_cons (ds_set (i := 2) sc_power_of.nd rfl (by first | exact Or.inl rfl | exact Or.inr rfl) (de_glob (by rfl) g_ONE))
    (dss_cons (ds_for PassesOwn.never rfl (di_range1 (by rfl) n_range (dv 1)) (dg_name (i := 3) sc_power_of.nd rfl (by first | exact Or.inl rfl | exact Or.inr rfl)) (dss_one (ds_set (i := 2) sc_power_of.nd rfl (by first | exact Or.inl rfl | exact Or.inr rfl) (de_call c_times_2 (by rfl) (da_cons (dv 2) (da_cons (dv 0) da_nil))))))
    (dss_one (ds_ret (dv 2)))))
/-! ### is_below(one, other): 0 one 1 other -/
abbrev s_is_below : Stmt := topS 12
theorem sc_is_below : FnScope ["one", "other"] ["one", "other"] (defScope s_is_below) := ⟨rfl, rfl, rfl, by decide +kernel, rfl, by decide +kernel, by decide +kernel⟩
def b_is_below : DTS :=
    (dRet (dOp pLt (dOp pMul (dOp pIx (dVar 0) (dC (.int 0))) (dOp pIx (dVar 1) (dC (.int 1)))) (dOp pMul (dOp pIx (dVar 1) (dC (.int 0))) (dOp pIx (dVar 0) (dC (.int 1))))))
theorem d_is_below {P : Program} {w : World} {K : PySem.W.Frag} {mg : Str → Option Value} {base : Heap} {f : Addr} {cdv : Value} {A : Around} {outer : List Env} {s : Shared} {H : Hp} {E : XK} :
    DSs (cxOf CX0 P w K mg base ["one", "other"] "is_below" (defScope s_is_below) f cdv A outer s H E).nox (defBody s_is_below) (b_is_below) :=
    (dss_one (ds_ret (de_cmp op_lt opd_lt (de_op op_mulAll opd_mul (de_ix (dv 0) de_int (fun _ _ => rfl)) (de_ix (dv 1) de_int (fun _ _ => rfl))) (de_op op_mulAll opd_mul (de_ix (dv 1) de_int (fun _ _ => rfl)) (de_ix (dv 0) de_int (fun _ _ => rfl))) (nomark _))))
/-! ### binomial(top, many): 0 top 1 many 2 found 3 at -/
abbrev s_binomial : Stmt := topS 13
theorem sc_binomial : FnScope ["top", "many", "found", "at"] ["top", "many"] (defScope s_binomial) := ⟨rfl, rfl, rfl, by decide +kernel, rfl, by decide +kernel, by decide +kernel⟩
def b_binomial : DTS :=
    (dSeq (dAsg (dC (.int 1)) (gN 2))
    (dSeq (dFor (iRng (dCons (dVar 1) dNil)) (gN 3) (dAsg (dOp pFdiv (dOp pMul (dVar 2) (dOp pSub (dVar 0) (dVar 3))) (dOp pAdd (dVar 3) (dC (.int 1)))) (gN 2)))
    (dRet (dVar 2))))
theorem d_binomial {P : Program} {w : World} {K : PySem.W.Frag} {mg : Str → Option Value} {base : Heap} {f : Addr} {cdv : Value} {A : Around} {outer : List Env} {s : Shared} {H : Hp} {E : XK} (n_range : mg "range" = none) :
    DSs (cxOf CX0 P w K mg base ["top", "many", "found", "at"] "binomial" (defScope s_binomial) f cdv A outer s H E).nox (defBody s_binomial) (b_binomial) :=
    (dss_cons (ds_set (i := 2) sc_binomial.nd rfl (by first | exact Or.inl rfl | exact Or.inr rfl) de_int)
    (dss_cons (ds_for PassesOwn.never rfl (di_range1 (by rfl) n_range (dv 1)) (dg_name (i := 3) sc_binomial.nd rfl (by first | exact Or.inl rfl | exact Or.inr rfl)) (dss_one (ds_set (i := 2) sc_binomial.nd rfl (by first | exact Or.inl rfl | exact Or.inr rfl) (de_op op_fdivV opd_fdiv (de_op op_mulAll opd_mul (dv 2) (de_op op_sub opd_sub (dv 0) (dv 3))) (de_op op_addAll opd_add (dv 3) de_int)))))
    (dss_one (ds_ret (dv 2)))))
/-! ### binomial_at(top, many): 0 top 1 many 2 found 3 at -/
abbrev s_binomial_at : Stmt := topS 14
theorem sc_binomial_at : FnScope ["top", "many", "found", "at"] ["top", "many"] (defScope s_binomial_at) := ⟨rfl, rfl, rfl, by decide +kernel, rfl, by decide +kernel, by decide +kernel⟩
def b_binomial_at (sp_times : DSp) (sp_over : DSp) (sp_minus : DSp) : DTS :=
    (dSeq (dAsg (dC (.tup [(.int 1), (.int 1)])) (gN 2))
    (dSeq (dFor (iRng (dCons (dVar 1) dNil)) (gN 3) (dAsg (dCall sp_times [] (dCons (dVar 2) (dCons (dCall sp_over [] (dCons (dCall sp_minus [] (dCons (dVar 0) (dCons (dTup (dCons (dVar 3) (dCons (dC (.int 1)) dNil))) dNil))) (dCons (dTup (dCons (dOp pAdd (dVar 3) (dC (.int 1))) (dCons (dC (.int 1)) dNil))) dNil))) dNil))) (gN 2)))
    (dRet (dVar 2))))
theorem d_binomial_at {P : Program} {w : World} {K : PySem.W.Frag} {mg : Str → Option Value} {base : Heap} {f : Addr} {cdv : Value} {A : Around} {outer : List Env} {s : Shared} {H : Hp} {E : XK} {sp_times : DSp} {sp_over : DSp} {sp_minus : DSp} (c_times_2 : Can P w K mg base (A.deeper (envOfC "binomial_at" (defScope s_binomial_at) s.heap.objs.size f cdv)) "times" [] sp_times) (c_over_2 : Can P w K mg base (A.deeper (envOfC "binomial_at" (defScope s_binomial_at) s.heap.objs.size f cdv)) "over" [] sp_over) (c_minus_2 : Can P w K mg base (A.deeper (envOfC "binomial_at" (defScope s_binomial_at) s.heap.objs.size f cdv)) "minus" [] sp_minus) (g_ONE : GC K mg "ONE" (.tup [(.int 1), (.int 1)])) (n_range : mg "range" = none) :
    DSs (cxOf CX0 P w K mg base ["top", "many", "found", "at"] "binomial_at" (defScope s_binomial_at) f cdv A outer s H E).nox (defBody s_binomial_at) (b_binomial_at sp_times sp_over sp_minus) :=
    (dss_cons (ds_set (i := 2) sc_binomial_at.nd rfl (by first | exact Or.inl rfl | exact Or.inr rfl) (de_glob (by rfl) g_ONE))
    (dss_cons (ds_for PassesOwn.never rfl (di_range1 (by rfl) n_range (dv 1)) (dg_name (i := 3) sc_binomial_at.nd rfl (by first | exact Or.inl rfl | exact Or.inr rfl)) (dss_one (ds_set (i := 2) sc_binomial_at.nd rfl (by first | exact Or.inl rfl | exact Or.inr rfl) (de_call c_times_2 (by rfl) (da_cons (dv 2) (da_cons (de_call c_over_2 (by rfl) (da_cons (de_call c_minus_2 (by rfl) (da_cons (dv 0) (da_cons (de_tup (da_cons (dv 3) (da_cons de_int da_nil))) da_nil))) (da_cons (de_tup (da_cons (de_op op_addAll opd_add (dv 3) de_int) (da_cons de_int da_nil))) da_nil))) da_nil))))))
    (dss_one (ds_ret (dv 2)))))
/-! ### _law_well(script, k): 0 script 1 k 2 cell -/
abbrev s__law_well : Stmt := topS 16
theorem sc__law_well : FnScope ["script", "k", "cell"] ["script", "k"] (defScope s__law_well) := ⟨rfl, rfl, rfl, by decide +kernel, rfl, by decide +kernel, by decide +kernel⟩
def b__law_well : DTS :=
    (dSeq (dAsg (dOp pAdd (dOp pMul (dC (.int 6121)) (dVar 1)) (dC (.int 811))) (gN 2))
    (dSeq (dIf (dTest (dOp pLt (dVar 1) (dCB pLen (dCons (dVar 0) dNil)))) (dAsg (dOp pMod (dCB pInt (dCons (dCB pAbs (dCons (dOp pIx (dVar 0) (dVar 1)) dNil)) dNil)) (dOp pPow (dC (.int 10)) (dC (.int 60)))) (gN 2)) (dIf (dTest (dOp pGt (dCB pLen (dCons (dVar 0) dNil)) (dC (.int 0)))) (dAsg (dOp pAdd (dVar 2) (dOp pMul (dOp pMod (dCB pInt (dCons (dCB pAbs (dCons (dOp pIx (dVar 0) (dOp pMod (dCB pInt (dCons (dVar 1) dNil)) (dCB pLen (dCons (dVar 0) dNil)))) dNil)) dNil)) (dC (.int 2147483563))) (dC (.int 60029)))) (gN 2)) dNext))
    (dRet (dLst (dCons (dOp pIx (dLst (dCons (dC (.int 0)) (dCons (dVar 2) dNil))) (dCB pInt (dCons (dOp pGe (dVar 2) (dOp pPow (dC (.int 10)) (dC (.int 18)))) dNil))) (dCons (dOp pAdd (dOp pMod (dCB pInt (dCons (dOp pAdd (dOp pMul (dOp pMod (dCB pInt (dCons (dVar 2) dNil)) (dC (.int 2147483563))) (dC (.int 45007))) (dOp pMul (dC (.int 42013)) (dVar 1))) dNil)) (dC (.int 2147483563))) (dC (.int 1))) (dCons (dC (.int 0)) dNil)))))))
theorem d__law_well {P : Program} {w : World} {K : PySem.W.Frag} {mg : Str → Option Value} {base : Heap} {f : Addr} {cdv : Value} {A : Around} {outer : List Env} {s : Shared} {H : Hp} {E : XK} (n_len : mg "len" = none) (n_int : mg "int" = none) (n_abs : mg "abs" = none) :
    DSs (cxOf CX0 P w K mg base ["script", "k", "cell"] "_law_well" (defScope s__law_well) f cdv A outer s H E).nox (defBody s__law_well) (b__law_well) :=
    (dss_cons (ds_set (i := 2) sc__law_well.nd rfl (by first | exact Or.inl rfl | exact Or.inr rfl) (de_op op_addAll opd_add (de_op op_mulAll opd_mul de_int (dv 1)) de_int))
    (dss_cons (ds_if (dt_cmp op_lt opd_lt (dv 1) (de_callB cr_len cd_len (by rfl) n_len (by decide +kernel) (da_cons (dv 0) da_nil)) (nomark _)) (dss_one (ds_set (i := 2) sc__law_well.nd rfl (by first | exact Or.inl rfl | exact Or.inr rfl) (de_op op_modN opd_mod (de_callTy call_int1 cd_int (by rfl) n_int (by decide +kernel) (da_cons (de_callB call_abs cd_abs (by rfl) n_abs (by decide +kernel) (da_cons (de_ix (dv 0) (dv 1) (fun _ _ => rfl)) da_nil)) da_nil)) (de_op op_pow opd_pow de_int de_int)))) (dss_one (ds_if (dt_cmp op_gt opd_gt (de_callB cr_len cd_len (by rfl) n_len (by decide +kernel) (da_cons (dv 0) da_nil)) de_int (nomark _)) (dss_one (ds_set (i := 2) sc__law_well.nd rfl (by first | exact Or.inl rfl | exact Or.inr rfl) (de_op op_addAll opd_add (dv 2) (de_op op_mulAll opd_mul (de_op op_modN opd_mod (de_callTy call_int1 cd_int (by rfl) n_int (by decide +kernel) (da_cons (de_callB call_abs cd_abs (by rfl) n_abs (by decide +kernel) (da_cons (de_ix (dv 0) (de_op op_modN opd_mod (de_callTy call_int1 cd_int (by rfl) n_int (by decide +kernel) (da_cons (dv 1) da_nil)) (de_callB cr_len cd_len (by rfl) n_len (by decide +kernel) (da_cons (dv 0) da_nil))) (fun _ _ => rfl)) da_nil)) da_nil)) de_int) de_int)))) dss_nil)))
    (dss_one (ds_ret (de_lst (da_cons (de_ix (de_lst (da_cons de_int (da_cons (dv 2) da_nil))) (de_callTy call_int1 cd_int (by rfl) n_int (by decide +kernel) (da_cons (de_cmp op_ge opd_ge (dv 2) (de_op op_pow opd_pow de_int de_int) (nomark _)) da_nil)) (fun _ _ => rfl)) (da_cons (de_op op_addAll opd_add (de_op op_modN opd_mod (de_callTy call_int1 cd_int (by rfl) n_int (by decide +kernel) (da_cons (de_op op_addAll opd_add (de_op op_mulAll opd_mul (de_op op_modN opd_mod (de_callTy call_int1 cd_int (by rfl) n_int (by decide +kernel) (da_cons (dv 2) da_nil)) de_int) de_int) (de_op op_mulAll opd_mul de_int (dv 1))) da_nil)) de_int) de_int) (da_cons de_int da_nil))))))))
/-! ### _law_dip(well, many): 0 well 1 many 2 digit 3 raw -/
abbrev s__law_dip : Stmt := topS 17
theorem sc__law_dip : FnScope ["well", "many", "digit", "raw"] ["well", "many"] (defScope s__law_dip) := ⟨rfl, rfl, rfl, by decide +kernel, rfl, by decide +kernel, by decide +kernel⟩
def b__law_dip : DTS :=
    (dSeq (dIf (dTest (dOp pGt (dOp pIx (dVar 0) (dC (.int 0))) (dC (.int 0)))) (dSeq (dAsg (dOp pMod (dCB pInt (dCons (dOp pIx (dVar 0) (dC (.int 0))) dNil)) (dVar 1)) (gN 2))
    (dSeq (dAsg (dOp pFdiv (dOp pIx (dVar 0) (dC (.int 0))) (dVar 1)) (gSubL (dVar 0) (dC (.int 0))))
    (dRet (dVar 2)))) dNext)
    (dSeq (dAsg (dOp pAdd (dOp pIx (dVar 0) (dC (.int 2))) (dC (.int 1))) (gSubL (dVar 0) (dC (.int 2))))
    (dSeq (dAsg (dOp pMod (dCB pInt (dCons (dOp pAdd (dOp pMul (dOp pAdd (dOp pIx (dVar 0) (dC (.int 1))) (dOp pMul (dC (.int 88001)) (dOp pIx (dVar 0) (dC (.int 2))))) (dC (.int 57037))) (dC (.int 61))) dNil)) (dC (.int 2147483549))) (gN 3))
    (dSeq (dAsg (dOp pAdd (dOp pMod (dCB pInt (dCons (dOp pAdd (dOp pMul (dVar 3) (dC (.int 41141))) (dC (.int 21013))) dNil)) (dC (.int 2147483563))) (dC (.int 1))) (gSubL (dVar 0) (dC (.int 1))))
    (dRet (dOp pMod (dCB pInt (dCons (dOp pFdiv (dOp pAdd (dOp pMul (dVar 3) (dC (.int 2147483587))) (dOp pIx (dVar 0) (dC (.int 1)))) (dC (.int 8209))) dNil)) (dVar 1)))))))
theorem d__law_dip {P : Program} {w : World} {K : PySem.W.Frag} {mg : Str → Option Value} {base : Heap} {f : Addr} {cdv : Value} {A : Around} {outer : List Env} {s : Shared} {H : Hp} {E : XK} (n_int : mg "int" = none) :
    DSs (cxOf CX0 P w K mg base ["well", "many", "digit", "raw"] "_law_dip" (defScope s__law_dip) f cdv A outer s H E).nox (defBody s__law_dip) (b__law_dip) :=
    (dss_cons (ds_if (dt_cmp op_gt opd_gt (de_ix (dv 0) de_int (fun _ _ => rfl)) de_int (nomark _)) (dss_cons (ds_set (i := 2) sc__law_dip.nd rfl (by first | exact Or.inl rfl | exact Or.inr rfl) (de_op op_modN opd_mod (de_callTy call_int1 cd_int (by rfl) n_int (by decide +kernel) (da_cons (de_ix (dv 0) de_int (fun _ _ => rfl)) da_nil)) (dv 1)))
    (dss_cons (ds_asg (de_op op_fdivV opd_fdiv (de_ix (dv 0) de_int (fun _ _ => rfl)) (dv 1)) (dg_subL (dv 0) de_int))
    (dss_one (ds_ret (dv 2))))) dss_nil)
    (dss_cons (ds_asg (de_op op_addAll opd_add (de_ix (dv 0) de_int (fun _ _ => rfl)) de_int) (dg_subL (dv 0) de_int))
    (dss_cons (ds_set (i := 3) sc__law_dip.nd rfl (by first | exact Or.inl rfl | exact Or.inr rfl) (de_op op_modN opd_mod (de_callTy call_int1 cd_int (by rfl) n_int (by decide +kernel) (da_cons (de_op op_addAll opd_add (de_op op_mulAll opd_mul (de_op op_addAll opd_add (de_ix (dv 0) de_int (fun _ _ => rfl)) (de_op op_mulAll opd_mul de_int (de_ix (dv 0) de_int (fun _ _ => rfl)))) de_int) de_int) da_nil)) de_int))
    (dss_cons (ds_asg (de_op op_addAll opd_add (de_op op_modN opd_mod (de_callTy call_int1 cd_int (by rfl) n_int (by decide +kernel) (da_cons (de_op op_addAll opd_add (de_op op_mulAll opd_mul (dv 3) de_int) de_int) da_nil)) de_int) de_int) (dg_subL (dv 0) de_int))
    (dss_one (ds_ret (de_op op_modN opd_mod (de_callTy call_int1 cd_int (by rfl) n_int (by decide +kernel) (da_cons (de_op op_fdivV opd_fdiv (de_op op_addAll opd_add (de_op op_mulAll opd_mul (dv 3) de_int) (de_ix (dv 0) de_int (fun _ _ => rfl))) de_int) da_nil)) (dv 1))))))))
/-! ### _law_one(well, some): 0 well 1 some -/
abbrev s__law_one : Stmt := topS 18
theorem sc__law_one : FnScope ["well", "some"] ["well", "some"] (defScope s__law_one) := ⟨rfl, rfl, rfl, by decide +kernel, rfl, by decide +kernel, by decide +kernel⟩
def b__law_one (sp__law_dip : DSp) : DTS :=
    (dRet (dOp pIx (dVar 1) (dCall sp__law_dip [] (dCons (dVar 0) (dCons (dCB pLen (dCons (dVar 1) dNil)) dNil)))))
theorem d__law_one {P : Program} {w : World} {K : PySem.W.Frag} {mg : Str → Option Value} {base : Heap} {f : Addr} {cdv : Value} {A : Around} {outer : List Env} {s : Shared} {H : Hp} {E : XK} {sp__law_dip : DSp} (c__law_dip_2 : Can P w K mg base (A.deeper (envOfC "_law_one" (defScope s__law_one) s.heap.objs.size f cdv)) "_law_dip" [] sp__law_dip) (n_len : mg "len" = none) :
    DSs (cxOf CX0 P w K mg base ["well", "some"] "_law_one" (defScope s__law_one) f cdv A outer s H E).nox (defBody s__law_one) (b__law_one sp__law_dip) :=
    (dss_one (ds_ret (de_ix (dv 1) (de_call c__law_dip_2 (by rfl) (da_cons (dv 0) (da_cons (de_callB cr_len cd_len (by rfl) n_len (by decide +kernel) (da_cons (dv 1) da_nil)) da_nil))) (fun _ _ => rfl))))
/-! ### _law_like(told, due): 0 told 1 due 2 at -/
abbrev s__law_like : Stmt := topS 19
theorem sc__law_like : FnScope ["told", "due", "at"] ["told", "due"] (defScope s__law_like) := ⟨rfl, rfl, rfl, by decide +kernel, rfl, by decide +kernel, by decide +kernel⟩
def b__law_like (sp__law_like : DSp) : DTS :=
    (dSeq (dIf (dTest (dCB pIsi (dCons (dVar 1) (dCons (dC (.ty "tuple")) dNil)))) (dRet (dAndV (dCB pIsi (dCons (dVar 0) (dCons (dC (.ty "tuple")) dNil))) (dAndV (dOp pEq (dCB pLen (dCons (dVar 0) dNil)) (dCB pLen (dCons (dVar 1) dNil))) (dPure (dCB pAll (dCons (dLc (iRng (dCons (dCB pLen (dCons (dVar 1) dNil)) dNil)) (gN 2) dYes (dCall sp__law_like [] (dCons (dOp pIx (dVar 0) (dVar 2)) (dCons (dOp pIx (dVar 1) (dVar 2)) dNil))) [2]) dNil)))))) dNext)
    (dSeq (dIf (dTest (dOp pIs (dVar 1) (dC .non))) (dRet (dOp pIs (dVar 0) (dC .non))) dNext)
    (dSeq (dIf (dTest (dCB pIsi (dCons (dVar 1) (dCons (dC (.ty "bool")) dNil)))) (dRet (dAndV (dCB pIsi (dCons (dVar 0) (dCons (dC (.ty "bool")) dNil))) (dOp pEq (dVar 0) (dVar 1)))) dNext)
    (dSeq (dIf (dTest (dCB pIsi (dCons (dVar 1) (dCons (dC (.ty "str")) dNil)))) (dRet (dAndV (dCB pIsi (dCons (dVar 0) (dCons (dC (.ty "str")) dNil))) (dOp pEq (dVar 0) (dVar 1)))) dNext)
    (dRet (dAndV (dCB pIsi (dCons (dVar 0) (dCons (dC (.ty "int")) dNil))) (dAndV (dNotV (dCB pIsi (dCons (dVar 0) (dCons (dC (.ty "bool")) dNil)))) (dOp pEq (dVar 0) (dVar 1)))))))))
theorem d__law_like {P : Program} {w : World} {K : PySem.W.Frag} {mg : Str → Option Value} {base : Heap} {f : Addr} {cdv : Value} {A : Around} {outer : List Env} {s : Shared} {H : Hp} {E : XK} {sp__law_like : DSp} (c__law_like_2 : Can P w K mg base (A.deeper (envOfC "_law_like" (defScope s__law_like) s.heap.objs.size f cdv)) "_law_like" [] sp__law_like) (n_isinstance : mg "isinstance" = none) (n_tuple : mg "tuple" = none) (n_len : mg "len" = none) (n_all : mg "all" = none) (n_range : mg "range" = none) (n_bool : mg "bool" = none) (n_str : mg "str" = none) (n_int : mg "int" = none) (hu : (A.deeper (envOfC "_law_like" (defScope s__law_like) s.heap.objs.size f cdv)).units + 64 < cLine) :
    DSs (cxOf CX0 P w K mg base ["told", "due", "at"] "_law_like" (defScope s__law_like) f cdv A outer s H E).nox (defBody s__law_like) (b__law_like sp__law_like) :=
    (dss_cons (ds_if (dt_val (de_callB cr_isi cd_isi (by rfl) n_isinstance (by decide +kernel) (da_cons (dv 1) (da_cons (de_bltn (n := "tuple") (by rfl) n_tuple (by decide +kernel)) da_nil)))) (dss_one (ds_ret (de_and (de_callB cr_isi cd_isi (by rfl) n_isinstance (by decide +kernel) (da_cons (dv 0) (da_cons (de_bltn (n := "tuple") (by rfl) n_tuple (by decide +kernel)) da_nil))) (de_and (de_cmp (op_eqAll hu) opd_eq (de_callB cr_len cd_len (by rfl) n_len (by decide +kernel) (da_cons (dv 0) da_nil)) (de_callB cr_len cd_len (by rfl) n_len (by decide +kernel) (da_cons (dv 1) da_nil)) (nomark _)) (de_one (de_pure (de_callB (cr_all rfl) cd_all (by rfl) n_all (by decide +kernel) (da_cons (de_lc rfl sc__law_like.nd (di_range1 (by rfl) n_range (de_callB cr_len cd_len (by rfl) n_len (by decide +kernel) (da_cons (dv 1) da_nil))) (own := [("at", 2)]) (by exact blkOk_by (N := ["told", "due", "at"]) (sc := defScope s__law_like) (by first | decide +kernel | rfl)) (fun _ _ _ _ _ => (dgc_name (i := 2) (by decide) sc__law_like.nd rfl (by first | exact Or.inl rfl | exact Or.inr rfl))) (fun _ _ _ _ _ => dts_nil) (fun _ _ _ _ _ => (de_call c__law_like_2 (by rfl) (da_cons (de_ix (dv 0) (dv 2) (fun _ _ => rfl)) (da_cons (de_ix (dv 1) (dv 2) (fun _ _ => rfl)) da_nil))))) da_nil)))))))) dss_nil)
    (dss_cons (ds_if (dt_cmp op_isAll opd_is (dv 1) de_non (nomark _)) (dss_one (ds_ret (de_cmp op_isAll opd_is (dv 0) de_non (nomark _)))) dss_nil)
    (dss_cons (ds_if (dt_val (de_callB cr_isi cd_isi (by rfl) n_isinstance (by decide +kernel) (da_cons (dv 1) (da_cons (de_bltn (n := "bool") (by rfl) n_bool (by decide +kernel)) da_nil)))) (dss_one (ds_ret (de_and (de_callB cr_isi cd_isi (by rfl) n_isinstance (by decide +kernel) (da_cons (dv 0) (da_cons (de_bltn (n := "bool") (by rfl) n_bool (by decide +kernel)) da_nil))) (de_one (de_cmp (op_eqAll hu) opd_eq (dv 0) (dv 1) (nomark _)))))) dss_nil)
    (dss_cons (ds_if (dt_val (de_callB cr_isi cd_isi (by rfl) n_isinstance (by decide +kernel) (da_cons (dv 1) (da_cons (de_bltn (n := "str") (by rfl) n_str (by decide +kernel)) da_nil)))) (dss_one (ds_ret (de_and (de_callB cr_isi cd_isi (by rfl) n_isinstance (by decide +kernel) (da_cons (dv 0) (da_cons (de_bltn (n := "str") (by rfl) n_str (by decide +kernel)) da_nil))) (de_one (de_cmp (op_eqAll hu) opd_eq (dv 0) (dv 1) (nomark _)))))) dss_nil)
    (dss_one (ds_ret (de_and (de_callB cr_isi cd_isi (by rfl) n_isinstance (by decide +kernel) (da_cons (dv 0) (da_cons (de_bltn (n := "int") (by rfl) n_int (by decide +kernel)) da_nil))) (de_and (de_not (de_callB cr_isi cd_isi (by rfl) n_isinstance (by decide +kernel) (da_cons (dv 0) (da_cons (de_bltn (n := "bool") (by rfl) n_bool (by decide +kernel)) da_nil)))) (de_one (de_cmp (op_eqAll hu) opd_eq (dv 0) (dv 1) (nomark _)))))))))))
/-! ### _law_is(told, due): 0 told 1 due -/
abbrev s__law_is : Stmt := topS 20
theorem sc__law_is : FnScope ["told", "due"] ["told", "due"] (defScope s__law_is) := ⟨rfl, rfl, rfl, by decide +kernel, rfl, by decide +kernel, by decide +kernel⟩
def b__law_is : DTS :=
    (dRet (dAndV (dCB pIsi (dCons (dVar 0) (dCons (dC (.ty "bool")) dNil))) (dOp pEq (dVar 0) (dVar 1))))
theorem d__law_is {P : Program} {w : World} {K : PySem.W.Frag} {mg : Str → Option Value} {base : Heap} {f : Addr} {cdv : Value} {A : Around} {outer : List Env} {s : Shared} {H : Hp} {E : XK} (n_isinstance : mg "isinstance" = none) (n_bool : mg "bool" = none) (hu : (A.deeper (envOfC "_law_is" (defScope s__law_is) s.heap.objs.size f cdv)).units + 64 < cLine) :
    DSs (cxOf CX0 P w K mg base ["told", "due"] "_law_is" (defScope s__law_is) f cdv A outer s H E).nox (defBody s__law_is) (b__law_is) :=
    (dss_one (ds_ret (de_and (de_callB cr_isi cd_isi (by rfl) n_isinstance (by decide +kernel) (da_cons (dv 0) (da_cons (de_bltn (n := "bool") (by rfl) n_bool (by decide +kernel)) da_nil))) (de_one (de_cmp (op_eqAll hu) opd_eq (dv 0) (dv 1) (nomark _))))))
/-! ### _law_gcd(one, other): 0 one 1 other -/
abbrev s__law_gcd : Stmt := topS 21
theorem sc__law_gcd : FnScope ["one", "other"] ["one", "other"] (defScope s__law_gcd) := ⟨rfl, rfl, rfl, by decide +kernel, rfl, by decide +kernel, by decide +kernel⟩
def b__law_gcd : DTS :=
    (dSeq (dPar 0 1 (dCons (dCB pAbs (dCons (dVar 0) dNil)) (dCons (dCB pAbs (dCons (dVar 1) dNil)) dNil)))
    (dSeq (dWhile (dTest (dOp pNe (dVar 1) (dC (.int 0)))) (dPar 0 1 (dCons (dVar 1) (dCons (dOp pMod (dCB pInt (dCons (dVar 0) dNil)) (dVar 1)) dNil))))
    (dRet (dVar 0))))
theorem d__law_gcd {P : Program} {w : World} {K : PySem.W.Frag} {mg : Str → Option Value} {base : Heap} {f : Addr} {cdv : Value} {A : Around} {outer : List Env} {s : Shared} {H : Hp} {E : XK} (n_abs : mg "abs" = none) (n_int : mg "int" = none) (hu : (A.deeper (envOfC "_law_gcd" (defScope s__law_gcd) s.heap.objs.size f cdv)).units + 64 < cLine) :
    DSs (cxOf CX0 P w K mg base ["one", "other"] "_law_gcd" (defScope s__law_gcd) f cdv A outer s H E).nox (defBody s__law_gcd) (b__law_gcd) :=
    (dss_cons (ds_par (i := 0) (j := 1) rfl sc__law_gcd.nd rfl rfl (by decide) rfl rfl (da_cons (de_callB call_abs cd_abs (by rfl) n_abs (by decide +kernel) (da_cons (dv 0) da_nil)) (da_cons (de_callB call_abs cd_abs (by rfl) n_abs (by decide +kernel) (da_cons (dv 1) da_nil)) da_nil)) (by rfl))
    (dss_cons (ds_while PassesOwn.never (dt_cmp (op_neAll hu) opd_ne (dv 1) de_int (nomark _)) (dss_one (ds_par (i := 0) (j := 1) rfl sc__law_gcd.nd rfl rfl (by decide) rfl rfl (da_cons (dv 1) (da_cons (de_op op_modN opd_mod (de_callTy call_int1 cd_int (by rfl) n_int (by decide +kernel) (da_cons (dv 0) da_nil)) (dv 1)) da_nil)) (by rfl))))
    (dss_one (ds_ret (dv 0)))))
/-! ### _law_low(top, bottom): 0 top 1 bottom 2 common -/
abbrev s__law_low : Stmt := topS 22
theorem sc__law_low : FnScope ["top", "bottom", "common"] ["top", "bottom"] (defScope s__law_low) := ⟨rfl, rfl, rfl, by decide +kernel, rfl, by decide +kernel, by decide +kernel⟩
def b__law_low (sp__law_gcd : DSp) : DTS :=
    (dSeq (dAsg (dCall sp__law_gcd [] (dCons (dVar 0) (dCons (dVar 1) dNil))) (gN 2))
    (dSeq (dAsg (dIfE (dTest (dOp pGt (dVar 1) (dC (.int 0)))) (dVar 2) (dOp pSub (dC (.int 0)) (dVar 2))) (gN 2))
    (dRet (dTup (dCons (dOp pFdiv (dVar 0) (dVar 2)) (dCons (dOp pFdiv (dVar 1) (dVar 2)) dNil))))))
theorem d__law_low {P : Program} {w : World} {K : PySem.W.Frag} {mg : Str → Option Value} {base : Heap} {f : Addr} {cdv : Value} {A : Around} {outer : List Env} {s : Shared} {H : Hp} {E : XK} {sp__law_gcd : DSp} (c__law_gcd_2 : Can P w K mg base (A.deeper (envOfC "_law_low" (defScope s__law_low) s.heap.objs.size f cdv)) "_law_gcd" [] sp__law_gcd) :
    DSs (cxOf CX0 P w K mg base ["top", "bottom", "common"] "_law_low" (defScope s__law_low) f cdv A outer s H E).nox (defBody s__law_low) (b__law_low sp__law_gcd) :=
    (dss_cons (ds_set (i := 2) sc__law_low.nd rfl (by first | exact Or.inl rfl | exact Or.inr rfl) (de_call c__law_gcd_2 (by rfl) (da_cons (dv 0) (da_cons (dv 1) da_nil))))
    (dss_cons (ds_set (i := 2) sc__law_low.nd rfl (by first | exact Or.inl rfl | exact Or.inr rfl) (de_ifExp (dt_cmp op_gt opd_gt (dv 1) de_int (nomark _)) (dv 2) (de_op op_sub opd_sub de_int (dv 2))))
    (dss_one (ds_ret (de_tup (da_cons (de_op op_fdivV opd_fdiv (dv 0) (dv 2)) (da_cons (de_op op_fdivV opd_fdiv (dv 1) (dv 2)) da_nil)))))))
/-! ### _law_plus(one, other): 0 one 1 other -/
abbrev s__law_plus : Stmt := topS 23
theorem sc__law_plus : FnScope ["one", "other"] ["one", "other"] (defScope s__law_plus) := ⟨rfl, rfl, rfl, by decide +kernel, rfl, by decide +kernel, by decide +kernel⟩
def b__law_plus (sp__law_low : DSp) : DTS :=
    (dRet (dCall sp__law_low [] (dCons (dOp pAdd (dOp pMul (dOp pIx (dVar 0) (dC (.int 0))) (dOp pIx (dVar 1) (dC (.int 1)))) (dOp pMul (dOp pIx (dVar 1) (dC (.int 0))) (dOp pIx (dVar 0) (dC (.int 1))))) (dCons (dOp pMul (dOp pIx (dVar 0) (dC (.int 1))) (dOp pIx (dVar 1) (dC (.int 1)))) dNil))))
theorem d__law_plus {P : Program} {w : World} {K : PySem.W.Frag} {mg : Str → Option Value} {base : Heap} {f : Addr} {cdv : Value} {A : Around} {outer : List Env} {s : Shared} {H : Hp} {E : XK} {sp__law_low : DSp} (c__law_low_2 : Can P w K mg base (A.deeper (envOfC "_law_plus" (defScope s__law_plus) s.heap.objs.size f cdv)) "_law_low" [] sp__law_low) :
    DSs (cxOf CX0 P w K mg base ["one", "other"] "_law_plus" (defScope s__law_plus) f cdv A outer s H E).nox (defBody s__law_plus) (b__law_plus sp__law_low) :=
    (dss_one (ds_ret (de_call c__law_low_2 (by rfl) (da_cons (de_op op_addAll opd_add (de_op op_mulAll opd_mul (de_ix (dv 0) de_int (fun _ _ => rfl)) (de_ix (dv 1) de_int (fun _ _ => rfl))) (de_op op_mulAll opd_mul (de_ix (dv 1) de_int (fun _ _ => rfl)) (de_ix (dv 0) de_int (fun _ _ => rfl)))) (da_cons (de_op op_mulAll opd_mul (de_ix (dv 0) de_int (fun _ _ => rfl)) (de_ix (dv 1) de_int (fun _ _ => rfl))) da_nil)))))
/-! ### _law_times(one, other): 0 one 1 other -/
abbrev s__law_times : Stmt := topS 24
theorem sc__law_times : FnScope ["one", "other"] ["one", "other"] (defScope s__law_times) := ⟨rfl, rfl, rfl, by decide +kernel, rfl, by decide +kernel, by decide +kernel⟩
def b__law_times (sp__law_low : DSp) : DTS :=
    (dRet (dCall sp__law_low [] (dCons (dOp pMul (dOp pIx (dVar 0) (dC (.int 0))) (dOp pIx (dVar 1) (dC (.int 0)))) (dCons (dOp pMul (dOp pIx (dVar 0) (dC (.int 1))) (dOp pIx (dVar 1) (dC (.int 1)))) dNil))))
theorem d__law_times {P : Program} {w : World} {K : PySem.W.Frag} {mg : Str → Option Value} {base : Heap} {f : Addr} {cdv : Value} {A : Around} {outer : List Env} {s : Shared} {H : Hp} {E : XK} {sp__law_low : DSp} (c__law_low_2 : Can P w K mg base (A.deeper (envOfC "_law_times" (defScope s__law_times) s.heap.objs.size f cdv)) "_law_low" [] sp__law_low) :
    DSs (cxOf CX0 P w K mg base ["one", "other"] "_law_times" (defScope s__law_times) f cdv A outer s H E).nox (defBody s__law_times) (b__law_times sp__law_low) :=
    (dss_one (ds_ret (de_call c__law_low_2 (by rfl) (da_cons (de_op op_mulAll opd_mul (de_ix (dv 0) de_int (fun _ _ => rfl)) (de_ix (dv 1) de_int (fun _ _ => rfl))) (da_cons (de_op op_mulAll opd_mul (de_ix (dv 0) de_int (fun _ _ => rfl)) (de_ix (dv 1) de_int (fun _ _ => rfl))) da_nil)))))
/-! ### _law_odd():  -/
abbrev s__law_odd : Stmt := topS 25
theorem sc__law_odd : FnScope [] [] (defScope s__law_odd) := ⟨rfl, rfl, rfl, by decide +kernel, rfl, by decide +kernel, by decide +kernel⟩
def b__law_odd : DTS :=
    (dRet (dLst (dCons (dC .non) (dCons (dC (.int 0)) (dCons (dC (.bl true)) (dCons (dC (.str "")) (dCons (dC (.str "line")) (dCons (dTup dNil) (dCons (dLst dNil) (dCons (dTup (dCons (dTup dNil) dNil)) (dCons dNewK (dCons (dTup (dCons (dC .non) dNil)) (dCons (dTup (dCons (dTup dNil) (dCons (dTup dNil) dNil))) (dCons (dTup (dCons (dC (.str "kept")) dNil)) (dCons (dOp pSub (dC (.int 0)) (dC (.int 1))) (dCons (dTup (dCons (dC (.int 1)) (dCons (dC (.int 2)) (dCons (dC (.int 3)) dNil)))) (dCons (dTup (dCons (dTup (dCons (dTup dNil) (dCons (dTup (dCons (dC (.int 0)) (dCons (dC (.int 1)) dNil))) dNil))) dNil)) (dCons (dTup (dCons (dTup (dCons (dC (.int 0)) dNil)) (dCons (dTup (dCons (dC (.int 1)) (dCons (dC (.int 1)) dNil))) dNil))) dNil))))))))))))))))))
theorem d__law_odd {P : Program} {w : World} {K : PySem.W.Frag} {mg : Str → Option Value} {base : Heap} {f : Addr} {cdv : Value} {A : Around} {outer : List Env} {s : Shared} {H : Hp} {E : XK} :
    DSs (cxOf CX0 P w K mg base [] "_law_odd" (defScope s__law_odd) f cdv A outer s H E).nox (defBody s__law_odd) (b__law_odd) :=
    (dss_one (ds_ret (de_lst (da_cons de_non (da_cons de_int (da_cons de_bl (da_cons de_str (da_cons de_str (da_cons (de_tup da_nil) (da_cons (de_lst da_nil) (da_cons (de_tup (da_cons (de_tup da_nil) da_nil)) (da_cons de_dnewK (da_cons (de_tup (da_cons de_non da_nil)) (da_cons (de_tup (da_cons (de_tup da_nil) (da_cons (de_tup da_nil) da_nil))) (da_cons (de_tup (da_cons de_str da_nil)) (da_cons (de_op op_sub opd_sub de_int de_int) (da_cons (de_tup (da_cons de_int (da_cons de_int (da_cons de_int da_nil)))) (da_cons (de_tup (da_cons (de_tup (da_cons (de_tup da_nil) (da_cons (de_tup (da_cons de_int (da_cons de_int da_nil))) da_nil))) da_nil)) (da_cons (de_tup (da_cons (de_tup (da_cons de_int da_nil)) (da_cons (de_tup (da_cons de_int (da_cons de_int da_nil))) da_nil))) da_nil)))))))))))))))))))
/-! ### _law_integer(well): 0 well 1 size -/
abbrev s__law_integer : Stmt := topS 26
theorem sc__law_integer : FnScope ["well", "size"] ["well"] (defScope s__law_integer) := ⟨rfl, rfl, rfl, by decide +kernel, rfl, by decide +kernel, by decide +kernel⟩
def b__law_integer (sp__law_one : DSp) (sp__law_dip : DSp) : DTS :=
    (dSeq (dAsg (dCall sp__law_one [] (dCons (dVar 0) (dCons (dLst (dCons (dC (.int 3)) (dCons (dC (.int 12)) (dCons (dC (.int 12)) (dCons (dC (.int 100)) (dCons (dOp pPow (dC (.int 10)) (dC (.int 9))) (dCons (dOp pPow (dC (.int 10)) (dC (.int 20))) dNil))))))) dNil))) (gN 1))
    (dRet (dOp pMul (dOp pAdd (dCall sp__law_dip [] (dCons (dVar 0) (dCons (dVar 1) dNil))) (dOp pMul (dCall sp__law_dip [] (dCons (dVar 0) (dCons (dVar 1) dNil))) (dCall sp__law_one [] (dCons (dVar 0) (dCons (dLst (dCons (dC (.int 0)) (dCons (dC (.int 0)) (dCons (dVar 1) dNil)))) dNil))))) (dCall sp__law_one [] (dCons (dVar 0) (dCons (dLst (dCons (dC (.int 1)) (dCons (dOp pSub (dC (.int 0)) (dC (.int 1))) dNil))) dNil))))))
theorem d__law_integer {P : Program} {w : World} {K : PySem.W.Frag} {mg : Str → Option Value} {base : Heap} {f : Addr} {cdv : Value} {A : Around} {outer : List Env} {s : Shared} {H : Hp} {E : XK} {sp__law_one : DSp} {sp__law_dip : DSp} (c__law_one_2 : Can P w K mg base (A.deeper (envOfC "_law_integer" (defScope s__law_integer) s.heap.objs.size f cdv)) "_law_one" [] sp__law_one) (c__law_dip_2 : Can P w K mg base (A.deeper (envOfC "_law_integer" (defScope s__law_integer) s.heap.objs.size f cdv)) "_law_dip" [] sp__law_dip) :
    DSs (cxOf CX0 P w K mg base ["well", "size"] "_law_integer" (defScope s__law_integer) f cdv A outer s H E).nox (defBody s__law_integer) (b__law_integer sp__law_one sp__law_dip) :=
    (dss_cons (ds_set (i := 1) sc__law_integer.nd rfl (by first | exact Or.inl rfl | exact Or.inr rfl) (de_call c__law_one_2 (by rfl) (da_cons (dv 0) (da_cons (de_lst (da_cons de_int (da_cons de_int (da_cons de_int (da_cons de_int (da_cons (de_op op_pow opd_pow de_int de_int) (da_cons (de_op op_pow opd_pow de_int de_int) da_nil))))))) da_nil))))
    (dss_one (ds_ret (de_op op_mulAll opd_mul (de_op op_addAll opd_add (de_call c__law_dip_2 (by rfl) (da_cons (dv 0) (da_cons (dv 1) da_nil))) (de_op op_mulAll opd_mul (de_call c__law_dip_2 (by rfl) (da_cons (dv 0) (da_cons (dv 1) da_nil))) (de_call c__law_one_2 (by rfl) (da_cons (dv 0) (da_cons (de_lst (da_cons de_int (da_cons de_int (da_cons (dv 1) da_nil)))) da_nil))))) (de_call c__law_one_2 (by rfl) (da_cons (dv 0) (da_cons (de_lst (da_cons de_int (da_cons (de_op op_sub opd_sub de_int de_int) da_nil))) da_nil)))))))
/-! ### _law_pair(well): 0 well 1 bottom -/
abbrev s__law_pair : Stmt := topS 27
theorem sc__law_pair : FnScope ["well", "bottom"] ["well"] (defScope s__law_pair) := ⟨rfl, rfl, rfl, by decide +kernel, rfl, by decide +kernel, by decide +kernel⟩
def b__law_pair (sp__law_integer : DSp) (sp__law_low : DSp) : DTS :=
    (dSeq (dAsg (dCall sp__law_integer [] (dCons (dVar 0) dNil)) (gN 1))
    (dRet (dCall sp__law_low [] (dCons (dCall sp__law_integer [] (dCons (dVar 0) dNil)) (dCons (dIfE (dTest (dOp pNe (dVar 1) (dC (.int 0)))) (dVar 1) (dC (.int 1))) dNil)))))
theorem d__law_pair {P : Program} {w : World} {K : PySem.W.Frag} {mg : Str → Option Value} {base : Heap} {f : Addr} {cdv : Value} {A : Around} {outer : List Env} {s : Shared} {H : Hp} {E : XK} {sp__law_integer : DSp} {sp__law_low : DSp} (c__law_integer_1 : Can P w K mg base (A.deeper (envOfC "_law_pair" (defScope s__law_pair) s.heap.objs.size f cdv)) "_law_integer" [] sp__law_integer) (c__law_low_2 : Can P w K mg base (A.deeper (envOfC "_law_pair" (defScope s__law_pair) s.heap.objs.size f cdv)) "_law_low" [] sp__law_low) (hu : (A.deeper (envOfC "_law_pair" (defScope s__law_pair) s.heap.objs.size f cdv)).units + 64 < cLine) :
    DSs (cxOf CX0 P w K mg base ["well", "bottom"] "_law_pair" (defScope s__law_pair) f cdv A outer s H E).nox (defBody s__law_pair) (b__law_pair sp__law_integer sp__law_low) :=
    (dss_cons (ds_set (i := 1) sc__law_pair.nd rfl (by first | exact Or.inl rfl | exact Or.inr rfl) (de_call c__law_integer_1 (by rfl) (da_cons (dv 0) da_nil)))
    (dss_one (ds_ret (de_call c__law_low_2 (by rfl) (da_cons (de_call c__law_integer_1 (by rfl) (da_cons (dv 0) da_nil)) (da_cons (de_ifExp (dt_cmp (op_neAll hu) opd_ne (dv 1) de_int (nomark _)) (dv 1) de_int) da_nil))))))
/-! ### _law_rows(many): 0 many 1 rows 2 turn 3 last 4 at -/
abbrev s__law_rows : Stmt := topS 28
theorem sc__law_rows : FnScope ["many", "rows", "turn", "last", "at"] ["many"] (defScope s__law_rows) := ⟨rfl, rfl, rfl, by decide +kernel, rfl, by decide +kernel, by decide +kernel⟩
def b__law_rows : DTS :=
    (dSeq (dAsg (dLst (dCons (dLst (dCons (dC (.int 1)) dNil)) dNil)) (gN 1))
    (dSeq (dFor (iRng (dCons (dVar 0) dNil)) (gN 2) (dSeq (dAsg (dOp pAdd (dOp pAdd (dLst (dCons (dC (.int 0)) dNil)) (dOp pIx (dVar 1) (dUn pNeg (dC (.int 1))))) (dLst (dCons (dC (.int 0)) dNil))) (gN 3))
    (dDrop (dBM tyL pAppend (dVar 1) (dCons (dLc (iRng (dCons (dOp pSub (dCB pLen (dCons (dVar 3) dNil)) (dC (.int 1))) dNil)) (gN 4) dYes (dOp pAdd (dOp pIx (dVar 3) (dVar 4)) (dOp pIx (dVar 3) (dOp pAdd (dVar 4) (dC (.int 1))))) [4]) dNil)))))
    (dRet (dVar 1))))
theorem d__law_rows {P : Program} {w : World} {K : PySem.W.Frag} {mg : Str → Option Value} {base : Heap} {f : Addr} {cdv : Value} {A : Around} {outer : List Env} {s : Shared} {H : Hp} {E : XK} (n_range : mg "range" = none) (n_len : mg "len" = none) :
    DSs (cxOf CX0 P w K mg base ["many", "rows", "turn", "last", "at"] "_law_rows" (defScope s__law_rows) f cdv A outer s H E).nox (defBody s__law_rows) (b__law_rows) :=
    (dss_cons (ds_set (i := 1) sc__law_rows.nd rfl (by first | exact Or.inl rfl | exact Or.inr rfl) (de_lst (da_cons (de_lst (da_cons de_int da_nil)) da_nil)))
    (dss_cons (ds_for PassesOwn.never rfl (di_range1 (by rfl) n_range (dv 0)) (dg_name (i := 2) sc__law_rows.nd rfl (by first | exact Or.inl rfl | exact Or.inr rfl)) (dss_cons (ds_set (i := 3) sc__law_rows.nd rfl (by first | exact Or.inl rfl | exact Or.inr rfl) (de_op op_addAll opd_add (de_op op_addAll opd_add (de_lst (da_cons de_int da_nil)) (de_ix (dv 1) (de_un un_neg und_neg de_int) (fun _ _ => rfl))) (de_lst (da_cons de_int da_nil))))
    (dss_one (ds_expr (de_bm PySem.F.plainAttrs_list PySem.F.slot_list_append PySem.F.type_list_append mt_append md_append (dv 1) (da_cons (de_lc rfl sc__law_rows.nd (di_range1 (by rfl) n_range (de_op op_sub opd_sub (de_callB cr_len cd_len (by rfl) n_len (by decide +kernel) (da_cons (dv 3) da_nil)) de_int)) (own := [("at", 4)]) (by exact blkOk_by (N := ["many", "rows", "turn", "last", "at"]) (sc := defScope s__law_rows) (by first | decide +kernel | rfl)) (fun _ _ _ _ _ => (dgc_name (i := 4) (by decide) sc__law_rows.nd rfl (by first | exact Or.inl rfl | exact Or.inr rfl))) (fun _ _ _ _ _ => dts_nil) (fun _ _ _ _ _ => (de_op op_addAll opd_add (de_ix (dv 3) (dv 4) (fun _ _ => rfl)) (de_ix (dv 3) (de_op op_addAll opd_add (dv 4) de_int) (fun _ _ => rfl))))) da_nil))))))
    (dss_one (ds_ret (dv 1)))))
/-! ### _law_lots(top, many): 0 top 1 many 2 upper 3 found -/
abbrev s__law_lots : Stmt := topS 29
theorem sc__law_lots : FnScope ["top", "many", "upper", "found"] ["top", "many"] (defScope s__law_lots) := ⟨rfl, rfl, rfl, by decide +kernel, rfl, by decide +kernel, by decide +kernel⟩
def b__law_lots (sp__law_rows : DSp) : DTS :=
    (dSeq (dAsg (dIfE (dTest (dOp pGe (dVar 0) (dC (.int 0)))) (dVar 0) (dOp pSub (dOp pSub (dVar 1) (dVar 0)) (dC (.int 1)))) (gN 2))
    (dSeq (dAsg (dIfE (dTest (dOp pLe (dVar 1) (dVar 2))) (dOp pIx (dOp pIx (dCall sp__law_rows [] (dCons (dVar 2) dNil)) (dVar 2)) (dVar 1)) (dC (.int 0))) (gN 3))
    (dRet (dIfE (dTest (dOp pGe (dVar 0) (dC (.int 0)))) (dVar 3) (dOp pMul (dOp pSub (dC (.int 1)) (dOp pMul (dC (.int 2)) (dOp pMod (dCB pInt (dCons (dVar 1) dNil)) (dC (.int 2))))) (dVar 3))))))
theorem d__law_lots {P : Program} {w : World} {K : PySem.W.Frag} {mg : Str → Option Value} {base : Heap} {f : Addr} {cdv : Value} {A : Around} {outer : List Env} {s : Shared} {H : Hp} {E : XK} {sp__law_rows : DSp} (c__law_rows_1 : Can P w K mg base (A.deeper (envOfC "_law_lots" (defScope s__law_lots) s.heap.objs.size f cdv)) "_law_rows" [] sp__law_rows) (n_int : mg "int" = none) :
    DSs (cxOf CX0 P w K mg base ["top", "many", "upper", "found"] "_law_lots" (defScope s__law_lots) f cdv A outer s H E).nox (defBody s__law_lots) (b__law_lots sp__law_rows) :=
    (dss_cons (ds_set (i := 2) sc__law_lots.nd rfl (by first | exact Or.inl rfl | exact Or.inr rfl) (de_ifExp (dt_cmp op_ge opd_ge (dv 0) de_int (nomark _)) (dv 0) (de_op op_sub opd_sub (de_op op_sub opd_sub (dv 1) (dv 0)) de_int)))
    (dss_cons (ds_set (i := 3) sc__law_lots.nd rfl (by first | exact Or.inl rfl | exact Or.inr rfl) (de_ifExp (dt_cmp op_le opd_le (dv 1) (dv 2) (nomark _)) (de_ix (de_ix (de_call c__law_rows_1 (by rfl) (da_cons (dv 2) da_nil)) (dv 2) (fun _ _ => rfl)) (dv 1) (fun _ _ => rfl)) de_int))
    (dss_one (ds_ret (de_ifExp (dt_cmp op_ge opd_ge (dv 0) de_int (nomark _)) (dv 3) (de_op op_mulAll opd_mul (de_op op_sub opd_sub de_int (de_op op_mulAll opd_mul de_int (de_op op_modN opd_mod (de_callTy call_int1 cd_int (by rfl) n_int (by decide +kernel) (da_cons (dv 1) da_nil)) de_int))) (dv 3)))))))
/-! ### _law_judged(well, one): 0 well 1 one 2 value 3 due 4 near -/
abbrev s__law_judged : Stmt := topS 30
theorem sc__law_judged : FnScope ["well", "one", "value", "due", "near"] ["well", "one"] (defScope s__law_judged) := ⟨rfl, rfl, rfl, by decide +kernel, rfl, by decide +kernel, by decide +kernel⟩
def b__law_judged (sp__law_odd : DSp) (sp__law_is : DSp) (sp_is_fraction : DSp) (sp__law_one : DSp) : DTS :=
    (dSeq (dFor (iSeqD (dCall sp__law_odd [] dNil)) (gN 2) (dSeq (dAsg (dAndV (dCB pIsi (dCons (dVar 2) (dCons (dC (.ty "tuple")) dNil))) (dOp pEq (dVar 2) (dTup (dCons (dC (.int 1)) (dCons (dC (.int 1)) dNil))))) (gN 3))
    (dIf (dNot (dTest (dCall sp__law_is [] (dCons (dCall sp_is_fraction [] (dCons (dVar 2) dNil)) (dCons (dVar 3) dNil))))) (dRet (dC (.bl false))) dNext)))
    (dSeq (dAsg (dLst (dCons (dTup (dCons (dOp pIx (dVar 1) (dC (.int 0))) (dCons (dOp pSub (dC (.int 0)) (dOp pIx (dVar 1) (dC (.int 1)))) dNil))) (dCons (dTup (dCons (dOp pMul (dC (.int 2)) (dOp pIx (dVar 1) (dC (.int 0)))) (dCons (dOp pMul (dC (.int 2)) (dOp pIx (dVar 1) (dC (.int 1)))) dNil))) (dCons (dCB pList (dCons (dVar 1) dNil)) (dCons (dOp pAdd (dVar 1) (dTup (dCons (dC (.int 1)) dNil))) (dCons (dSl (dVar 1) dNoPart (dPart (dC (.int 1)))) (dCons (dTup (dCons (dOp pIx (dVar 1) (dC (.int 0))) (dCons (dC (.int 0)) dNil))) (dCons (dTup (dCons (dC (.bl true)) (dCons (dC (.int 1)) dNil))) (dCons (dTup (dCons (dOp pIx (dVar 1) (dC (.int 0))) (dCons (dC (.bl true)) dNil))) (dCons (dTup (dCons (dC (.int 0)) (dCons (dC (.int 2)) dNil))) (dCons (dTup (dCons (dCB pStr (dCons (dOp pIx (dVar 1) (dC (.int 0))) dNil)) (dCons (dC (.int 1)) dNil))) (dCons (dTup (dCons (dC .non) (dCons (dC (.int 1)) dNil))) dNil)))))))))))) (gN 4))
    (dSeq (dAsg (dCall sp__law_one [] (dCons (dVar 0) (dCons (dVar 4) dNil))) (gN 2))
    (dRet (dAndV (dOp pIs (dCall sp_is_fraction [] (dCons (dVar 1) dNil)) (dC (.bl true))) (dAndV (dOp pIs (dCall sp_is_fraction [] (dCons (dVar 2) dNil)) (dC (.bl false))) (dOp pIs (dCall sp_is_fraction [] (dCons (dTup (dCons (dC (.int 0)) (dCons (dC (.int 1)) dNil))) dNil)) (dC (.bl true)))))))))
theorem d__law_judged {P : Program} {w : World} {K : PySem.W.Frag} {mg : Str → Option Value} {base : Heap} {f : Addr} {cdv : Value} {A : Around} {outer : List Env} {s : Shared} {H : Hp} {E : XK} {sp__law_odd : DSp} {sp__law_is : DSp} {sp_is_fraction : DSp} {sp__law_one : DSp} (c__law_odd_0 : Can P w K mg base (A.deeper (envOfC "_law_judged" (defScope s__law_judged) s.heap.objs.size f cdv)) "_law_odd" [] sp__law_odd) (c__law_is_2 : Can P w K mg base (A.deeper (envOfC "_law_judged" (defScope s__law_judged) s.heap.objs.size f cdv)) "_law_is" [] sp__law_is) (c_is_fraction_1 : Can P w K mg base (A.deeper (envOfC "_law_judged" (defScope s__law_judged) s.heap.objs.size f cdv)) "is_fraction" [] sp_is_fraction) (c__law_one_2 : Can P w K mg base (A.deeper (envOfC "_law_judged" (defScope s__law_judged) s.heap.objs.size f cdv)) "_law_one" [] sp__law_one) (n_isinstance : mg "isinstance" = none) (n_tuple : mg "tuple" = none) (n_str : mg "str" = none) (n_list : mg "list" = none) (hu : (A.deeper (envOfC "_law_judged" (defScope s__law_judged) s.heap.objs.size f cdv)).units + 64 < cLine) :
    DSs (cxOf CX0 P w K mg base ["well", "one", "value", "due", "near"] "_law_judged" (defScope s__law_judged) f cdv A outer s H E).nox (defBody s__law_judged) (b__law_judged sp__law_odd sp__law_is sp_is_fraction sp__law_one) :=
    (dss_cons (ds_for PassesOwn.never rfl (di_seq (de_call0 c__law_odd_0 (by rfl))) (dg_name (i := 2) sc__law_judged.nd rfl (by first | exact Or.inl rfl | exact Or.inr rfl)) (dss_cons (ds_set (i := 3) sc__law_judged.nd rfl (by first | exact Or.inl rfl | exact Or.inr rfl) (de_and (de_callB cr_isi cd_isi (by rfl) n_isinstance (by decide +kernel) (da_cons (dv 2) (da_cons (de_bltn (n := "tuple") (by rfl) n_tuple (by decide +kernel)) da_nil))) (de_one (de_cmp (op_eqAll hu) opd_eq (dv 2) (de_tup (da_cons de_int (da_cons de_int da_nil))) (nomark _)))))
    (dss_one (ds_if (dt_not (dt_val (de_call c__law_is_2 (by rfl) (da_cons (de_call c_is_fraction_1 (by rfl) (da_cons (dv 2) da_nil)) (da_cons (dv 3) da_nil))))) (dss_one (ds_ret de_bl)) dss_nil))))
    (dss_cons (ds_set (i := 4) sc__law_judged.nd rfl (by first | exact Or.inl rfl | exact Or.inr rfl) (de_lst (da_cons (de_tup (da_cons (de_ix (dv 1) de_int (fun _ _ => rfl)) (da_cons (de_op op_sub opd_sub de_int (de_ix (dv 1) de_int (fun _ _ => rfl))) da_nil))) (da_cons (de_tup (da_cons (de_op op_mulAll opd_mul de_int (de_ix (dv 1) de_int (fun _ _ => rfl))) (da_cons (de_op op_mulAll opd_mul de_int (de_ix (dv 1) de_int (fun _ _ => rfl))) da_nil))) (da_cons (de_callTy call_list_of cd_list (by rfl) n_list (by decide +kernel) (da_cons (dv 1) da_nil)) (da_cons (de_op op_addAll opd_add (dv 1) (de_tup (da_cons de_int da_nil))) (da_cons (de_slice (dv 1) do_none (do_some de_int)) (da_cons (de_tup (da_cons (de_ix (dv 1) de_int (fun _ _ => rfl)) (da_cons de_int da_nil))) (da_cons (de_tup (da_cons de_bl (da_cons de_int da_nil))) (da_cons (de_tup (da_cons (de_ix (dv 1) de_int (fun _ _ => rfl)) (da_cons de_bl da_nil))) (da_cons (de_tup (da_cons de_int (da_cons de_int da_nil))) (da_cons (de_tup (da_cons (de_callTy call_str_int cd_str (by rfl) n_str (by decide +kernel) (da_cons (de_ix (dv 1) de_int (fun _ _ => rfl)) da_nil)) (da_cons de_int da_nil))) (da_cons (de_tup (da_cons de_non (da_cons de_int da_nil))) da_nil)))))))))))))
    (dss_cons (ds_set (i := 2) sc__law_judged.nd rfl (by first | exact Or.inl rfl | exact Or.inr rfl) (de_call c__law_one_2 (by rfl) (da_cons (dv 0) (da_cons (dv 4) da_nil))))
    (dss_one (ds_ret (de_and (de_cmp op_isAll opd_is (de_call c_is_fraction_1 (by rfl) (da_cons (dv 1) da_nil)) de_bl (nomark _)) (de_and (de_cmp op_isAll opd_is (de_call c_is_fraction_1 (by rfl) (da_cons (dv 2) da_nil)) de_bl (nomark _)) (de_one (de_cmp op_isAll opd_is (de_call c_is_fraction_1 (by rfl) (da_cons (de_tup (da_cons de_int (da_cons de_int da_nil))) da_nil)) de_bl (nomark _))))))))))
/-! ### _law_sums(well): 0 well 1 one 2 other 3 many 4 top 5 bottom 6 risen 7 turn -/
abbrev s__law_sums : Stmt := topS 31
theorem sc__law_sums : FnScope ["well", "one", "other", "many", "top", "bottom", "risen", "turn"] ["well"] (defScope s__law_sums) := ⟨rfl, rfl, rfl, by decide +kernel, rfl, by decide +kernel, by decide +kernel⟩
def b__law_sums (sp__law_dip : DSp) (sp__law_pair : DSp) (sp__law_judged : DSp) (sp__law_integer : DSp) (sp__law_like : DSp) (sp__law_low : DSp) (sp_fraction_of : DSp) (sp__law_plus : DSp) (sp_plus : DSp) (sp__law_times : DSp) (sp_times : DSp) (sp_over : DSp) (sp_power_of : DSp) (sp__law_is : DSp) (sp_is_below : DSp) (sp_minus : DSp) : DTS :=
    (dSeq (dPar3 1 2 3 (dCons (dCall sp__law_pair [] (dCons (dVar 0) dNil)) (dCons (dCall sp__law_pair [] (dCons (dVar 0) dNil)) (dCons (dCall sp__law_dip [] (dCons (dVar 0) (dCons (dC (.int 6)) dNil))) dNil))))
    (dSeq (dIf (dNot (dTest (dCall sp__law_judged [] (dCons (dVar 0) (dCons (dVar 1) dNil))))) (dRet (dC (.bl false))) dNext)
    (dSeq (dPar 4 5 (dCons (dCall sp__law_integer [] (dCons (dVar 0) dNil)) (dCons (dCall sp__law_integer [] (dCons (dVar 0) dNil)) dNil)))
    (dSeq (dAsg (dIfE (dTest (dOp pNe (dVar 5) (dC (.int 0)))) (dVar 5) (dOp pSub (dC (.int 0)) (dC (.int 7)))) (gN 5))
    (dSeq (dIf (dOr (dNot (dTest (dCall sp__law_like [] (dCons (dCall sp_fraction_of [] (dCons (dVar 4) (dCons (dVar 5) dNil))) (dCons (dCall sp__law_low [] (dCons (dVar 4) (dCons (dVar 5) dNil))) dNil))))) (dNot (dTest (dCall sp__law_like [] (dCons (dCall sp_plus [] (dCons (dVar 1) (dCons (dVar 2) dNil))) (dCons (dCall sp__law_plus [] (dCons (dVar 1) (dCons (dVar 2) dNil))) dNil)))))) (dRet (dC (.bl false))) dNext)
    (dSeq (dIf (dOr (dNot (dTest (dCall sp__law_like [] (dCons (dCallK sp_minus 1 1 [(0, 0), (1, 0)] (dCons (dVar 1) dNil) (dCons (dVar 2) dNil)) (dCons (dCall sp__law_plus [] (dCons (dVar 1) (dCons (dTup (dCons (dOp pSub (dC (.int 0)) (dOp pIx (dVar 2) (dC (.int 0)))) (dCons (dOp pIx (dVar 2) (dC (.int 1))) dNil))) dNil))) dNil))))) (dNot (dTest (dCall sp__law_like [] (dCons (dCall sp_times [] (dCons (dVar 1) (dCons (dVar 2) dNil))) (dCons (dCall sp__law_times [] (dCons (dVar 1) (dCons (dVar 2) dNil))) dNil)))))) (dRet (dC (.bl false))) dNext)
    (dSeq (dIf (dAnd (dTest (dOp pNe (dOp pIx (dVar 2) (dC (.int 0))) (dC (.int 0)))) (dNot (dTest (dCall sp__law_like [] (dCons (dCall sp_over [] (dCons (dVar 1) (dCons (dVar 2) dNil))) (dCons (dCall sp__law_low [] (dCons (dOp pMul (dOp pIx (dVar 1) (dC (.int 0))) (dOp pIx (dVar 2) (dC (.int 1)))) (dCons (dOp pMul (dOp pIx (dVar 1) (dC (.int 1))) (dOp pIx (dVar 2) (dC (.int 0)))) dNil))) dNil)))))) (dRet (dC (.bl false))) dNext)
    (dSeq (dAsg (dTup (dCons (dC (.int 1)) (dCons (dC (.int 1)) dNil))) (gN 6))
    (dSeq (dFor (iRng (dCons (dVar 3) dNil)) (gN 7) (dAsg (dTup (dCons (dOp pMul (dOp pIx (dVar 6) (dC (.int 0))) (dOp pIx (dVar 1) (dC (.int 0)))) (dCons (dOp pMul (dOp pIx (dVar 6) (dC (.int 1))) (dOp pIx (dVar 1) (dC (.int 1)))) dNil))) (gN 6)))
    (dSeq (dIf (dNot (dTest (dCall sp__law_like [] (dCons (dCall sp_power_of [] (dCons (dVar 1) (dCons (dVar 3) dNil))) (dCons (dVar 6) dNil))))) (dRet (dC (.bl false))) dNext)
    (dRet (dAndV (dCall sp__law_is [] (dCons (dCall sp_is_below [] (dCons (dVar 1) (dCons (dVar 2) dNil))) (dCons (dOp pLt (dOp pMul (dOp pIx (dVar 1) (dC (.int 0))) (dOp pIx (dVar 2) (dC (.int 1)))) (dOp pMul (dOp pIx (dVar 2) (dC (.int 0))) (dOp pIx (dVar 1) (dC (.int 1))))) dNil))) (dOp pIs (dCall sp_is_below [] (dCons (dVar 1) (dCons (dVar 1) dNil))) (dC (.bl false)))))))))))))))
theorem d__law_sums {P : Program} {w : World} {K : PySem.W.Frag} {mg : Str → Option Value} {base : Heap} {f : Addr} {cdv : Value} {A : Around} {outer : List Env} {s : Shared} {H : Hp} {E : XK} {sp__law_dip : DSp} {sp__law_pair : DSp} {sp__law_judged : DSp} {sp__law_integer : DSp} {sp__law_like : DSp} {sp__law_low : DSp} {sp_fraction_of : DSp} {sp__law_plus : DSp} {sp_plus : DSp} {sp__law_times : DSp} {sp_times : DSp} {sp_over : DSp} {sp_power_of : DSp} {sp__law_is : DSp} {sp_is_below : DSp} {sp_minus : DSp} (c__law_dip_2 : Can P w K mg base (A.deeper (envOfC "_law_sums" (defScope s__law_sums) s.heap.objs.size f cdv)) "_law_dip" [] sp__law_dip) (c__law_pair_1 : Can P w K mg base (A.deeper (envOfC "_law_sums" (defScope s__law_sums) s.heap.objs.size f cdv)) "_law_pair" [] sp__law_pair) (c__law_judged_2 : Can P w K mg base (A.deeper (envOfC "_law_sums" (defScope s__law_sums) s.heap.objs.size f cdv)) "_law_judged" [] sp__law_judged) (c__law_integer_1 : Can P w K mg base (A.deeper (envOfC "_law_sums" (defScope s__law_sums) s.heap.objs.size f cdv)) "_law_integer" [] sp__law_integer) (c__law_like_2 : Can P w K mg base (A.deeper (envOfC "_law_sums" (defScope s__law_sums) s.heap.objs.size f cdv)) "_law_like" [] sp__law_like) (c__law_low_2 : Can P w K mg base (A.deeper (envOfC "_law_sums" (defScope s__law_sums) s.heap.objs.size f cdv)) "_law_low" [] sp__law_low) (c_fraction_of_2 : Can P w K mg base (A.deeper (envOfC "_law_sums" (defScope s__law_sums) s.heap.objs.size f cdv)) "fraction_of" [] sp_fraction_of) (c__law_plus_2 : Can P w K mg base (A.deeper (envOfC "_law_sums" (defScope s__law_sums) s.heap.objs.size f cdv)) "_law_plus" [] sp__law_plus) (c_plus_2 : Can P w K mg base (A.deeper (envOfC "_law_sums" (defScope s__law_sums) s.heap.objs.size f cdv)) "plus" [] sp_plus) (c__law_times_2 : Can P w K mg base (A.deeper (envOfC "_law_sums" (defScope s__law_sums) s.heap.objs.size f cdv)) "_law_times" [] sp__law_times) (c_times_2 : Can P w K mg base (A.deeper (envOfC "_law_sums" (defScope s__law_sums) s.heap.objs.size f cdv)) "times" [] sp_times) (c_over_2 : Can P w K mg base (A.deeper (envOfC "_law_sums" (defScope s__law_sums) s.heap.objs.size f cdv)) "over" [] sp_over) (c_power_of_2 : Can P w K mg base (A.deeper (envOfC "_law_sums" (defScope s__law_sums) s.heap.objs.size f cdv)) "power_of" [] sp_power_of) (c__law_is_2 : Can P w K mg base (A.deeper (envOfC "_law_sums" (defScope s__law_sums) s.heap.objs.size f cdv)) "_law_is" [] sp__law_is) (c_is_below_2 : Can P w K mg base (A.deeper (envOfC "_law_sums" (defScope s__law_sums) s.heap.objs.size f cdv)) "is_below" [] sp_is_below) (k_minus_1_other : CanK P w K mg base (A.deeper (envOfC "_law_sums" (defScope s__law_sums) s.heap.objs.size f cdv)) "minus" 1 ["other"] [(0, 0), (1, 0)] sp_minus) (n_range : mg "range" = none) (hu : (A.deeper (envOfC "_law_sums" (defScope s__law_sums) s.heap.objs.size f cdv)).units + 64 < cLine) :
    DSs (cxOf CX0 P w K mg base ["well", "one", "other", "many", "top", "bottom", "risen", "turn"] "_law_sums" (defScope s__law_sums) f cdv A outer s H E).nox (defBody s__law_sums) (b__law_sums sp__law_dip sp__law_pair sp__law_judged sp__law_integer sp__law_like sp__law_low sp_fraction_of sp__law_plus sp_plus sp__law_times sp_times sp_over sp_power_of sp__law_is sp_is_below sp_minus) :=
    (dss_cons (ds_par3 (i := 1) (j := 2) (l := 3) rfl sc__law_sums.nd rfl rfl rfl (by decide) (by decide) (by decide) rfl rfl rfl (da_cons (de_call c__law_pair_1 (by rfl) (da_cons (dv 0) da_nil)) (da_cons (de_call c__law_pair_1 (by rfl) (da_cons (dv 0) da_nil)) (da_cons (de_call c__law_dip_2 (by rfl) (da_cons (dv 0) (da_cons de_int da_nil))) da_nil))) (by rfl))
    (dss_cons (ds_if (dt_not (dt_val (de_call c__law_judged_2 (by rfl) (da_cons (dv 0) (da_cons (dv 1) da_nil))))) (dss_one (ds_ret de_bl)) dss_nil)
    (dss_cons (ds_par (i := 4) (j := 5) rfl sc__law_sums.nd rfl rfl (by decide) rfl rfl (da_cons (de_call c__law_integer_1 (by rfl) (da_cons (dv 0) da_nil)) (da_cons (de_call c__law_integer_1 (by rfl) (da_cons (dv 0) da_nil)) da_nil)) (by rfl))
    (dss_cons (ds_set (i := 5) sc__law_sums.nd rfl (by first | exact Or.inl rfl | exact Or.inr rfl) (de_ifExp (dt_cmp (op_neAll hu) opd_ne (dv 5) de_int (nomark _)) (dv 5) (de_op op_sub opd_sub de_int de_int)))
    (dss_cons (ds_if (DW.dt (dw_or (dt_not (dt_val (de_call c__law_like_2 (by rfl) (da_cons (de_call c_fraction_of_2 (by rfl) (da_cons (dv 4) (da_cons (dv 5) da_nil))) (da_cons (de_call c__law_low_2 (by rfl) (da_cons (dv 4) (da_cons (dv 5) da_nil))) da_nil))))) (dw_or1 (dt_not (dt_val (de_call c__law_like_2 (by rfl) (da_cons (de_call c_plus_2 (by rfl) (da_cons (dv 1) (da_cons (dv 2) da_nil))) (da_cons (de_call c__law_plus_2 (by rfl) (da_cons (dv 1) (da_cons (dv 2) da_nil))) da_nil)))))))) (dss_one (ds_ret de_bl)) dss_nil)
    (dss_cons (ds_if (DW.dt (dw_or (dt_not (dt_val (de_call c__law_like_2 (by rfl) (da_cons (de_callK k_minus_1_other (by rfl) (da_cons (dv 1) da_nil) (dk_cons (dv 2) dk_nil)) (da_cons (de_call c__law_plus_2 (by rfl) (da_cons (dv 1) (da_cons (de_tup (da_cons (de_op op_sub opd_sub de_int (de_ix (dv 2) de_int (fun _ _ => rfl))) (da_cons (de_ix (dv 2) de_int (fun _ _ => rfl)) da_nil))) da_nil))) da_nil))))) (dw_or1 (dt_not (dt_val (de_call c__law_like_2 (by rfl) (da_cons (de_call c_times_2 (by rfl) (da_cons (dv 1) (da_cons (dv 2) da_nil))) (da_cons (de_call c__law_times_2 (by rfl) (da_cons (dv 1) (da_cons (dv 2) da_nil))) da_nil)))))))) (dss_one (ds_ret de_bl)) dss_nil)
    (dss_cons (ds_if (DW.dt (dw_and (dt_cmp (op_neAll hu) opd_ne (de_ix (dv 2) de_int (fun _ _ => rfl)) de_int (nomark _)) (dw_and1 (dt_not (dt_val (de_call c__law_like_2 (by rfl) (da_cons (de_call c_over_2 (by rfl) (da_cons (dv 1) (da_cons (dv 2) da_nil))) (da_cons (de_call c__law_low_2 (by rfl) (da_cons (de_op op_mulAll opd_mul (de_ix (dv 1) de_int (fun _ _ => rfl)) (de_ix (dv 2) de_int (fun _ _ => rfl))) (da_cons (de_op op_mulAll opd_mul (de_ix (dv 1) de_int (fun _ _ => rfl)) (de_ix (dv 2) de_int (fun _ _ => rfl))) da_nil))) da_nil)))))))) (dss_one (ds_ret de_bl)) dss_nil)
    (dss_cons (ds_set (i := 6) sc__law_sums.nd rfl (by first | exact Or.inl rfl | exact Or.inr rfl) (de_tup (da_cons de_int (da_cons de_int da_nil))))
    (dss_cons (ds_for PassesOwn.never rfl (di_range1 (by rfl) n_range (dv 3)) (dg_name (i := 7) sc__law_sums.nd rfl (by first | exact Or.inl rfl | exact Or.inr rfl)) (dss_one (ds_set (i := 6) sc__law_sums.nd rfl (by first | exact Or.inl rfl | exact Or.inr rfl) (de_tup (da_cons (de_op op_mulAll opd_mul (de_ix (dv 6) de_int (fun _ _ => rfl)) (de_ix (dv 1) de_int (fun _ _ => rfl))) (da_cons (de_op op_mulAll opd_mul (de_ix (dv 6) de_int (fun _ _ => rfl)) (de_ix (dv 1) de_int (fun _ _ => rfl))) da_nil))))))
    (dss_cons (ds_if (dt_not (dt_val (de_call c__law_like_2 (by rfl) (da_cons (de_call c_power_of_2 (by rfl) (da_cons (dv 1) (da_cons (dv 3) da_nil))) (da_cons (dv 6) da_nil))))) (dss_one (ds_ret de_bl)) dss_nil)
    (dss_one (ds_ret (de_and (de_call c__law_is_2 (by rfl) (da_cons (de_call c_is_below_2 (by rfl) (da_cons (dv 1) (da_cons (dv 2) da_nil))) (da_cons (de_cmp op_lt opd_lt (de_op op_mulAll opd_mul (de_ix (dv 1) de_int (fun _ _ => rfl)) (de_ix (dv 2) de_int (fun _ _ => rfl))) (de_op op_mulAll opd_mul (de_ix (dv 2) de_int (fun _ _ => rfl)) (de_ix (dv 1) de_int (fun _ _ => rfl))) (nomark _)) da_nil))) (de_one (de_cmp op_isAll opd_is (de_call c_is_below_2 (by rfl) (da_cons (dv 1) (da_cons (dv 1) da_nil))) de_bl (nomark _))))))))))))))))
/-! ### _law_binomials(well): 0 well 1 top 2 many 3 half 4 upper 5 lower 6 at -/
abbrev s__law_binomials : Stmt := topS 32
theorem sc__law_binomials : FnScope ["well", "top", "many", "half", "upper", "lower", "at"] ["well"] (defScope s__law_binomials) := ⟨rfl, rfl, rfl, by decide +kernel, rfl, by decide +kernel, by decide +kernel⟩
def b__law_binomials (sp__law_dip : DSp) (sp__law_like : DSp) (sp__law_lots : DSp) (sp_binomial : DSp) (sp__law_low : DSp) (sp_binomial_at : DSp) : DTS :=
    (dSeq (dPar 1 2 (dCons (dOp pSub (dCall sp__law_dip [] (dCons (dVar 0) (dCons (dC (.int 25)) dNil))) (dC (.int 12))) (dCons (dCall sp__law_dip [] (dCons (dVar 0) (dCons (dC (.int 9)) dNil))) dNil)))
    (dSeq (dIf (dNot (dTest (dCall sp__law_like [] (dCons (dCall sp_binomial [] (dCons (dVar 1) (dCons (dVar 2) dNil))) (dCons (dCall sp__law_lots [] (dCons (dVar 1) (dCons (dVar 2) dNil))) dNil))))) (dRet (dC (.bl false))) dNext)
    (dSeq (dAsg (dCall sp__law_low [] (dCons (dOp pSub (dCall sp__law_dip [] (dCons (dVar 0) (dCons (dC (.int 41)) dNil))) (dC (.int 20))) (dCons (dOp pAdd (dC (.int 1)) (dCall sp__law_dip [] (dCons (dVar 0) (dCons (dC (.int 6)) dNil)))) dNil))) (gN 3))
    (dSeq (dAsg (dTup (dCons (dC (.int 1)) (dCons (dC (.int 1)) dNil))) (gTp 2 (gNc (gN 4) (gNc (gN 5) gN0))))
    (dSeq (dFor (iRng (dCons (dVar 2) dNil)) (gN 6) (dPar 4 5 (dCons (dOp pMul (dVar 4) (dOp pSub (dOp pIx (dVar 3) (dC (.int 0))) (dOp pMul (dVar 6) (dOp pIx (dVar 3) (dC (.int 1)))))) (dCons (dOp pMul (dOp pMul (dVar 5) (dOp pIx (dVar 3) (dC (.int 1)))) (dOp pAdd (dVar 6) (dC (.int 1)))) dNil))))
    (dRet (dCall sp__law_like [] (dCons (dCall sp_binomial_at [] (dCons (dVar 3) (dCons (dVar 2) dNil))) (dCons (dCall sp__law_low [] (dCons (dVar 4) (dCons (dVar 5) dNil))) dNil)))))))))
theorem d__law_binomials {P : Program} {w : World} {K : PySem.W.Frag} {mg : Str → Option Value} {base : Heap} {f : Addr} {cdv : Value} {A : Around} {outer : List Env} {s : Shared} {H : Hp} {E : XK} {sp__law_dip : DSp} {sp__law_like : DSp} {sp__law_lots : DSp} {sp_binomial : DSp} {sp__law_low : DSp} {sp_binomial_at : DSp} (c__law_dip_2 : Can P w K mg base (A.deeper (envOfC "_law_binomials" (defScope s__law_binomials) s.heap.objs.size f cdv)) "_law_dip" [] sp__law_dip) (c__law_like_2 : Can P w K mg base (A.deeper (envOfC "_law_binomials" (defScope s__law_binomials) s.heap.objs.size f cdv)) "_law_like" [] sp__law_like) (c__law_lots_2 : Can P w K mg base (A.deeper (envOfC "_law_binomials" (defScope s__law_binomials) s.heap.objs.size f cdv)) "_law_lots" [] sp__law_lots) (c_binomial_2 : Can P w K mg base (A.deeper (envOfC "_law_binomials" (defScope s__law_binomials) s.heap.objs.size f cdv)) "binomial" [] sp_binomial) (c__law_low_2 : Can P w K mg base (A.deeper (envOfC "_law_binomials" (defScope s__law_binomials) s.heap.objs.size f cdv)) "_law_low" [] sp__law_low) (c_binomial_at_2 : Can P w K mg base (A.deeper (envOfC "_law_binomials" (defScope s__law_binomials) s.heap.objs.size f cdv)) "binomial_at" [] sp_binomial_at) (n_range : mg "range" = none) :
    DSs (cxOf CX0 P w K mg base ["well", "top", "many", "half", "upper", "lower", "at"] "_law_binomials" (defScope s__law_binomials) f cdv A outer s H E).nox (defBody s__law_binomials) (b__law_binomials sp__law_dip sp__law_like sp__law_lots sp_binomial sp__law_low sp_binomial_at) :=
    (dss_cons (ds_par (i := 1) (j := 2) rfl sc__law_binomials.nd rfl rfl (by decide) rfl rfl (da_cons (de_op op_sub opd_sub (de_call c__law_dip_2 (by rfl) (da_cons (dv 0) (da_cons de_int da_nil))) de_int) (da_cons (de_call c__law_dip_2 (by rfl) (da_cons (dv 0) (da_cons de_int da_nil))) da_nil)) (by rfl))
    (dss_cons (ds_if (dt_not (dt_val (de_call c__law_like_2 (by rfl) (da_cons (de_call c_binomial_2 (by rfl) (da_cons (dv 1) (da_cons (dv 2) da_nil))) (da_cons (de_call c__law_lots_2 (by rfl) (da_cons (dv 1) (da_cons (dv 2) da_nil))) da_nil))))) (dss_one (ds_ret de_bl)) dss_nil)
    (dss_cons (ds_set (i := 3) sc__law_binomials.nd rfl (by first | exact Or.inl rfl | exact Or.inr rfl) (de_call c__law_low_2 (by rfl) (da_cons (de_op op_sub opd_sub (de_call c__law_dip_2 (by rfl) (da_cons (dv 0) (da_cons de_int da_nil))) de_int) (da_cons (de_op op_addAll opd_add de_int (de_call c__law_dip_2 (by rfl) (da_cons (dv 0) (da_cons de_int da_nil)))) da_nil))))
    (dss_cons (ds_asg (de_tup (da_cons de_int (da_cons de_int da_nil))) (dg_tup rfl (dgs_cons (dg_name (i := 4) sc__law_binomials.nd rfl (by first | exact Or.inl rfl | exact Or.inr rfl)) (dgs_cons (dg_name (i := 5) sc__law_binomials.nd rfl (by first | exact Or.inl rfl | exact Or.inr rfl)) dgs_nil))))
    (dss_cons (ds_for PassesOwn.never rfl (di_range1 (by rfl) n_range (dv 2)) (dg_name (i := 6) sc__law_binomials.nd rfl (by first | exact Or.inl rfl | exact Or.inr rfl)) (dss_one (ds_par (i := 4) (j := 5) rfl sc__law_binomials.nd rfl rfl (by decide) rfl rfl (da_cons (de_op op_mulAll opd_mul (dv 4) (de_op op_sub opd_sub (de_ix (dv 3) de_int (fun _ _ => rfl)) (de_op op_mulAll opd_mul (dv 6) (de_ix (dv 3) de_int (fun _ _ => rfl))))) (da_cons (de_op op_mulAll opd_mul (de_op op_mulAll opd_mul (dv 5) (de_ix (dv 3) de_int (fun _ _ => rfl))) (de_op op_addAll opd_add (dv 6) de_int)) da_nil)) (by rfl))))
    (dss_one (ds_ret (de_call c__law_like_2 (by rfl) (da_cons (de_call c_binomial_at_2 (by rfl) (da_cons (dv 3) (da_cons (dv 2) da_nil))) (da_cons (de_call c__law_low_2 (by rfl) (da_cons (dv 4) (da_cons (dv 5) da_nil))) da_nil))))))))))
/-! ### law(script): 0 script 1 turn 2 well -/
abbrev s_law : Stmt := topS 33
theorem sc_law : FnScope ["script", "turn", "well"] ["script"] (defScope s_law) := ⟨rfl, rfl, rfl, by decide +kernel, rfl, by decide +kernel, by decide +kernel⟩
def b_law (sp__law_well : DSp) (sp__law_sums : DSp) (sp__law_binomials : DSp) : DTS :=
    (dSeq (dFor (iRng (dCons (dC (.int 4)) dNil)) (gN 1) (dSeq (dAsg (dCall sp__law_well [] (dCons (dVar 0) (dCons (dVar 1) dNil))) (gN 2))
    (dIf (dOr (dNot (dTest (dCall sp__law_sums [] (dCons (dVar 2) dNil)))) (dNot (dTest (dCall sp__law_binomials [] (dCons (dVar 2) dNil))))) (dRet (dC (.bl false))) dNext)))
    (dRet (dC (.bl true))))
theorem d_law {P : Program} {w : World} {K : PySem.W.Frag} {mg : Str → Option Value} {base : Heap} {f : Addr} {cdv : Value} {A : Around} {outer : List Env} {s : Shared} {H : Hp} {E : XK} {sp__law_well : DSp} {sp__law_sums : DSp} {sp__law_binomials : DSp} (c__law_well_2 : Can P w K mg base (A.deeper (envOfC "law" (defScope s_law) s.heap.objs.size f cdv)) "_law_well" [] sp__law_well) (c__law_sums_1 : Can P w K mg base (A.deeper (envOfC "law" (defScope s_law) s.heap.objs.size f cdv)) "_law_sums" [] sp__law_sums) (c__law_binomials_1 : Can P w K mg base (A.deeper (envOfC "law" (defScope s_law) s.heap.objs.size f cdv)) "_law_binomials" [] sp__law_binomials) (n_range : mg "range" = none) :
    DSs (cxOf CX0 P w K mg base ["script", "turn", "well"] "law" (defScope s_law) f cdv A outer s H E).nox (defBody s_law) (b_law sp__law_well sp__law_sums sp__law_binomials) :=
    (dss_cons (ds_for PassesOwn.never rfl (di_range1 (by rfl) n_range de_int) (dg_name (i := 1) sc_law.nd rfl (by first | exact Or.inl rfl | exact Or.inr rfl)) (dss_cons (ds_set (i := 2) sc_law.nd rfl (by first | exact Or.inl rfl | exact Or.inr rfl) (de_call c__law_well_2 (by rfl) (da_cons (dv 0) (da_cons (dv 1) da_nil))))
    (dss_one (ds_if (DW.dt (dw_or (dt_not (dt_val (de_call c__law_sums_1 (by rfl) (da_cons (dv 2) da_nil)))) (dw_or1 (dt_not (dt_val (de_call c__law_binomials_1 (by rfl) (da_cons (dv 2) da_nil))))))) (dss_one (ds_ret de_bl)) dss_nil))))
    (dss_one (ds_ret de_bl)))
end K07

namespace K07
open PySem PySem.Spec PyProof.Rows L2 DL
/-! ### plain fractions -/
def cI (a b : Int) : Int := if b < 0 then -(Int.gcd a b : Int) else (Int.gcd a b : Int)
def lowI (a b : Int) : Int × Int := (a.fdiv (cI a b), b.fdiv (cI a b))
def fr (p : Int × Int) : D := .tup [.int p.1, .int p.2]
theorem gcd_pos {a b : Int} (h : b ≠ 0) : 0 < Int.gcd a b := by
  have := Int.gcd_eq_zero_iff (a := a) (b := b)
  omega
theorem lowI_parts {a b : Int} (h : b ≠ 0) : ∃ x y s : Int, a = Int.gcd a b * x ∧ b = Int.gcd a b * y ∧ Int.gcd x y = 1 ∧ (s = 1 ∨ s = -1) ∧ lowI a b = (s * x, s * y) ∧ 0 < s * y := by
  have hg := gcd_pos (a := a) h
  obtain ⟨x, hx⟩ := Int.gcd_dvd_left (a := a) (b := b)
  obtain ⟨y, hy⟩ := Int.gcd_dvd_right (a := a) (b := b)
  have hc : Int.gcd x y = 1 := by
    have key := Int.gcd_mul_left (Int.gcd a b : Int) x y
    rw [← hx, ← hy] at key
    exact Nat.eq_of_mul_eq_mul_left hg (by rw [Nat.mul_one]; exact key.symm)
  generalize hG : Int.gcd a b = g at *
  by_cases hb : b < 0
  · refine ⟨x, y, -1, hx, hy, hc, .inr rfl, ?_, ?_⟩
    · unfold lowI cI
      rw [if_pos hb, hG]
      have e1 : a = -(g : Int) * (-1 * x) := by rw [hx]; simp [Int.neg_mul, Int.mul_neg]
      have e2 : b = -(g : Int) * (-1 * y) := by rw [hy]; simp [Int.neg_mul, Int.mul_neg]
      conv => lhs; rw [e1, e2]
      rw [Int.mul_fdiv_cancel_left _ (by omega), Int.mul_fdiv_cancel_left _ (by omega)]
    · have : ¬ 0 ≤ y := fun q => by
        have := Int.mul_nonneg (show (0 : Int) ≤ g by omega) q
        omega
      omega
  · refine ⟨x, y, 1, hx, hy, hc, .inl rfl, ?_, ?_⟩
    · unfold lowI cI
      rw [if_neg hb, hG]
      conv => lhs; rw [hx, hy]
      rw [Int.mul_fdiv_cancel_left _ (by omega), Int.mul_fdiv_cancel_left _ (by omega), Int.one_mul, Int.one_mul]
    · have : ¬ y ≤ 0 := fun q => by
        have := Int.mul_nonneg (show (0 : Int) ≤ g by omega) (show 0 ≤ -y by omega)
        rw [Int.mul_neg] at this
        omega
      omega
/-- a fraction in lowest terms -/
structure Fr (p : Int × Int) : Prop where
  pos : 0 < p.2
  cop : Int.gcd p.1 p.2 = 1
theorem lowI_fr {a b : Int} (h : b ≠ 0) : Fr (lowI a b) := by
  obtain ⟨x, y, s, _, _, hc, hs, e, hp⟩ := lowI_parts (a := a) h
  rw [e]
  refine ⟨hp, ?_⟩
  rcases hs with rfl | rfl
  · simpa using hc
  · simpa using hc
theorem natAbs_le_mul {g : Nat} {x : Int} (h : 0 < g) : x.natAbs ≤ ((g : Int) * x).natAbs := by
  rw [Int.natAbs_mul]
  exact Nat.le_mul_of_pos_left _ h
theorem lowI_le {a b : Int} (h : b ≠ 0) : (lowI a b).1.natAbs ≤ a.natAbs ∧ (lowI a b).2.natAbs ≤ b.natAbs := by
  obtain ⟨x, y, s, hx, hy, hc, hs, e, hp⟩ := lowI_parts (a := a) h
  have hg := gcd_pos (a := a) h
  have h1 := natAbs_le_mul (x := x) hg
  have h2 := natAbs_le_mul (x := y) hg
  rw [← hx] at h1
  rw [← hy] at h2
  rw [e]
  rcases hs with rfl | rfl
  · simp only [Int.one_mul]; exact ⟨h1, h2⟩
  · simp only [Int.neg_mul, Int.one_mul, Int.natAbs_neg]; exact ⟨h1, h2⟩
theorem lowI_self {p : Int × Int} (h : Fr p) : lowI p.1 p.2 = p := by
  unfold lowI cI
  rw [if_neg (by have := h.pos; omega), h.cop]
  simp
theorem lowI_one (a : Int) : lowI a 1 = (a, 1) := lowI_self (p := (a, 1)) ⟨show (0 : Int) < 1 by decide, by simp⟩
def Bd (k : Nat) (i : Int) : Prop := i.natAbs < 2 ^ k
theorem Bd.mul {j k : Nat} {a b : Int} (h : Bd j a) (h2 : Bd k b) : Bd (j + k) (a * b) := by
  unfold Bd at *
  rw [Int.natAbs_mul, Nat.pow_add]
  exact Nat.mul_lt_mul'' h h2
theorem Bd.mono {j k : Nat} {a : Int} (h : Bd j a) (l : j ≤ k) : Bd k a := Nat.lt_of_lt_of_le h (Nat.pow_le_pow_right (by decide) l)
theorem Bd.add {k : Nat} {a b : Int} (h : Bd k a) (h2 : Bd k b) : Bd (k + 1) (a + b) := by
  unfold Bd at *
  have := Int.natAbs_add_le a b
  rw [Nat.pow_succ]
  omega
theorem Bd.neg {k : Nat} {a : Int} (h : Bd k a) : Bd k (-a) := by
  unfold Bd at *
  rwa [Int.natAbs_neg]
theorem Bd.le {k : Nat} {a b : Int} (h : Bd k a) (l : b.natAbs ≤ a.natAbs) : Bd k b := Nat.lt_of_le_of_lt l h
theorem Bd.mulx {j k : Nat} {a b : Int} (h : Bd j a) (h2 : Bd k b) (l : j + k ≤ 134217728) : CMulX a b := mulx_ok h h2 l
/-! ### what the defs do -/
def nice (d : D) : Prop := match d with
  | .non => True
  | .bl _ => True
  | .int _ => True
  | .str _ => True
  | .tup _ => True
  | _ => False
def isInt (d : D) : Bool := match d with
  | .int _ => true
  | _ => false
def sp_is_integer : DSp := fun ds M Q => match ds with
  | [d] => nice d ∧ Q (.bl (isInt d)) M
  | _ => False
def sp_divisor_of : DSp := fun ds M Q => match ds with
  | [.int a, .int b] => Q (.int (Int.gcd a b : Nat)) M
  | _ => False
def isFrac (d : D) : Bool := match d with
  | .tup [.int a, .int b] => decide (0 < b) && decide (Int.gcd a b = 1)
  | _ => false
def fracOk (M : Mem) (d : D) : Prop := match d with
  | .tup [x, y] => nice x ∧ nice y
  | .ref a => kindD M (.ref a) = some "list" ∨ kindD M (.ref a) = some "dict"
  | d => nice d
def sp_is_fraction : DSp := fun ds M Q => match ds with
  | [d] => fracOk M d ∧ Q (.bl (isFrac d)) M
  | _ => False
def sp_fraction_of : DSp := fun ds M Q => match ds with
  | [.int a, .int b] => b ≠ 0 ∧ Bd 8000 b ∧ Q (fr (lowI a b)) M
  | _ => False
/-- two pairs of numbers, not too long, none below nought -/
def P2 (a b c d : Int) : Prop := b ≠ 0 ∧ d ≠ 0 ∧ Bd 3000 a ∧ Bd 3000 b ∧ Bd 3000 c ∧ Bd 3000 d
def spF2 (C : Int → Int → Int → Int → Prop) (r : Int → Int → Int → Int → D) : DSp := fun ds M Q => match ds with
  | [.tup [.int a, .int b], .tup [.int c, .int d]] => P2 a b c d ∧ C a b c d ∧ Q (r a b c d) M
  | _ => False
abbrev yes4 : Int → Int → Int → Int → Prop := fun _ _ _ _ => True
abbrev sp_plus : DSp := spF2 yes4 fun a b c d => fr (lowI (a * d + c * b) (b * d))
abbrev sp_minus : DSp := spF2 yes4 fun a b c d => fr (lowI (a * d + -c * b) (b * d))
abbrev sp_times : DSp := spF2 yes4 fun a b c d => fr (lowI (a * c) (b * d))
abbrev sp_over : DSp := spF2 (fun _ _ c _ => c ≠ 0) fun a b c d => fr (lowI (a * d) (b * c))
abbrev sp_is_below : DSp := spF2 yes4 fun a b c d => .bl (decide (a * d < c * b))
section
variable {ds : List D} {M : Mem} {Q : DQ}
theorem sp_is_integer_mono : MonoSp sp_is_integer := ⟨fun {ds M Q Q'} h q => by
  unfold sp_is_integer at q ⊢
  split at q
  · exact ⟨q.1, h _ _ q.2⟩
  · exact q⟩
theorem sp_divisor_of_mono : MonoSp sp_divisor_of := ⟨fun {ds M Q Q'} h q => by
  unfold sp_divisor_of at q ⊢
  split at q
  · exact h _ _ q
  · exact q⟩
theorem sp_is_fraction_mono : MonoSp sp_is_fraction := ⟨fun {ds M Q Q'} h q => by
  unfold sp_is_fraction at q ⊢
  split at q
  · exact ⟨q.1, h _ _ q.2⟩
  · exact q⟩
theorem sp_fraction_of_mono : MonoSp sp_fraction_of := ⟨fun {ds M Q Q'} h q => by
  unfold sp_fraction_of at q ⊢
  split at q
  · exact ⟨q.1, q.2.1, h _ _ q.2.2⟩
  · exact q⟩
theorem spF2_mono {C : Int → Int → Int → Int → Prop} {r : Int → Int → Int → Int → D} : MonoSp (spF2 C r) := ⟨fun {ds M Q Q'} h q => by
  unfold spF2 at q ⊢
  split at q
  · exact ⟨q.1, q.2.1, h _ _ q.2.2⟩
  · exact q⟩
theorem body_is_integer (h : sp_is_integer ds M Q) : b_is_integer { nx := fun _ M' => Q .non M', rt := Q } (dstart ["value"] ds) M := by
  unfold sp_is_integer at h
  split at h
  · rename_i d
    obtain ⟨n, h⟩ := h
    cases d with
    | non => simp only [b_is_integer, dSeq, dNext, dIf, dRet, dRetN, dDrop, dAsg, gN, gN0, gNc, gTp, gSubL, dPar, dPar3, dAug, dVar, dC, dOp, dUn, dTest, dAnd, dOr, dNot, dAndV, dOrV, dNotV, dIfE, dNil, dCons, dTup, dLst, dCB, dCall, dstart, dget, dset, dwp, dclr, asB, pI0, pI, pU, pAdd, pMul, pEqB, pIsB, pIx, pCI, pC2, pInt, pIsi, pLen, optQ, stL, lstAt, lsOf, atI0, atI1, atI2, atI3, ixN0, ixN1, ixN2, ixN3, mupd_same, mupd_mupd, dFor, iRng, List.map_cons, List.map_nil, List.length_cons, List.length_nil, List.replicate, List.cons_append, List.nil_append, List.append_nil, List.set_cons_zero, List.set_cons_succ, Nat.reduceAdd, Nat.reduceSub, Nat.sub_self, if_true, if_false, decide_eq_true_eq, Bool.false_eq_true, Bool.not_true, Bool.not_false, id_eq, ite_true, ite_false, isi_non k_int, in2]; exact h
    | bl b => simp only [b_is_integer, dSeq, dNext, dIf, dRet, dRetN, dDrop, dAsg, gN, gN0, gNc, gTp, gSubL, dPar, dPar3, dAug, dVar, dC, dOp, dUn, dTest, dAnd, dOr, dNot, dAndV, dOrV, dNotV, dIfE, dNil, dCons, dTup, dLst, dCB, dCall, dstart, dget, dset, dwp, dclr, asB, pI0, pI, pU, pAdd, pMul, pEqB, pIsB, pIx, pCI, pC2, pInt, pIsi, pLen, optQ, stL, lstAt, lsOf, atI0, atI1, atI2, atI3, ixN0, ixN1, ixN2, ixN3, mupd_same, mupd_mupd, dFor, iRng, List.map_cons, List.map_nil, List.length_cons, List.length_nil, List.replicate, List.cons_append, List.nil_append, List.append_nil, List.set_cons_zero, List.set_cons_succ, Nat.reduceAdd, Nat.reduceSub, Nat.sub_self, if_true, if_false, decide_eq_true_eq, Bool.false_eq_true, Bool.not_true, Bool.not_false, id_eq, ite_true, ite_false, isi_bl k_int, isi_bl k_bool, ib1, ib2]; exact h
    | int b => simp only [b_is_integer, dSeq, dNext, dIf, dRet, dRetN, dDrop, dAsg, gN, gN0, gNc, gTp, gSubL, dPar, dPar3, dAug, dVar, dC, dOp, dUn, dTest, dAnd, dOr, dNot, dAndV, dOrV, dNotV, dIfE, dNil, dCons, dTup, dLst, dCB, dCall, dstart, dget, dset, dwp, dclr, asB, pI0, pI, pU, pAdd, pMul, pEqB, pIsB, pIx, pCI, pC2, pInt, pIsi, pLen, optQ, stL, lstAt, lsOf, atI0, atI1, atI2, atI3, ixN0, ixN1, ixN2, ixN3, mupd_same, mupd_mupd, dFor, iRng, List.map_cons, List.map_nil, List.length_cons, List.length_nil, List.replicate, List.cons_append, List.nil_append, List.append_nil, List.set_cons_zero, List.set_cons_succ, Nat.reduceAdd, Nat.reduceSub, Nat.sub_self, if_true, if_false, decide_eq_true_eq, Bool.false_eq_true, Bool.not_true, Bool.not_false, id_eq, ite_true, ite_false, isi_int k_int, isi_int k_bool, ii1, ii2]; exact h
    | str b => simp only [b_is_integer, dSeq, dNext, dIf, dRet, dRetN, dDrop, dAsg, gN, gN0, gNc, gTp, gSubL, dPar, dPar3, dAug, dVar, dC, dOp, dUn, dTest, dAnd, dOr, dNot, dAndV, dOrV, dNotV, dIfE, dNil, dCons, dTup, dLst, dCB, dCall, dstart, dget, dset, dwp, dclr, asB, pI0, pI, pU, pAdd, pMul, pEqB, pIsB, pIx, pCI, pC2, pInt, pIsi, pLen, optQ, stL, lstAt, lsOf, atI0, atI1, atI2, atI3, ixN0, ixN1, ixN2, ixN3, mupd_same, mupd_mupd, dFor, iRng, List.map_cons, List.map_nil, List.length_cons, List.length_nil, List.replicate, List.cons_append, List.nil_append, List.append_nil, List.set_cons_zero, List.set_cons_succ, Nat.reduceAdd, Nat.reduceSub, Nat.sub_self, if_true, if_false, decide_eq_true_eq, Bool.false_eq_true, Bool.not_true, Bool.not_false, id_eq, ite_true, ite_false, isi_str k_int, is2]; exact h
    | tup b => simp only [b_is_integer, dSeq, dNext, dIf, dRet, dRetN, dDrop, dAsg, gN, gN0, gNc, gTp, gSubL, dPar, dPar3, dAug, dVar, dC, dOp, dUn, dTest, dAnd, dOr, dNot, dAndV, dOrV, dNotV, dIfE, dNil, dCons, dTup, dLst, dCB, dCall, dstart, dget, dset, dwp, dclr, asB, pI0, pI, pU, pAdd, pMul, pEqB, pIsB, pIx, pCI, pC2, pInt, pIsi, pLen, optQ, stL, lstAt, lsOf, atI0, atI1, atI2, atI3, ixN0, ixN1, ixN2, ixN3, mupd_same, mupd_mupd, dFor, iRng, List.map_cons, List.map_nil, List.length_cons, List.length_nil, List.replicate, List.cons_append, List.nil_append, List.append_nil, List.set_cons_zero, List.set_cons_succ, Nat.reduceAdd, Nat.reduceSub, Nat.sub_self, if_true, if_false, decide_eq_true_eq, Bool.false_eq_true, Bool.not_true, Bool.not_false, id_eq, ite_true, ite_false, isi_tup k_int, it2]; exact h
    | ref a => exact n.elim
    | ty a => exact n.elim
    | kl a => exact n.elim
  · exact h.elim
theorem gcd_loop (c : DTT) (n : Nat) (m k : Nat) (E : DEnds) (hc : ∀ (τ : DS) (M : Mem) (x y : Int) (Q : Bool → Mem → Prop), 0 ≤ y → Q (decide (0 < y)) M → c [some (.int x), some (.int y)] M Q) (tb : DTS)
    (hb : ∀ (M : Mem) (m k : Nat) (E : DEnds), 0 < k → E.nx [some (.int k), some (.int (m % k : Nat))] M → tb E [some (.int m), some (.int k)] M)
    (h : E.nx [some (.int (Nat.gcd m k : Nat)), some (.int 0)] M) : dWhile c tb E [some (.int m), some (.int k)] M := by
  refine while_inv (I := fun n τ M' => M' = M ∧ ∃ u v : Nat, τ = [some (.int u), some (.int v)] ∧ v = n ∧ Nat.gcd u v = Nat.gcd m k) ?_ (n := k) ⟨rfl, m, k, rfl, rfl, rfl⟩
  rintro n τ M' X ⟨rfl, u, v, rfl, rfl, hg⟩ hX
  refine hc [] _ _ _ _ (by omega) ?_
  by_cases hv : (0 : Int) < v
  · rw [decide_eq_true hv, if_pos rfl]
    refine hb _ _ _ _ (by omega) (hX (u % v) _ _ (Nat.mod_lt _ (by omega)) ⟨rfl, v, u % v, rfl, rfl, ?_⟩)
    rw [← hg, Nat.gcd_comm v, ← Nat.gcd_rec, Nat.gcd_comm]
  · rw [decide_eq_false hv, if_neg (by decide)]
    have e : v = 0 := by omega
    subst e
    rw [Nat.gcd_zero_right] at hg
    subst hg
    exact h
theorem body_divisor_of (h : sp_divisor_of ds M Q) : b_divisor_of { nx := fun _ M' => Q .non M', rt := Q } (dstart ["one", "other"] ds) M := by
  unfold sp_divisor_of at h
  split at h
  · rename_i a b
    simp only [b_divisor_of, dSeq, dNext, dIf, dRet, dRetN, dDrop, dAsg, gN, gN0, gNc, gTp, gSubL, dPar, dPar3, dAug, dVar, dC, dOp, dUn, dTest, dAnd, dOr, dNot, dAndV, dOrV, dNotV, dIfE, dNil, dCons, dTup, dLst, dCB, dCall, dstart, dget, dset, dwp, dclr, asB, pI0, pI, pU, pAdd, pMul, pEqB, pIsB, pIx, pCI, pC2, pInt, pIsi, pLen, optQ, stL, lstAt, lsOf, atI0, atI1, atI2, atI3, ixN0, ixN1, ixN2, ixN3, mupd_same, mupd_mupd, dFor, iRng, List.map_cons, List.map_nil, List.length_cons, List.length_nil, List.replicate, List.cons_append, List.nil_append, List.append_nil, List.set_cons_zero, List.set_cons_succ, Nat.reduceAdd, Nat.reduceSub, Nat.sub_self, if_true, if_false, decide_eq_true_eq, Bool.false_eq_true, Bool.not_true, Bool.not_false, id_eq, ite_true, ite_false]
    refine gcd_loop _ 0 a.natAbs b.natAbs _ (fun τ M x y Q hy q => q) _ (fun M m k E hk q => ⟨by omega, ?_⟩) h
    have e : (m : Int).fmod k = (m % k : Nat) := by rw [Int.fmod_eq_emod_of_nonneg _ (by omega)]; rfl
    simp only [dSeq, dNext, dIf, dRet, dRetN, dDrop, dAsg, gN, gN0, gNc, gTp, gSubL, dPar, dPar3, dAug, dVar, dC, dOp, dUn, dTest, dAnd, dOr, dNot, dAndV, dOrV, dNotV, dIfE, dNil, dCons, dTup, dLst, dCB, dCall, dstart, dget, dset, dwp, dclr, asB, pI0, pI, pU, pAdd, pMul, pEqB, pIsB, pIx, pCI, pC2, pInt, pIsi, pLen, optQ, stL, lstAt, lsOf, atI0, atI1, atI2, atI3, ixN0, ixN1, ixN2, ixN3, mupd_same, mupd_mupd, dFor, iRng, List.map_cons, List.map_nil, List.length_cons, List.length_nil, List.replicate, List.cons_append, List.nil_append, List.append_nil, List.set_cons_zero, List.set_cons_succ, Nat.reduceAdd, Nat.reduceSub, Nat.sub_self, if_true, if_false, decide_eq_true_eq, Bool.false_eq_true, Bool.not_true, Bool.not_false, id_eq, ite_true, ite_false, e]
    exact q
  · exact h.elim
theorem body__law_gcd (h : sp_divisor_of ds M Q) : b__law_gcd { nx := fun _ M' => Q .non M', rt := Q } (dstart ["one", "other"] ds) M := by
  unfold sp_divisor_of at h
  split at h
  · rename_i a b
    simp only [b__law_gcd, dSeq, dNext, dIf, dRet, dRetN, dDrop, dAsg, gN, gN0, gNc, gTp, gSubL, dPar, dPar3, dAug, dVar, dC, dOp, dUn, dTest, dAnd, dOr, dNot, dAndV, dOrV, dNotV, dIfE, dNil, dCons, dTup, dLst, dCB, dCall, dstart, dget, dset, dwp, dclr, asB, pI0, pI, pU, pAdd, pMul, pEqB, pIsB, pIx, pCI, pC2, pInt, pIsi, pLen, optQ, stL, lstAt, lsOf, atI0, atI1, atI2, atI3, ixN0, ixN1, ixN2, ixN3, mupd_same, mupd_mupd, dFor, iRng, List.map_cons, List.map_nil, List.length_cons, List.length_nil, List.replicate, List.cons_append, List.nil_append, List.append_nil, List.set_cons_zero, List.set_cons_succ, Nat.reduceAdd, Nat.reduceSub, Nat.sub_self, if_true, if_false, decide_eq_true_eq, Bool.false_eq_true, Bool.not_true, Bool.not_false, id_eq, ite_true, ite_false]
    refine gcd_loop _ 0 a.natAbs b.natAbs _ (fun τ M x y Q hy q => ?_) _ (fun M m k E hk q => ⟨by omega, ?_⟩) h
    · by_cases e : y = 0
      · subst e; exact q
      · rw [decide_eq_true (show 0 < y by omega)] at q
        show Q (!decide (y = 0)) M
        rw [decide_eq_false e]; exact q
    · have e : (m : Int).fmod k = (m % k : Nat) := by rw [Int.fmod_eq_emod_of_nonneg _ (by omega)]; rfl
      simp only [dSeq, dNext, dIf, dRet, dRetN, dDrop, dAsg, gN, gN0, gNc, gTp, gSubL, dPar, dPar3, dAug, dVar, dC, dOp, dUn, dTest, dAnd, dOr, dNot, dAndV, dOrV, dNotV, dIfE, dNil, dCons, dTup, dLst, dCB, dCall, dstart, dget, dset, dwp, dclr, asB, pI0, pI, pU, pAdd, pMul, pEqB, pIsB, pIx, pCI, pC2, pInt, pIsi, pLen, optQ, stL, lstAt, lsOf, atI0, atI1, atI2, atI3, ixN0, ixN1, ixN2, ixN3, mupd_same, mupd_mupd, dFor, iRng, List.map_cons, List.map_nil, List.length_cons, List.length_nil, List.replicate, List.cons_append, List.nil_append, List.append_nil, List.set_cons_zero, List.set_cons_succ, Nat.reduceAdd, Nat.reduceSub, Nat.sub_self, if_true, if_false, decide_eq_true_eq, Bool.false_eq_true, Bool.not_true, Bool.not_false, id_eq, ite_true, ite_false, e]
      exact q
  · exact h.elim
theorem cdv_c {a b i : Int} (h : b ≠ 0) (hb : Bd 8000 b) : CDv i (cI a b) := by
  have hg := gcd_pos (a := a) h
  have hl : Int.gcd a b ≤ b.natAbs := Nat.le_of_dvd (by omega) (Int.gcd_dvd_natAbs_right a b)
  refine cdv_small ?_ (b := 8000) ?_ (by decide)
  · unfold cI; split <;> omega
  · refine Nat.lt_of_le_of_lt ?_ hb
    unfold cI; split <;> omega
theorem body_fraction_of (h : sp_fraction_of ds M Q) : b_fraction_of sp_divisor_of { nx := fun _ M' => Q .non M', rt := Q } (dstart ["top", "bottom", "common"] ds) M := by
  unfold sp_fraction_of at h
  split at h
  · rename_i a b
    obtain ⟨h0, hb, h⟩ := h
    have c1 := cdv_c (a := a) (i := a) h0 hb
    have c2 := cdv_c (a := a) (i := b) h0 hb
    simp only [b_fraction_of, dSeq, dNext, dIf, dRet, dRetN, dDrop, dAsg, gN, gN0, gNc, gTp, gSubL, dPar, dPar3, dAug, dVar, dC, dOp, dUn, dTest, dAnd, dOr, dNot, dAndV, dOrV, dNotV, dIfE, dNil, dCons, dTup, dLst, dCB, dCall, dstart, dget, dset, dwp, dclr, asB, pI0, pI, pU, pAdd, pMul, pEqB, pIsB, pIx, pCI, pC2, pInt, pIsi, pLen, optQ, stL, lstAt, lsOf, atI0, atI1, atI2, atI3, ixN0, ixN1, ixN2, ixN3, mupd_same, mupd_mupd, dFor, iRng, List.map_cons, List.map_nil, List.length_cons, List.length_nil, List.replicate, List.cons_append, List.nil_append, List.append_nil, List.set_cons_zero, List.set_cons_succ, Nat.reduceAdd, Nat.reduceSub, Nat.sub_self, if_true, if_false, decide_eq_true_eq, Bool.false_eq_true, Bool.not_true, Bool.not_false, id_eq, ite_true, ite_false, sp_divisor_of]
    unfold cI at c1 c2
    unfold fr lowI cI at h
    by_cases hn : b < 0
    · simp only [hn, dSeq, dNext, dIf, dRet, dRetN, dDrop, dAsg, gN, gN0, gNc, gTp, gSubL, dPar, dPar3, dAug, dVar, dC, dOp, dUn, dTest, dAnd, dOr, dNot, dAndV, dOrV, dNotV, dIfE, dNil, dCons, dTup, dLst, dCB, dCall, dstart, dget, dset, dwp, dclr, asB, pI0, pI, pU, pAdd, pMul, pEqB, pIsB, pIx, pCI, pC2, pInt, pIsi, pLen, optQ, stL, lstAt, lsOf, atI0, atI1, atI2, atI3, ixN0, ixN1, ixN2, ixN3, mupd_same, mupd_mupd, dFor, iRng, List.map_cons, List.map_nil, List.length_cons, List.length_nil, List.replicate, List.cons_append, List.nil_append, List.append_nil, List.set_cons_zero, List.set_cons_succ, Nat.reduceAdd, Nat.reduceSub, Nat.sub_self, if_true, if_false, decide_eq_true_eq, Bool.false_eq_true, Bool.not_true, Bool.not_false, id_eq, ite_true, ite_false] at c1 c2 h ⊢
      exact ⟨c1, c2, by decide, h⟩
    · simp only [hn, dSeq, dNext, dIf, dRet, dRetN, dDrop, dAsg, gN, gN0, gNc, gTp, gSubL, dPar, dPar3, dAug, dVar, dC, dOp, dUn, dTest, dAnd, dOr, dNot, dAndV, dOrV, dNotV, dIfE, dNil, dCons, dTup, dLst, dCB, dCall, dstart, dget, dset, dwp, dclr, asB, pI0, pI, pU, pAdd, pMul, pEqB, pIsB, pIx, pCI, pC2, pInt, pIsi, pLen, optQ, stL, lstAt, lsOf, atI0, atI1, atI2, atI3, ixN0, ixN1, ixN2, ixN3, mupd_same, mupd_mupd, dFor, iRng, List.map_cons, List.map_nil, List.length_cons, List.length_nil, List.replicate, List.cons_append, List.nil_append, List.append_nil, List.set_cons_zero, List.set_cons_succ, Nat.reduceAdd, Nat.reduceSub, Nat.sub_self, if_true, if_false, decide_eq_true_eq, Bool.false_eq_true, Bool.not_true, Bool.not_false, id_eq, ite_true, ite_false] at c1 c2 h ⊢
      exact ⟨c1, c2, by decide, h⟩
  · exact h.elim
theorem body__law_low (h : sp_fraction_of ds M Q) : b__law_low sp_divisor_of { nx := fun _ M' => Q .non M', rt := Q } (dstart ["top", "bottom", "common"] ds) M := by
  unfold sp_fraction_of at h
  split at h
  · rename_i a b
    obtain ⟨h0, hb, h⟩ := h
    have c1 := cdv_c (a := a) (i := a) h0 hb
    have c2 := cdv_c (a := a) (i := b) h0 hb
    simp only [b__law_low, dSeq, dNext, dIf, dRet, dRetN, dDrop, dAsg, gN, gN0, gNc, gTp, gSubL, dPar, dPar3, dAug, dVar, dC, dOp, dUn, dTest, dAnd, dOr, dNot, dAndV, dOrV, dNotV, dIfE, dNil, dCons, dTup, dLst, dCB, dCall, dstart, dget, dset, dwp, dclr, asB, pI0, pI, pU, pAdd, pMul, pEqB, pIsB, pIx, pCI, pC2, pInt, pIsi, pLen, optQ, stL, lstAt, lsOf, atI0, atI1, atI2, atI3, ixN0, ixN1, ixN2, ixN3, mupd_same, mupd_mupd, dFor, iRng, List.map_cons, List.map_nil, List.length_cons, List.length_nil, List.replicate, List.cons_append, List.nil_append, List.append_nil, List.set_cons_zero, List.set_cons_succ, Nat.reduceAdd, Nat.reduceSub, Nat.sub_self, if_true, if_false, decide_eq_true_eq, Bool.false_eq_true, Bool.not_true, Bool.not_false, id_eq, ite_true, ite_false, sp_divisor_of]
    unfold cI at c1 c2
    unfold fr lowI cI at h
    by_cases hn : b < 0
    · have hp : ¬ 0 < b := by omega
      simp only [hn, hp, dSeq, dNext, dIf, dRet, dRetN, dDrop, dAsg, gN, gN0, gNc, gTp, gSubL, dPar, dPar3, dAug, dVar, dC, dOp, dUn, dTest, dAnd, dOr, dNot, dAndV, dOrV, dNotV, dIfE, dNil, dCons, dTup, dLst, dCB, dCall, dstart, dget, dset, dwp, dclr, asB, pI0, pI, pU, pAdd, pMul, pEqB, pIsB, pIx, pCI, pC2, pInt, pIsi, pLen, optQ, stL, lstAt, lsOf, atI0, atI1, atI2, atI3, ixN0, ixN1, ixN2, ixN3, mupd_same, mupd_mupd, dFor, iRng, List.map_cons, List.map_nil, List.length_cons, List.length_nil, List.replicate, List.cons_append, List.nil_append, List.append_nil, List.set_cons_zero, List.set_cons_succ, Nat.reduceAdd, Nat.reduceSub, Nat.sub_self, if_true, if_false, decide_eq_true_eq, Bool.false_eq_true, Bool.not_true, Bool.not_false, id_eq, ite_true, ite_false, Int.zero_sub] at c1 c2 h ⊢
      exact ⟨c1, c2, by decide, h⟩
    · have hp : 0 < b := by omega
      simp only [hn, hp, dSeq, dNext, dIf, dRet, dRetN, dDrop, dAsg, gN, gN0, gNc, gTp, gSubL, dPar, dPar3, dAug, dVar, dC, dOp, dUn, dTest, dAnd, dOr, dNot, dAndV, dOrV, dNotV, dIfE, dNil, dCons, dTup, dLst, dCB, dCall, dstart, dget, dset, dwp, dclr, asB, pI0, pI, pU, pAdd, pMul, pEqB, pIsB, pIx, pCI, pC2, pInt, pIsi, pLen, optQ, stL, lstAt, lsOf, atI0, atI1, atI2, atI3, ixN0, ixN1, ixN2, ixN3, mupd_same, mupd_mupd, dFor, iRng, List.map_cons, List.map_nil, List.length_cons, List.length_nil, List.replicate, List.cons_append, List.nil_append, List.append_nil, List.set_cons_zero, List.set_cons_succ, Nat.reduceAdd, Nat.reduceSub, Nat.sub_self, if_true, if_false, decide_eq_true_eq, Bool.false_eq_true, Bool.not_true, Bool.not_false, id_eq, ite_true, ite_false] at c1 c2 h ⊢
      exact ⟨c1, c2, by decide, h⟩
  · exact h.elim
theorem body_is_fraction (h : sp_is_fraction ds M Q) : b_is_fraction sp_is_integer sp_divisor_of { nx := fun _ M' => Q .non M', rt := Q } (dstart ["value"] ds) M := by
  unfold sp_is_fraction at h
  split at h
  · rename_i d
    obtain ⟨n, h⟩ := h
    cases d with
    | non => simp only [b_is_fraction, dSeq, dNext, dIf, dRet, dRetN, dDrop, dAsg, gN, gN0, gNc, gTp, gSubL, dPar, dPar3, dAug, dVar, dC, dOp, dUn, dTest, dAnd, dOr, dNot, dAndV, dOrV, dNotV, dIfE, dNil, dCons, dTup, dLst, dCB, dCall, dstart, dget, dset, dwp, dclr, asB, pI0, pI, pU, pAdd, pMul, pEqB, pIsB, pIx, pCI, pC2, pInt, pIsi, pLen, optQ, stL, lstAt, lsOf, atI0, atI1, atI2, atI3, ixN0, ixN1, ixN2, ixN3, mupd_same, mupd_mupd, dFor, iRng, List.map_cons, List.map_nil, List.length_cons, List.length_nil, List.replicate, List.cons_append, List.nil_append, List.append_nil, List.set_cons_zero, List.set_cons_succ, Nat.reduceAdd, Nat.reduceSub, Nat.sub_self, if_true, if_false, decide_eq_true_eq, Bool.false_eq_true, Bool.not_true, Bool.not_false, id_eq, ite_true, ite_false, isi_non k_tuple, in4]; exact h
    | bl b => simp only [b_is_fraction, dSeq, dNext, dIf, dRet, dRetN, dDrop, dAsg, gN, gN0, gNc, gTp, gSubL, dPar, dPar3, dAug, dVar, dC, dOp, dUn, dTest, dAnd, dOr, dNot, dAndV, dOrV, dNotV, dIfE, dNil, dCons, dTup, dLst, dCB, dCall, dstart, dget, dset, dwp, dclr, asB, pI0, pI, pU, pAdd, pMul, pEqB, pIsB, pIx, pCI, pC2, pInt, pIsi, pLen, optQ, stL, lstAt, lsOf, atI0, atI1, atI2, atI3, ixN0, ixN1, ixN2, ixN3, mupd_same, mupd_mupd, dFor, iRng, List.map_cons, List.map_nil, List.length_cons, List.length_nil, List.replicate, List.cons_append, List.nil_append, List.append_nil, List.set_cons_zero, List.set_cons_succ, Nat.reduceAdd, Nat.reduceSub, Nat.sub_self, if_true, if_false, decide_eq_true_eq, Bool.false_eq_true, Bool.not_true, Bool.not_false, id_eq, ite_true, ite_false, isi_bl k_tuple, ib4]; exact h
    | int b => simp only [b_is_fraction, dSeq, dNext, dIf, dRet, dRetN, dDrop, dAsg, gN, gN0, gNc, gTp, gSubL, dPar, dPar3, dAug, dVar, dC, dOp, dUn, dTest, dAnd, dOr, dNot, dAndV, dOrV, dNotV, dIfE, dNil, dCons, dTup, dLst, dCB, dCall, dstart, dget, dset, dwp, dclr, asB, pI0, pI, pU, pAdd, pMul, pEqB, pIsB, pIx, pCI, pC2, pInt, pIsi, pLen, optQ, stL, lstAt, lsOf, atI0, atI1, atI2, atI3, ixN0, ixN1, ixN2, ixN3, mupd_same, mupd_mupd, dFor, iRng, List.map_cons, List.map_nil, List.length_cons, List.length_nil, List.replicate, List.cons_append, List.nil_append, List.append_nil, List.set_cons_zero, List.set_cons_succ, Nat.reduceAdd, Nat.reduceSub, Nat.sub_self, if_true, if_false, decide_eq_true_eq, Bool.false_eq_true, Bool.not_true, Bool.not_false, id_eq, ite_true, ite_false, isi_int k_tuple, ii4]; exact h
    | str b => simp only [b_is_fraction, dSeq, dNext, dIf, dRet, dRetN, dDrop, dAsg, gN, gN0, gNc, gTp, gSubL, dPar, dPar3, dAug, dVar, dC, dOp, dUn, dTest, dAnd, dOr, dNot, dAndV, dOrV, dNotV, dIfE, dNil, dCons, dTup, dLst, dCB, dCall, dstart, dget, dset, dwp, dclr, asB, pI0, pI, pU, pAdd, pMul, pEqB, pIsB, pIx, pCI, pC2, pInt, pIsi, pLen, optQ, stL, lstAt, lsOf, atI0, atI1, atI2, atI3, ixN0, ixN1, ixN2, ixN3, mupd_same, mupd_mupd, dFor, iRng, List.map_cons, List.map_nil, List.length_cons, List.length_nil, List.replicate, List.cons_append, List.nil_append, List.append_nil, List.set_cons_zero, List.set_cons_succ, Nat.reduceAdd, Nat.reduceSub, Nat.sub_self, if_true, if_false, decide_eq_true_eq, Bool.false_eq_true, Bool.not_true, Bool.not_false, id_eq, ite_true, ite_false, isi_str k_tuple, is4]; exact h
    | ty a => exact n.elim
    | kl a => exact n.elim
    | ref a =>
      have e : isiD M (.ref a) "tuple" = some false := by
        rcases n with n | n
        · rw [isiD_eq n ⟨k_list, k_tuple⟩]; decide
        · rw [isiD_eq n ⟨k_dict, k_tuple⟩]; decide
      simp only [b_is_fraction, dSeq, dNext, dIf, dRet, dRetN, dDrop, dAsg, gN, gN0, gNc, gTp, gSubL, dPar, dPar3, dAug, dVar, dC, dOp, dUn, dTest, dAnd, dOr, dNot, dAndV, dOrV, dNotV, dIfE, dNil, dCons, dTup, dLst, dCB, dCall, dstart, dget, dset, dwp, dclr, asB, pI0, pI, pU, pAdd, pMul, pEqB, pIsB, pIx, pCI, pC2, pInt, pIsi, pLen, optQ, stL, lstAt, lsOf, atI0, atI1, atI2, atI3, ixN0, ixN1, ixN2, ixN3, mupd_same, mupd_mupd, dFor, iRng, List.map_cons, List.map_nil, List.length_cons, List.length_nil, List.replicate, List.cons_append, List.nil_append, List.append_nil, List.set_cons_zero, List.set_cons_succ, Nat.reduceAdd, Nat.reduceSub, Nat.sub_self, if_true, if_false, decide_eq_true_eq, Bool.false_eq_true, Bool.not_true, Bool.not_false, id_eq, ite_true, ite_false, e]; exact h
    | tup es =>
      match es, n, h with
      | [], n, h => simp only [b_is_fraction, dSeq, dNext, dIf, dRet, dRetN, dDrop, dAsg, gN, gN0, gNc, gTp, gSubL, dPar, dPar3, dAug, dVar, dC, dOp, dUn, dTest, dAnd, dOr, dNot, dAndV, dOrV, dNotV, dIfE, dNil, dCons, dTup, dLst, dCB, dCall, dstart, dget, dset, dwp, dclr, asB, pI0, pI, pU, pAdd, pMul, pEqB, pIsB, pIx, pCI, pC2, pInt, pIsi, pLen, optQ, stL, lstAt, lsOf, atI0, atI1, atI2, atI3, ixN0, ixN1, ixN2, ixN3, mupd_same, mupd_mupd, dFor, iRng, List.map_cons, List.map_nil, List.length_cons, List.length_nil, List.replicate, List.cons_append, List.nil_append, List.append_nil, List.set_cons_zero, List.set_cons_succ, Nat.reduceAdd, Nat.reduceSub, Nat.sub_self, if_true, if_false, decide_eq_true_eq, Bool.false_eq_true, Bool.not_true, Bool.not_false, id_eq, ite_true, ite_false, isi_tup k_tuple, it4]; exact h
      | [x], n, h =>
        have e : decide (((0 + 1 : Nat) : Int) = 2) = false := by decide
        have f : isFrac (.tup [x]) = false := by cases x <;> rfl
        rw [f] at h
        simp only [b_is_fraction, dSeq, dNext, dIf, dRet, dRetN, dDrop, dAsg, gN, gN0, gNc, gTp, gSubL, dPar, dPar3, dAug, dVar, dC, dOp, dUn, dTest, dAnd, dOr, dNot, dAndV, dOrV, dNotV, dIfE, dNil, dCons, dTup, dLst, dCB, dCall, dstart, dget, dset, dwp, dclr, asB, pI0, pI, pU, pAdd, pMul, pEqB, pIsB, pIx, pCI, pC2, pInt, pIsi, pLen, optQ, stL, lstAt, lsOf, atI0, atI1, atI2, atI3, ixN0, ixN1, ixN2, ixN3, mupd_same, mupd_mupd, dFor, iRng, List.map_cons, List.map_nil, List.length_cons, List.length_nil, List.replicate, List.cons_append, List.nil_append, List.append_nil, List.set_cons_zero, List.set_cons_succ, Nat.reduceAdd, Nat.reduceSub, Nat.sub_self, if_true, if_false, decide_eq_true_eq, Bool.false_eq_true, Bool.not_true, Bool.not_false, id_eq, ite_true, ite_false, isi_tup k_tuple, it4, e]; exact h
      | x :: y :: z :: r, n, h =>
        have e : decide (((r.length + 1 + 1 + 1 : Nat) : Int) = 2) = false := decide_eq_false (by omega)
        have f : isFrac (.tup (x :: y :: z :: r)) = false := by cases x <;> try rfl
                                                                cases y <;> rfl
        rw [f] at h
        simp only [b_is_fraction, dSeq, dNext, dIf, dRet, dRetN, dDrop, dAsg, gN, gN0, gNc, gTp, gSubL, dPar, dPar3, dAug, dVar, dC, dOp, dUn, dTest, dAnd, dOr, dNot, dAndV, dOrV, dNotV, dIfE, dNil, dCons, dTup, dLst, dCB, dCall, dstart, dget, dset, dwp, dclr, asB, pI0, pI, pU, pAdd, pMul, pEqB, pIsB, pIx, pCI, pC2, pInt, pIsi, pLen, optQ, stL, lstAt, lsOf, atI0, atI1, atI2, atI3, ixN0, ixN1, ixN2, ixN3, mupd_same, mupd_mupd, dFor, iRng, List.map_cons, List.map_nil, List.length_cons, List.length_nil, List.replicate, List.cons_append, List.nil_append, List.append_nil, List.set_cons_zero, List.set_cons_succ, Nat.reduceAdd, Nat.reduceSub, Nat.sub_self, if_true, if_false, decide_eq_true_eq, Bool.false_eq_true, Bool.not_true, Bool.not_false, id_eq, ite_true, ite_false, isi_tup k_tuple, it4, e]; exact h
      | [x, y], n, h =>
        have e : decide (((0 + 1 + 1 : Nat) : Int) = 2) = true := by decide
        simp only [b_is_fraction, dSeq, dNext, dIf, dRet, dRetN, dDrop, dAsg, gN, gN0, gNc, gTp, gSubL, dPar, dPar3, dAug, dVar, dC, dOp, dUn, dTest, dAnd, dOr, dNot, dAndV, dOrV, dNotV, dIfE, dNil, dCons, dTup, dLst, dCB, dCall, dstart, dget, dset, dwp, dclr, asB, pI0, pI, pU, pAdd, pMul, pEqB, pIsB, pIx, pCI, pC2, pInt, pIsi, pLen, optQ, stL, lstAt, lsOf, atI0, atI1, atI2, atI3, ixN0, ixN1, ixN2, ixN3, mupd_same, mupd_mupd, dFor, iRng, List.map_cons, List.map_nil, List.length_cons, List.length_nil, List.replicate, List.cons_append, List.nil_append, List.append_nil, List.set_cons_zero, List.set_cons_succ, Nat.reduceAdd, Nat.reduceSub, Nat.sub_self, if_true, if_false, decide_eq_true_eq, Bool.false_eq_true, Bool.not_true, Bool.not_false, id_eq, ite_true, ite_false, isi_tup k_tuple, it4, e, sp_is_integer]
        refine ⟨n.1, ?_⟩
        cases x with
        | int a =>
          simp only [isInt, dSeq, dNext, dIf, dRet, dRetN, dDrop, dAsg, gN, gN0, gNc, gTp, gSubL, dPar, dPar3, dAug, dVar, dC, dOp, dUn, dTest, dAnd, dOr, dNot, dAndV, dOrV, dNotV, dIfE, dNil, dCons, dTup, dLst, dCB, dCall, dstart, dget, dset, dwp, dclr, asB, pI0, pI, pU, pAdd, pMul, pEqB, pIsB, pIx, pCI, pC2, pInt, pIsi, pLen, optQ, stL, lstAt, lsOf, atI0, atI1, atI2, atI3, ixN0, ixN1, ixN2, ixN3, mupd_same, mupd_mupd, dFor, iRng, List.map_cons, List.map_nil, List.length_cons, List.length_nil, List.replicate, List.cons_append, List.nil_append, List.append_nil, List.set_cons_zero, List.set_cons_succ, Nat.reduceAdd, Nat.reduceSub, Nat.sub_self, if_true, if_false, decide_eq_true_eq, Bool.false_eq_true, Bool.not_true, Bool.not_false, id_eq, ite_true, ite_false]
          refine ⟨n.2, ?_⟩
          cases y with
          | int b =>
            simp only [isInt, dSeq, dNext, dIf, dRet, dRetN, dDrop, dAsg, gN, gN0, gNc, gTp, gSubL, dPar, dPar3, dAug, dVar, dC, dOp, dUn, dTest, dAnd, dOr, dNot, dAndV, dOrV, dNotV, dIfE, dNil, dCons, dTup, dLst, dCB, dCall, dstart, dget, dset, dwp, dclr, asB, pI0, pI, pU, pAdd, pMul, pEqB, pIsB, pIx, pCI, pC2, pInt, pIsi, pLen, optQ, stL, lstAt, lsOf, atI0, atI1, atI2, atI3, ixN0, ixN1, ixN2, ixN3, mupd_same, mupd_mupd, dFor, iRng, List.map_cons, List.map_nil, List.length_cons, List.length_nil, List.replicate, List.cons_append, List.nil_append, List.append_nil, List.set_cons_zero, List.set_cons_succ, Nat.reduceAdd, Nat.reduceSub, Nat.sub_self, if_true, if_false, decide_eq_true_eq, Bool.false_eq_true, Bool.not_true, Bool.not_false, id_eq, ite_true, ite_false, sp_divisor_of]
            by_cases hp : 0 < b
            · simp only [isFrac, hp, dSeq, dNext, dIf, dRet, dRetN, dDrop, dAsg, gN, gN0, gNc, gTp, gSubL, dPar, dPar3, dAug, dVar, dC, dOp, dUn, dTest, dAnd, dOr, dNot, dAndV, dOrV, dNotV, dIfE, dNil, dCons, dTup, dLst, dCB, dCall, dstart, dget, dset, dwp, dclr, asB, pI0, pI, pU, pAdd, pMul, pEqB, pIsB, pIx, pCI, pC2, pInt, pIsi, pLen, optQ, stL, lstAt, lsOf, atI0, atI1, atI2, atI3, ixN0, ixN1, ixN2, ixN3, mupd_same, mupd_mupd, dFor, iRng, List.map_cons, List.map_nil, List.length_cons, List.length_nil, List.replicate, List.cons_append, List.nil_append, List.append_nil, List.set_cons_zero, List.set_cons_succ, Nat.reduceAdd, Nat.reduceSub, Nat.sub_self, if_true, if_false, decide_eq_true_eq, Bool.false_eq_true, Bool.not_true, Bool.not_false, id_eq, ite_true, ite_false, decide_true, Bool.true_and] at h ⊢
              have e : decide (((Int.gcd a b : Nat) : Int) = 1) = decide (Int.gcd a b = 1) := by
                by_cases z : Int.gcd a b = 1
                · rw [z]; decide
                · rw [decide_eq_false z, decide_eq_false (by omega)]
              rw [e]; exact h
            · simp only [isFrac, hp, dSeq, dNext, dIf, dRet, dRetN, dDrop, dAsg, gN, gN0, gNc, gTp, gSubL, dPar, dPar3, dAug, dVar, dC, dOp, dUn, dTest, dAnd, dOr, dNot, dAndV, dOrV, dNotV, dIfE, dNil, dCons, dTup, dLst, dCB, dCall, dstart, dget, dset, dwp, dclr, asB, pI0, pI, pU, pAdd, pMul, pEqB, pIsB, pIx, pCI, pC2, pInt, pIsi, pLen, optQ, stL, lstAt, lsOf, atI0, atI1, atI2, atI3, ixN0, ixN1, ixN2, ixN3, mupd_same, mupd_mupd, dFor, iRng, List.map_cons, List.map_nil, List.length_cons, List.length_nil, List.replicate, List.cons_append, List.nil_append, List.append_nil, List.set_cons_zero, List.set_cons_succ, Nat.reduceAdd, Nat.reduceSub, Nat.sub_self, if_true, if_false, decide_eq_true_eq, Bool.false_eq_true, Bool.not_true, Bool.not_false, id_eq, ite_true, ite_false, decide_false, Bool.false_and] at h ⊢
              exact h
          | non => simp only [isInt, dSeq, dNext, dIf, dRet, dRetN, dDrop, dAsg, gN, gN0, gNc, gTp, gSubL, dPar, dPar3, dAug, dVar, dC, dOp, dUn, dTest, dAnd, dOr, dNot, dAndV, dOrV, dNotV, dIfE, dNil, dCons, dTup, dLst, dCB, dCall, dstart, dget, dset, dwp, dclr, asB, pI0, pI, pU, pAdd, pMul, pEqB, pIsB, pIx, pCI, pC2, pInt, pIsi, pLen, optQ, stL, lstAt, lsOf, atI0, atI1, atI2, atI3, ixN0, ixN1, ixN2, ixN3, mupd_same, mupd_mupd, dFor, iRng, List.map_cons, List.map_nil, List.length_cons, List.length_nil, List.replicate, List.cons_append, List.nil_append, List.append_nil, List.set_cons_zero, List.set_cons_succ, Nat.reduceAdd, Nat.reduceSub, Nat.sub_self, if_true, if_false, decide_eq_true_eq, Bool.false_eq_true, Bool.not_true, Bool.not_false, id_eq, ite_true, ite_false]; exact h
          | bl b => simp only [isInt, dSeq, dNext, dIf, dRet, dRetN, dDrop, dAsg, gN, gN0, gNc, gTp, gSubL, dPar, dPar3, dAug, dVar, dC, dOp, dUn, dTest, dAnd, dOr, dNot, dAndV, dOrV, dNotV, dIfE, dNil, dCons, dTup, dLst, dCB, dCall, dstart, dget, dset, dwp, dclr, asB, pI0, pI, pU, pAdd, pMul, pEqB, pIsB, pIx, pCI, pC2, pInt, pIsi, pLen, optQ, stL, lstAt, lsOf, atI0, atI1, atI2, atI3, ixN0, ixN1, ixN2, ixN3, mupd_same, mupd_mupd, dFor, iRng, List.map_cons, List.map_nil, List.length_cons, List.length_nil, List.replicate, List.cons_append, List.nil_append, List.append_nil, List.set_cons_zero, List.set_cons_succ, Nat.reduceAdd, Nat.reduceSub, Nat.sub_self, if_true, if_false, decide_eq_true_eq, Bool.false_eq_true, Bool.not_true, Bool.not_false, id_eq, ite_true, ite_false]; exact h
          | str b => simp only [isInt, dSeq, dNext, dIf, dRet, dRetN, dDrop, dAsg, gN, gN0, gNc, gTp, gSubL, dPar, dPar3, dAug, dVar, dC, dOp, dUn, dTest, dAnd, dOr, dNot, dAndV, dOrV, dNotV, dIfE, dNil, dCons, dTup, dLst, dCB, dCall, dstart, dget, dset, dwp, dclr, asB, pI0, pI, pU, pAdd, pMul, pEqB, pIsB, pIx, pCI, pC2, pInt, pIsi, pLen, optQ, stL, lstAt, lsOf, atI0, atI1, atI2, atI3, ixN0, ixN1, ixN2, ixN3, mupd_same, mupd_mupd, dFor, iRng, List.map_cons, List.map_nil, List.length_cons, List.length_nil, List.replicate, List.cons_append, List.nil_append, List.append_nil, List.set_cons_zero, List.set_cons_succ, Nat.reduceAdd, Nat.reduceSub, Nat.sub_self, if_true, if_false, decide_eq_true_eq, Bool.false_eq_true, Bool.not_true, Bool.not_false, id_eq, ite_true, ite_false]; exact h
          | tup b => simp only [isInt, dSeq, dNext, dIf, dRet, dRetN, dDrop, dAsg, gN, gN0, gNc, gTp, gSubL, dPar, dPar3, dAug, dVar, dC, dOp, dUn, dTest, dAnd, dOr, dNot, dAndV, dOrV, dNotV, dIfE, dNil, dCons, dTup, dLst, dCB, dCall, dstart, dget, dset, dwp, dclr, asB, pI0, pI, pU, pAdd, pMul, pEqB, pIsB, pIx, pCI, pC2, pInt, pIsi, pLen, optQ, stL, lstAt, lsOf, atI0, atI1, atI2, atI3, ixN0, ixN1, ixN2, ixN3, mupd_same, mupd_mupd, dFor, iRng, List.map_cons, List.map_nil, List.length_cons, List.length_nil, List.replicate, List.cons_append, List.nil_append, List.append_nil, List.set_cons_zero, List.set_cons_succ, Nat.reduceAdd, Nat.reduceSub, Nat.sub_self, if_true, if_false, decide_eq_true_eq, Bool.false_eq_true, Bool.not_true, Bool.not_false, id_eq, ite_true, ite_false]; exact h
          | ref a => exact n.2.elim
          | ty a => exact n.2.elim
          | kl a => exact n.2.elim
        | non => simp only [isInt, dSeq, dNext, dIf, dRet, dRetN, dDrop, dAsg, gN, gN0, gNc, gTp, gSubL, dPar, dPar3, dAug, dVar, dC, dOp, dUn, dTest, dAnd, dOr, dNot, dAndV, dOrV, dNotV, dIfE, dNil, dCons, dTup, dLst, dCB, dCall, dstart, dget, dset, dwp, dclr, asB, pI0, pI, pU, pAdd, pMul, pEqB, pIsB, pIx, pCI, pC2, pInt, pIsi, pLen, optQ, stL, lstAt, lsOf, atI0, atI1, atI2, atI3, ixN0, ixN1, ixN2, ixN3, mupd_same, mupd_mupd, dFor, iRng, List.map_cons, List.map_nil, List.length_cons, List.length_nil, List.replicate, List.cons_append, List.nil_append, List.append_nil, List.set_cons_zero, List.set_cons_succ, Nat.reduceAdd, Nat.reduceSub, Nat.sub_self, if_true, if_false, decide_eq_true_eq, Bool.false_eq_true, Bool.not_true, Bool.not_false, id_eq, ite_true, ite_false]; exact h
        | bl b => simp only [isInt, dSeq, dNext, dIf, dRet, dRetN, dDrop, dAsg, gN, gN0, gNc, gTp, gSubL, dPar, dPar3, dAug, dVar, dC, dOp, dUn, dTest, dAnd, dOr, dNot, dAndV, dOrV, dNotV, dIfE, dNil, dCons, dTup, dLst, dCB, dCall, dstart, dget, dset, dwp, dclr, asB, pI0, pI, pU, pAdd, pMul, pEqB, pIsB, pIx, pCI, pC2, pInt, pIsi, pLen, optQ, stL, lstAt, lsOf, atI0, atI1, atI2, atI3, ixN0, ixN1, ixN2, ixN3, mupd_same, mupd_mupd, dFor, iRng, List.map_cons, List.map_nil, List.length_cons, List.length_nil, List.replicate, List.cons_append, List.nil_append, List.append_nil, List.set_cons_zero, List.set_cons_succ, Nat.reduceAdd, Nat.reduceSub, Nat.sub_self, if_true, if_false, decide_eq_true_eq, Bool.false_eq_true, Bool.not_true, Bool.not_false, id_eq, ite_true, ite_false]; exact h
        | str b => simp only [isInt, dSeq, dNext, dIf, dRet, dRetN, dDrop, dAsg, gN, gN0, gNc, gTp, gSubL, dPar, dPar3, dAug, dVar, dC, dOp, dUn, dTest, dAnd, dOr, dNot, dAndV, dOrV, dNotV, dIfE, dNil, dCons, dTup, dLst, dCB, dCall, dstart, dget, dset, dwp, dclr, asB, pI0, pI, pU, pAdd, pMul, pEqB, pIsB, pIx, pCI, pC2, pInt, pIsi, pLen, optQ, stL, lstAt, lsOf, atI0, atI1, atI2, atI3, ixN0, ixN1, ixN2, ixN3, mupd_same, mupd_mupd, dFor, iRng, List.map_cons, List.map_nil, List.length_cons, List.length_nil, List.replicate, List.cons_append, List.nil_append, List.append_nil, List.set_cons_zero, List.set_cons_succ, Nat.reduceAdd, Nat.reduceSub, Nat.sub_self, if_true, if_false, decide_eq_true_eq, Bool.false_eq_true, Bool.not_true, Bool.not_false, id_eq, ite_true, ite_false]; exact h
        | tup b => simp only [isInt, dSeq, dNext, dIf, dRet, dRetN, dDrop, dAsg, gN, gN0, gNc, gTp, gSubL, dPar, dPar3, dAug, dVar, dC, dOp, dUn, dTest, dAnd, dOr, dNot, dAndV, dOrV, dNotV, dIfE, dNil, dCons, dTup, dLst, dCB, dCall, dstart, dget, dset, dwp, dclr, asB, pI0, pI, pU, pAdd, pMul, pEqB, pIsB, pIx, pCI, pC2, pInt, pIsi, pLen, optQ, stL, lstAt, lsOf, atI0, atI1, atI2, atI3, ixN0, ixN1, ixN2, ixN3, mupd_same, mupd_mupd, dFor, iRng, List.map_cons, List.map_nil, List.length_cons, List.length_nil, List.replicate, List.cons_append, List.nil_append, List.append_nil, List.set_cons_zero, List.set_cons_succ, Nat.reduceAdd, Nat.reduceSub, Nat.sub_self, if_true, if_false, decide_eq_true_eq, Bool.false_eq_true, Bool.not_true, Bool.not_false, id_eq, ite_true, ite_false]; exact h
        | ref a => exact n.1.elim
        | ty a => exact n.1.elim
        | kl a => exact n.1.elim
  · exact h.elim
end
end K07

namespace K07
open PySem PySem.Spec PyProof.Rows L2 DL
theorem SubE.newT {a p : Addr} {M M' : Mem} {o : MO} (h : SubE a M M') (hp : M' p = none) : SubE a M (mupd M' p o) := fun x u n e => by
  have e' := h x u n e
  rw [mupd_ne (fun z => by subst z; rw [e'] at hp; cases hp)]; exact e'
theorem low_bd {a b : Int} {k : Nat} (h : b ≠ 0) (ha : Bd k a) (hb : Bd k b) : Bd k (lowI a b).1 ∧ Bd k (lowI a b).2 := by
  have l := lowI_le (a := a) h
  exact ⟨ha.le l.1, hb.le l.2⟩
theorem mul_ne {a b : Int} (ha : a ≠ 0) (hb : b ≠ 0) : a * b ≠ 0 := Int.mul_ne_zero ha hb
section
variable {ds : List D} {M : Mem} {Q : DQ}
theorem body_plus (h : sp_plus ds M Q) : b_plus sp_fraction_of { nx := fun _ M' => Q .non M', rt := Q } (dstart ["one", "other"] ds) M := by
  unfold sp_plus spF2 at h
  split at h
  · rename_i a b c d
    obtain ⟨⟨b0, d0, ha, hb, hc, hd⟩, _, h⟩ := h
    simp only [b_plus, dSeq, dNext, dIf, dRet, dRetN, dDrop, dAsg, gN, gN0, gNc, gTp, gSubL, dPar, dPar3, dAug, dVar, dC, dOp, dUn, dTest, dAnd, dOr, dNot, dAndV, dOrV, dNotV, dIfE, dNil, dCons, dTup, dLst, dCB, dCall, dstart, dget, dset, dwp, dclr, asB, pI0, pI, pU, pAdd, pMul, pEqB, pIsB, pIx, pCI, pC2, pInt, pIsi, pLen, optQ, stL, lstAt, lsOf, atI0, atI1, atI2, atI3, ixN0, ixN1, ixN2, ixN3, mupd_same, mupd_mupd, dFor, iRng, List.map_cons, List.map_nil, List.length_cons, List.length_nil, List.replicate, List.cons_append, List.nil_append, List.append_nil, List.set_cons_zero, List.set_cons_succ, Nat.reduceAdd, Nat.reduceSub, Nat.sub_self, if_true, if_false, decide_eq_true_eq, Bool.false_eq_true, Bool.not_true, Bool.not_false, id_eq, ite_true, ite_false, sp_fraction_of]
    have tail : CMulX a d ∧ CMulX c b ∧ CMulX b d ∧ b * d ≠ 0 ∧ Bd 8000 (b * d) ∧ Q (fr (lowI (a * d + c * b) (b * d))) M :=
      ⟨ha.mulx hd (by decide), hc.mulx hb (by decide), hb.mulx hd (by decide), mul_ne b0 d0, (hb.mul hd).mono (by decide), h⟩
    by_cases e1 : b = 1
    · by_cases e2 : d = 1
      · subst e1; subst e2
        simp only [dSeq, dNext, dIf, dRet, dRetN, dDrop, dAsg, gN, gN0, gNc, gTp, gSubL, dPar, dPar3, dAug, dVar, dC, dOp, dUn, dTest, dAnd, dOr, dNot, dAndV, dOrV, dNotV, dIfE, dNil, dCons, dTup, dLst, dCB, dCall, dstart, dget, dset, dwp, dclr, asB, pI0, pI, pU, pAdd, pMul, pEqB, pIsB, pIx, pCI, pC2, pInt, pIsi, pLen, optQ, stL, lstAt, lsOf, atI0, atI1, atI2, atI3, ixN0, ixN1, ixN2, ixN3, mupd_same, mupd_mupd, dFor, iRng, List.map_cons, List.map_nil, List.length_cons, List.length_nil, List.replicate, List.cons_append, List.nil_append, List.append_nil, List.set_cons_zero, List.set_cons_succ, Nat.reduceAdd, Nat.reduceSub, Nat.sub_self, if_true, if_false, decide_eq_true_eq, Bool.false_eq_true, Bool.not_true, Bool.not_false, id_eq, ite_true, ite_false, decide_true]
        refine ⟨by decide, ?_⟩
        simp only [Int.mul_one, lowI_one] at h
        exact h
      · simp only [e1, e2, dSeq, dNext, dIf, dRet, dRetN, dDrop, dAsg, gN, gN0, gNc, gTp, gSubL, dPar, dPar3, dAug, dVar, dC, dOp, dUn, dTest, dAnd, dOr, dNot, dAndV, dOrV, dNotV, dIfE, dNil, dCons, dTup, dLst, dCB, dCall, dstart, dget, dset, dwp, dclr, asB, pI0, pI, pU, pAdd, pMul, pEqB, pIsB, pIx, pCI, pC2, pInt, pIsi, pLen, optQ, stL, lstAt, lsOf, atI0, atI1, atI2, atI3, ixN0, ixN1, ixN2, ixN3, mupd_same, mupd_mupd, dFor, iRng, List.map_cons, List.map_nil, List.length_cons, List.length_nil, List.replicate, List.cons_append, List.nil_append, List.append_nil, List.set_cons_zero, List.set_cons_succ, Nat.reduceAdd, Nat.reduceSub, Nat.sub_self, if_true, if_false, decide_eq_true_eq, Bool.false_eq_true, Bool.not_true, Bool.not_false, id_eq, ite_true, ite_false] at tail ⊢
        exact tail
    · simp only [e1, dSeq, dNext, dIf, dRet, dRetN, dDrop, dAsg, gN, gN0, gNc, gTp, gSubL, dPar, dPar3, dAug, dVar, dC, dOp, dUn, dTest, dAnd, dOr, dNot, dAndV, dOrV, dNotV, dIfE, dNil, dCons, dTup, dLst, dCB, dCall, dstart, dget, dset, dwp, dclr, asB, pI0, pI, pU, pAdd, pMul, pEqB, pIsB, pIx, pCI, pC2, pInt, pIsi, pLen, optQ, stL, lstAt, lsOf, atI0, atI1, atI2, atI3, ixN0, ixN1, ixN2, ixN3, mupd_same, mupd_mupd, dFor, iRng, List.map_cons, List.map_nil, List.length_cons, List.length_nil, List.replicate, List.cons_append, List.nil_append, List.append_nil, List.set_cons_zero, List.set_cons_succ, Nat.reduceAdd, Nat.reduceSub, Nat.sub_self, if_true, if_false, decide_eq_true_eq, Bool.false_eq_true, Bool.not_true, Bool.not_false, id_eq, ite_true, ite_false] at tail ⊢
      exact tail
  · exact h.elim
theorem body_times (h : sp_times ds M Q) : b_times sp_fraction_of { nx := fun _ M' => Q .non M', rt := Q } (dstart ["one", "other"] ds) M := by
  unfold sp_times spF2 at h
  split at h
  · rename_i a b c d
    obtain ⟨⟨b0, d0, ha, hb, hc, hd⟩, _, h⟩ := h
    simp only [b_times, dSeq, dNext, dIf, dRet, dRetN, dDrop, dAsg, gN, gN0, gNc, gTp, gSubL, dPar, dPar3, dAug, dVar, dC, dOp, dUn, dTest, dAnd, dOr, dNot, dAndV, dOrV, dNotV, dIfE, dNil, dCons, dTup, dLst, dCB, dCall, dstart, dget, dset, dwp, dclr, asB, pI0, pI, pU, pAdd, pMul, pEqB, pIsB, pIx, pCI, pC2, pInt, pIsi, pLen, optQ, stL, lstAt, lsOf, atI0, atI1, atI2, atI3, ixN0, ixN1, ixN2, ixN3, mupd_same, mupd_mupd, dFor, iRng, List.map_cons, List.map_nil, List.length_cons, List.length_nil, List.replicate, List.cons_append, List.nil_append, List.append_nil, List.set_cons_zero, List.set_cons_succ, Nat.reduceAdd, Nat.reduceSub, Nat.sub_self, if_true, if_false, decide_eq_true_eq, Bool.false_eq_true, Bool.not_true, Bool.not_false, id_eq, ite_true, ite_false, sp_fraction_of]
    have tail : CMulX a c ∧ CMulX b d ∧ b * d ≠ 0 ∧ Bd 8000 (b * d) ∧ Q (fr (lowI (a * c) (b * d))) M :=
      ⟨ha.mulx hc (by decide), hb.mulx hd (by decide), mul_ne b0 d0, (hb.mul hd).mono (by decide), h⟩
    by_cases e1 : b = 1
    · by_cases e2 : d = 1
      · subst e1; subst e2
        simp only [dSeq, dNext, dIf, dRet, dRetN, dDrop, dAsg, gN, gN0, gNc, gTp, gSubL, dPar, dPar3, dAug, dVar, dC, dOp, dUn, dTest, dAnd, dOr, dNot, dAndV, dOrV, dNotV, dIfE, dNil, dCons, dTup, dLst, dCB, dCall, dstart, dget, dset, dwp, dclr, asB, pI0, pI, pU, pAdd, pMul, pEqB, pIsB, pIx, pCI, pC2, pInt, pIsi, pLen, optQ, stL, lstAt, lsOf, atI0, atI1, atI2, atI3, ixN0, ixN1, ixN2, ixN3, mupd_same, mupd_mupd, dFor, iRng, List.map_cons, List.map_nil, List.length_cons, List.length_nil, List.replicate, List.cons_append, List.nil_append, List.append_nil, List.set_cons_zero, List.set_cons_succ, Nat.reduceAdd, Nat.reduceSub, Nat.sub_self, if_true, if_false, decide_eq_true_eq, Bool.false_eq_true, Bool.not_true, Bool.not_false, id_eq, ite_true, ite_false, decide_true]
        refine ⟨tail.1, by decide, ?_⟩
        simp only [Int.mul_one, lowI_one] at h
        exact h
      · simp only [e1, e2, dSeq, dNext, dIf, dRet, dRetN, dDrop, dAsg, gN, gN0, gNc, gTp, gSubL, dPar, dPar3, dAug, dVar, dC, dOp, dUn, dTest, dAnd, dOr, dNot, dAndV, dOrV, dNotV, dIfE, dNil, dCons, dTup, dLst, dCB, dCall, dstart, dget, dset, dwp, dclr, asB, pI0, pI, pU, pAdd, pMul, pEqB, pIsB, pIx, pCI, pC2, pInt, pIsi, pLen, optQ, stL, lstAt, lsOf, atI0, atI1, atI2, atI3, ixN0, ixN1, ixN2, ixN3, mupd_same, mupd_mupd, dFor, iRng, List.map_cons, List.map_nil, List.length_cons, List.length_nil, List.replicate, List.cons_append, List.nil_append, List.append_nil, List.set_cons_zero, List.set_cons_succ, Nat.reduceAdd, Nat.reduceSub, Nat.sub_self, if_true, if_false, decide_eq_true_eq, Bool.false_eq_true, Bool.not_true, Bool.not_false, id_eq, ite_true, ite_false] at tail ⊢
        exact tail
    · simp only [e1, dSeq, dNext, dIf, dRet, dRetN, dDrop, dAsg, gN, gN0, gNc, gTp, gSubL, dPar, dPar3, dAug, dVar, dC, dOp, dUn, dTest, dAnd, dOr, dNot, dAndV, dOrV, dNotV, dIfE, dNil, dCons, dTup, dLst, dCB, dCall, dstart, dget, dset, dwp, dclr, asB, pI0, pI, pU, pAdd, pMul, pEqB, pIsB, pIx, pCI, pC2, pInt, pIsi, pLen, optQ, stL, lstAt, lsOf, atI0, atI1, atI2, atI3, ixN0, ixN1, ixN2, ixN3, mupd_same, mupd_mupd, dFor, iRng, List.map_cons, List.map_nil, List.length_cons, List.length_nil, List.replicate, List.cons_append, List.nil_append, List.append_nil, List.set_cons_zero, List.set_cons_succ, Nat.reduceAdd, Nat.reduceSub, Nat.sub_self, if_true, if_false, decide_eq_true_eq, Bool.false_eq_true, Bool.not_true, Bool.not_false, id_eq, ite_true, ite_false] at tail ⊢
      exact tail
  · exact h.elim
theorem body_minus (h : sp_minus ds M Q) : b_minus sp_plus { nx := fun _ M' => Q .non M', rt := Q } (dstart ["one", "other"] ds) M := by
  unfold sp_minus spF2 at h
  split at h
  · rename_i a b c d
    obtain ⟨⟨b0, d0, ha, hb, hc, hd⟩, _, h⟩ := h
    simp only [b_minus, dSeq, dNext, dIf, dRet, dRetN, dDrop, dAsg, gN, gN0, gNc, gTp, gSubL, dPar, dPar3, dAug, dVar, dC, dOp, dUn, dTest, dAnd, dOr, dNot, dAndV, dOrV, dNotV, dIfE, dNil, dCons, dTup, dLst, dCB, dCall, dstart, dget, dset, dwp, dclr, asB, pI0, pI, pU, pAdd, pMul, pEqB, pIsB, pIx, pCI, pC2, pInt, pIsi, pLen, optQ, stL, lstAt, lsOf, atI0, atI1, atI2, atI3, ixN0, ixN1, ixN2, ixN3, mupd_same, mupd_mupd, dFor, iRng, List.map_cons, List.map_nil, List.length_cons, List.length_nil, List.replicate, List.cons_append, List.nil_append, List.append_nil, List.set_cons_zero, List.set_cons_succ, Nat.reduceAdd, Nat.reduceSub, Nat.sub_self, if_true, if_false, decide_eq_true_eq, Bool.false_eq_true, Bool.not_true, Bool.not_false, id_eq, ite_true, ite_false, sp_plus, spF2]
    exact ⟨by decide, ⟨b0, d0, ha, hb, hc.neg, hd⟩, trivial, h⟩
  · exact h.elim
theorem body_over (h : sp_over ds M Q) : b_over sp_fraction_of { nx := fun _ M' => Q .non M', rt := Q } (dstart ["one", "other"] ds) M := by
  unfold sp_over spF2 at h
  split at h
  · rename_i a b c d
    obtain ⟨⟨b0, d0, ha, hb, hc, hd⟩, c0, h⟩ := h
    simp only [b_over, dSeq, dNext, dIf, dRet, dRetN, dDrop, dAsg, gN, gN0, gNc, gTp, gSubL, dPar, dPar3, dAug, dVar, dC, dOp, dUn, dTest, dAnd, dOr, dNot, dAndV, dOrV, dNotV, dIfE, dNil, dCons, dTup, dLst, dCB, dCall, dstart, dget, dset, dwp, dclr, asB, pI0, pI, pU, pAdd, pMul, pEqB, pIsB, pIx, pCI, pC2, pInt, pIsi, pLen, optQ, stL, lstAt, lsOf, atI0, atI1, atI2, atI3, ixN0, ixN1, ixN2, ixN3, mupd_same, mupd_mupd, dFor, iRng, List.map_cons, List.map_nil, List.length_cons, List.length_nil, List.replicate, List.cons_append, List.nil_append, List.append_nil, List.set_cons_zero, List.set_cons_succ, Nat.reduceAdd, Nat.reduceSub, Nat.sub_self, if_true, if_false, decide_eq_true_eq, Bool.false_eq_true, Bool.not_true, Bool.not_false, id_eq, ite_true, ite_false, sp_fraction_of]
    exact ⟨ha.mulx hd (by decide), hb.mulx hc (by decide), mul_ne b0 c0, (hb.mul hc).mono (by decide), h⟩
  · exact h.elim
theorem body_is_below (h : sp_is_below ds M Q) : b_is_below { nx := fun _ M' => Q .non M', rt := Q } (dstart ["one", "other"] ds) M := by
  unfold sp_is_below spF2 at h
  split at h
  · rename_i a b c d
    obtain ⟨⟨b0, d0, ha, hb, hc, hd⟩, c0, h⟩ := h
    simp only [b_is_below, dSeq, dNext, dIf, dRet, dRetN, dDrop, dAsg, gN, gN0, gNc, gTp, gSubL, dPar, dPar3, dAug, dVar, dC, dOp, dUn, dTest, dAnd, dOr, dNot, dAndV, dOrV, dNotV, dIfE, dNil, dCons, dTup, dLst, dCB, dCall, dstart, dget, dset, dwp, dclr, asB, pI0, pI, pU, pAdd, pMul, pEqB, pIsB, pIx, pCI, pC2, pInt, pIsi, pLen, optQ, stL, lstAt, lsOf, atI0, atI1, atI2, atI3, ixN0, ixN1, ixN2, ixN3, mupd_same, mupd_mupd, dFor, iRng, List.map_cons, List.map_nil, List.length_cons, List.length_nil, List.replicate, List.cons_append, List.nil_append, List.append_nil, List.set_cons_zero, List.set_cons_succ, Nat.reduceAdd, Nat.reduceSub, Nat.sub_self, if_true, if_false, decide_eq_true_eq, Bool.false_eq_true, Bool.not_true, Bool.not_false, id_eq, ite_true, ite_false]
    exact ⟨ha.mulx hd (by decide), hc.mulx hb (by decide), h⟩
  · exact h.elim
theorem body__law_plus (h : sp_plus ds M Q) : b__law_plus sp_fraction_of { nx := fun _ M' => Q .non M', rt := Q } (dstart ["one", "other"] ds) M := by
  unfold sp_plus spF2 at h
  split at h
  · rename_i a b c d
    obtain ⟨⟨b0, d0, ha, hb, hc, hd⟩, c0, h⟩ := h
    simp only [b__law_plus, dSeq, dNext, dIf, dRet, dRetN, dDrop, dAsg, gN, gN0, gNc, gTp, gSubL, dPar, dPar3, dAug, dVar, dC, dOp, dUn, dTest, dAnd, dOr, dNot, dAndV, dOrV, dNotV, dIfE, dNil, dCons, dTup, dLst, dCB, dCall, dstart, dget, dset, dwp, dclr, asB, pI0, pI, pU, pAdd, pMul, pEqB, pIsB, pIx, pCI, pC2, pInt, pIsi, pLen, optQ, stL, lstAt, lsOf, atI0, atI1, atI2, atI3, ixN0, ixN1, ixN2, ixN3, mupd_same, mupd_mupd, dFor, iRng, List.map_cons, List.map_nil, List.length_cons, List.length_nil, List.replicate, List.cons_append, List.nil_append, List.append_nil, List.set_cons_zero, List.set_cons_succ, Nat.reduceAdd, Nat.reduceSub, Nat.sub_self, if_true, if_false, decide_eq_true_eq, Bool.false_eq_true, Bool.not_true, Bool.not_false, id_eq, ite_true, ite_false, sp_fraction_of]
    exact ⟨ha.mulx hd (by decide), hc.mulx hb (by decide), hb.mulx hd (by decide), mul_ne b0 d0, (hb.mul hd).mono (by decide), h⟩
  · exact h.elim
theorem body__law_times (h : sp_times ds M Q) : b__law_times sp_fraction_of { nx := fun _ M' => Q .non M', rt := Q } (dstart ["one", "other"] ds) M := by
  unfold sp_times spF2 at h
  split at h
  · rename_i a b c d
    obtain ⟨⟨b0, d0, ha, hb, hc, hd⟩, c0, h⟩ := h
    simp only [b__law_times, dSeq, dNext, dIf, dRet, dRetN, dDrop, dAsg, gN, gN0, gNc, gTp, gSubL, dPar, dPar3, dAug, dVar, dC, dOp, dUn, dTest, dAnd, dOr, dNot, dAndV, dOrV, dNotV, dIfE, dNil, dCons, dTup, dLst, dCB, dCall, dstart, dget, dset, dwp, dclr, asB, pI0, pI, pU, pAdd, pMul, pEqB, pIsB, pIx, pCI, pC2, pInt, pIsi, pLen, optQ, stL, lstAt, lsOf, atI0, atI1, atI2, atI3, ixN0, ixN1, ixN2, ixN3, mupd_same, mupd_mupd, dFor, iRng, List.map_cons, List.map_nil, List.length_cons, List.length_nil, List.replicate, List.cons_append, List.nil_append, List.append_nil, List.set_cons_zero, List.set_cons_succ, Nat.reduceAdd, Nat.reduceSub, Nat.sub_self, if_true, if_false, decide_eq_true_eq, Bool.false_eq_true, Bool.not_true, Bool.not_false, id_eq, ite_true, ite_false, sp_fraction_of]
    exact ⟨ha.mulx hc (by decide), hb.mulx hd (by decide), mul_ne b0 d0, (hb.mul hd).mono (by decide), h⟩
  · exact h.elim
/-! ### power_of -/
def powI (p : Int × Int) (k : Nat) : Int × Int := (p.1 ^ k, p.2 ^ k)
theorem powI_fr {p : Int × Int} (h : Fr p) (k : Nat) : Fr (powI p k) := by
  refine ⟨Int.pow_pos h.pos, ?_⟩
  unfold powI
  rw [Int.gcd_eq_natAbs_gcd_natAbs, Int.natAbs_pow, Int.natAbs_pow]
  have c : Nat.Coprime p.1.natAbs p.2.natAbs := h.cop
  exact Nat.Coprime.pow k k c
theorem Bd.pow {k : Nat} {a : Int} (h : Bd k a) : ∀ n : Nat, Bd (k * n + 1) (a ^ n)
  | 0 => by rw [Int.pow_zero]; show (1 : Int).natAbs < 2 ^ (k * 0 + 1); simp
  | n + 1 => by
    rw [Int.pow_succ]
    exact ((Bd.pow h n).mul h).mono (by rw [Nat.mul_succ]; omega)
def sp_power_of : DSp := fun ds M Q => match ds with
  | [.tup [.int a, .int b], .int k] => Fr (a, b) ∧ Bd 300 a ∧ Bd 300 b ∧ 0 ≤ k ∧ k ≤ 5 ∧ Q (fr (powI (a, b) k.toNat)) M
  | _ => False
theorem sp_power_of_mono : MonoSp sp_power_of := ⟨fun {ds M Q Q'} h q => by
  unfold sp_power_of at q ⊢
  split at q
  · obtain ⟨a, b, c, d, e, f⟩ := q
    exact ⟨a, b, c, d, e, h _ _ f⟩
  · exact q⟩
theorem body_power_of (h : sp_power_of ds M Q) : b_power_of sp_times { nx := fun _ M' => Q .non M', rt := Q } (dstart ["fraction", "many", "found", "turn"] ds) M := by
  unfold sp_power_of at h
  split at h
  · rename_i a b k
    obtain ⟨hf, ha, hb, k0, k5, h⟩ := h
    simp only [b_power_of, dSeq, dNext, dIf, dRet, dRetN, dDrop, dAsg, gN, gN0, gNc, gTp, gSubL, dPar, dPar3, dAug, dVar, dC, dOp, dUn, dTest, dAnd, dOr, dNot, dAndV, dOrV, dNotV, dIfE, dNil, dCons, dTup, dLst, dCB, dCall, dstart, dget, dset, dwp, dclr, asB, pI0, pI, pU, pAdd, pMul, pEqB, pIsB, pIx, pCI, pC2, pInt, pIsi, pLen, optQ, stL, lstAt, lsOf, atI0, atI1, atI2, atI3, ixN0, ixN1, ixN2, ixN3, mupd_same, mupd_mupd, dFor, iRng, List.map_cons, List.map_nil, List.length_cons, List.length_nil, List.replicate, List.cons_append, List.nil_append, List.append_nil, List.set_cons_zero, List.set_cons_succ, Nat.reduceAdd, Nat.reduceSub, Nat.sub_self, if_true, if_false, decide_eq_true_eq, Bool.false_eq_true, Bool.not_true, Bool.not_false, id_eq, ite_true, ite_false]
    refine ⟨⟨by omega, by omega⟩, ?_⟩
    obtain ⟨n, rfl⟩ : ∃ n : Nat, k = n := ⟨k.toNat, by omega⟩
    refine loop_rng (I := fun i τ M' => M' = M ∧ 0 ≤ i ∧ ∃ t, τ = [some (.tup [.int a, .int b]), some (.int (n : Int)), some (fr (powI (a, b) i.toNat)), t]) ?_ ?_ n 0 _ _ (by omega) ⟨rfl, by omega, none, by simp [fr, powI]⟩
    · rintro i τ M' X hi ⟨rfl, i0, t, rfl⟩ hX
      obtain ⟨j, rfl⟩ : ∃ j : Nat, i = j := ⟨i.toNat, by omega⟩
      simp only [dSeq, dNext, dIf, dRet, dRetN, dDrop, dAsg, gN, gN0, gNc, gTp, gSubL, dPar, dPar3, dAug, dVar, dC, dOp, dUn, dTest, dAnd, dOr, dNot, dAndV, dOrV, dNotV, dIfE, dNil, dCons, dTup, dLst, dCB, dCall, dstart, dget, dset, dwp, dclr, asB, pI0, pI, pU, pAdd, pMul, pEqB, pIsB, pIx, pCI, pC2, pInt, pIsi, pLen, optQ, stL, lstAt, lsOf, atI0, atI1, atI2, atI3, ixN0, ixN1, ixN2, ixN3, mupd_same, mupd_mupd, dFor, iRng, List.map_cons, List.map_nil, List.length_cons, List.length_nil, List.replicate, List.cons_append, List.nil_append, List.append_nil, List.set_cons_zero, List.set_cons_succ, Nat.reduceAdd, Nat.reduceSub, Nat.sub_self, if_true, if_false, decide_eq_true_eq, Bool.false_eq_true, Bool.not_true, Bool.not_false, id_eq, ite_true, ite_false, fr, powI, sp_times, spF2]
      have hj : j ≤ 5 := by omega
      have b1 := Bd.pow ha j
      have b2 := Bd.pow hb j
      have p2 := powI_fr hf j
      refine ⟨⟨?_, ?_, b1.mono (by omega), b2.mono (by omega), ha.mono (by decide), hb.mono (by decide)⟩, trivial, ?_⟩
      · have := p2.pos; show b ^ j ≠ 0; unfold powI at this; simp only at this; omega
      · have := hf.pos; simp only at this; omega
      · have e := lowI_self (powI_fr hf (j + 1))
        unfold powI at e
        simp only [Int.pow_succ] at e
        rw [show ((j : Nat) : Int).toNat = j from rfl, e]
        refine hX _ _ ⟨rfl, by omega, some (.int j), ?_⟩
        rw [show ((j : Int) + 1).toNat = j + 1 by omega]
        simp only [fr, powI, Int.pow_succ]
    · rintro τ M' ⟨rfl, i0, t, rfl⟩
      simp only [dSeq, dNext, dIf, dRet, dRetN, dDrop, dAsg, gN, gN0, gNc, gTp, gSubL, dPar, dPar3, dAug, dVar, dC, dOp, dUn, dTest, dAnd, dOr, dNot, dAndV, dOrV, dNotV, dIfE, dNil, dCons, dTup, dLst, dCB, dCall, dstart, dget, dset, dwp, dclr, asB, pI0, pI, pU, pAdd, pMul, pEqB, pIsB, pIx, pCI, pC2, pInt, pIsi, pLen, optQ, stL, lstAt, lsOf, atI0, atI1, atI2, atI3, ixN0, ixN1, ixN2, ixN3, mupd_same, mupd_mupd, dFor, iRng, List.map_cons, List.map_nil, List.length_cons, List.length_nil, List.replicate, List.cons_append, List.nil_append, List.append_nil, List.set_cons_zero, List.set_cons_succ, Nat.reduceAdd, Nat.reduceSub, Nat.sub_self, if_true, if_false, decide_eq_true_eq, Bool.false_eq_true, Bool.not_true, Bool.not_false, id_eq, ite_true, ite_false]
      exact h
  · exact h.elim
/-! ### binomials -/
def binI (t : Int) : Nat → Int
  | 0 => 1
  | i + 1 => (binI t i * (t - (i : Nat))).fdiv ((i : Nat) + 1)
def sp_binomial : DSp := fun ds M Q => match ds with
  | [.int t, .int m] => -12 ≤ t ∧ t ≤ 12 ∧ 0 ≤ m ∧ m ≤ 8 ∧ Q (.int (binI t m.toNat)) M
  | _ => False
theorem sp_binomial_mono : MonoSp sp_binomial := ⟨fun {ds M Q Q'} h q => by
  unfold sp_binomial at q ⊢
  split at q
  · obtain ⟨a, b, c, d, e⟩ := q
    exact ⟨a, b, c, d, h _ _ e⟩
  · exact q⟩
theorem binI_bd : ∀ t : Fin 25, ∀ i : Fin 9, (binI ((t.val : Int) - 12) i.val).natAbs < 2 ^ 60 := by decide +kernel
theorem binI_bd' {t : Int} (h : -12 ≤ t) (h2 : t ≤ 12) {i : Nat} (hi : i ≤ 8) : (binI t i).natAbs < 2 ^ 60 := by
  have := binI_bd ⟨(t + 12).toNat, by omega⟩ ⟨i, by omega⟩
  simp only at this
  rwa [show (((t + 12).toNat : Nat) : Int) - 12 = t by omega] at this
theorem body_binomial (h : sp_binomial ds M Q) : b_binomial { nx := fun _ M' => Q .non M', rt := Q } (dstart ["top", "many", "found", "at"] ds) M := by
  unfold sp_binomial at h
  split at h
  · rename_i t k
    obtain ⟨t0, t1, k0, k5, h⟩ := h
    simp only [b_binomial, dSeq, dNext, dIf, dRet, dRetN, dDrop, dAsg, gN, gN0, gNc, gTp, gSubL, dPar, dPar3, dAug, dVar, dC, dOp, dUn, dTest, dAnd, dOr, dNot, dAndV, dOrV, dNotV, dIfE, dNil, dCons, dTup, dLst, dCB, dCall, dstart, dget, dset, dwp, dclr, asB, pI0, pI, pU, pAdd, pMul, pEqB, pIsB, pIx, pCI, pC2, pInt, pIsi, pLen, optQ, stL, lstAt, lsOf, atI0, atI1, atI2, atI3, ixN0, ixN1, ixN2, ixN3, mupd_same, mupd_mupd, dFor, iRng, List.map_cons, List.map_nil, List.length_cons, List.length_nil, List.replicate, List.cons_append, List.nil_append, List.append_nil, List.set_cons_zero, List.set_cons_succ, Nat.reduceAdd, Nat.reduceSub, Nat.sub_self, if_true, if_false, decide_eq_true_eq, Bool.false_eq_true, Bool.not_true, Bool.not_false, id_eq, ite_true, ite_false]
    refine ⟨⟨by omega, by omega⟩, ?_⟩
    obtain ⟨n, rfl⟩ : ∃ n : Nat, k = n := ⟨k.toNat, by omega⟩
    refine loop_rng (I := fun i τ M' => M' = M ∧ 0 ≤ i ∧ ∃ u, τ = [some (.int t), some (.int (n : Int)), some (.int (binI t i.toNat)), u]) ?_ ?_ n 0 _ _ (by omega) ⟨rfl, by omega, none, by rfl⟩
    · rintro i τ M' X hi ⟨rfl, i0, u, rfl⟩ hX
      obtain ⟨j, rfl⟩ : ∃ j : Nat, i = j := ⟨i.toNat, by omega⟩
      have hb := binI_bd' t0 t1 (i := j) (by omega)
      simp only [dSeq, dNext, dIf, dRet, dRetN, dDrop, dAsg, gN, gN0, gNc, gTp, gSubL, dPar, dPar3, dAug, dVar, dC, dOp, dUn, dTest, dAnd, dOr, dNot, dAndV, dOrV, dNotV, dIfE, dNil, dCons, dTup, dLst, dCB, dCall, dstart, dget, dset, dwp, dclr, asB, pI0, pI, pU, pAdd, pMul, pEqB, pIsB, pIx, pCI, pC2, pInt, pIsi, pLen, optQ, stL, lstAt, lsOf, atI0, atI1, atI2, atI3, ixN0, ixN1, ixN2, ixN3, mupd_same, mupd_mupd, dFor, iRng, List.map_cons, List.map_nil, List.length_cons, List.length_nil, List.replicate, List.cons_append, List.nil_append, List.append_nil, List.set_cons_zero, List.set_cons_succ, Nat.reduceAdd, Nat.reduceSub, Nat.sub_self, if_true, if_false, decide_eq_true_eq, Bool.false_eq_true, Bool.not_true, Bool.not_false, id_eq, ite_true, ite_false, show ((j : Nat) : Int).toNat = j from rfl]
      refine ⟨mulx_ok (a := 60) (b := 60) hb (by omega) (by decide), cdv_small (b := 60) (by omega) (by omega) (by decide), hX _ _ ⟨rfl, by omega, some (.int j), ?_⟩⟩
      rw [show ((j : Int) + 1).toNat = j + 1 by omega]
      rfl
    · rintro τ M' ⟨rfl, i0, u, rfl⟩
      simp only [dSeq, dNext, dIf, dRet, dRetN, dDrop, dAsg, gN, gN0, gNc, gTp, gSubL, dPar, dPar3, dAug, dVar, dC, dOp, dUn, dTest, dAnd, dOr, dNot, dAndV, dOrV, dNotV, dIfE, dNil, dCons, dTup, dLst, dCB, dCall, dstart, dget, dset, dwp, dclr, asB, pI0, pI, pU, pAdd, pMul, pEqB, pIsB, pIx, pCI, pC2, pInt, pIsi, pLen, optQ, stL, lstAt, lsOf, atI0, atI1, atI2, atI3, ixN0, ixN1, ixN2, ixN3, mupd_same, mupd_mupd, dFor, iRng, List.map_cons, List.map_nil, List.length_cons, List.length_nil, List.replicate, List.cons_append, List.nil_append, List.append_nil, List.set_cons_zero, List.set_cons_succ, Nat.reduceAdd, Nat.reduceSub, Nat.sub_self, if_true, if_false, decide_eq_true_eq, Bool.false_eq_true, Bool.not_true, Bool.not_false, id_eq, ite_true, ite_false]
      exact h
  · exact h.elim
def mI (p : Int × Int) (i : Nat) : Int × Int := lowI (p.1 * 1 + -(i : Int) * p.2) (p.2 * 1)
def oI (p : Int × Int) (i : Nat) : Int × Int := lowI ((mI p i).1 * 1) ((mI p i).2 * ((i : Int) + 1))
def binA (p : Int × Int) : Nat → Int × Int
  | 0 => (1, 1)
  | i + 1 => lowI ((binA p i).1 * (oI p i).1) ((binA p i).2 * (oI p i).2)
def upI' (p : Int × Int) : Nat → Int × Int
  | 0 => (1, 1)
  | i + 1 => ((upI' p i).1 * (p.1 - (i : Int) * p.2), (upI' p i).2 * p.2 * ((i : Int) + 1))
def halfs : List (Int × Int) := (List.range 41).flatMap fun (x : Nat) => (List.range 6).map fun (y : Nat) => lowI ((x : Int) - 20) (1 + (y : Int))
def binOk (p : Int × Int) (i : Nat) : Bool := decide (p.1.natAbs < 2 ^ 60) && decide (p.2.natAbs < 2 ^ 60) && decide (p.2 ≠ 0) && decide ((mI p i).2 ≠ 0) && decide ((mI p i).1.natAbs < 2 ^ 200) && decide ((mI p i).2.natAbs < 2 ^ 200) && decide ((oI p i).2 ≠ 0) && decide ((oI p i).1.natAbs < 2 ^ 200) && decide ((oI p i).2.natAbs < 2 ^ 200)
  && decide ((binA p i).2 ≠ 0) && decide ((binA p i).1.natAbs < 2 ^ 500) && decide ((binA p i).2.natAbs < 2 ^ 500) && decide ((upI' p i).1.natAbs < 2 ^ 500) && decide ((upI' p i).2.natAbs < 2 ^ 500) && decide ((upI' p i).2 ≠ 0) && decide (binA p i = lowI (upI' p i).1 (upI' p i).2)
theorem halfs_ok : (halfs.all fun p => (List.range 9).all fun i => binOk p i) = true := by decide +kernel
theorem half_ok {p : Int × Int} (h : p ∈ halfs) {i : Nat} (hi : i ≤ 8) : binOk p i = true := by
  have := halfs_ok
  rw [List.all_eq_true] at this
  have := this p h
  rw [List.all_eq_true] at this
  exact this i (List.mem_range.mpr (by omega))
structure BinOk (p : Int × Int) (i : Nat) : Prop where
  p1 : Bd 60 p.1
  p2 : Bd 60 p.2
  p0 : p.2 ≠ 0
  m0 : (mI p i).2 ≠ 0
  m1 : Bd 200 (mI p i).1
  m2 : Bd 200 (mI p i).2
  o0 : (oI p i).2 ≠ 0
  o1 : Bd 200 (oI p i).1
  o2 : Bd 200 (oI p i).2
  b0 : (binA p i).2 ≠ 0
  b1 : Bd 500 (binA p i).1
  b2 : Bd 500 (binA p i).2
  u1 : Bd 500 (upI' p i).1
  u2 : Bd 500 (upI' p i).2
  u0 : (upI' p i).2 ≠ 0
  eq : binA p i = lowI (upI' p i).1 (upI' p i).2
theorem binok_of {p : Int × Int} (h : p ∈ halfs) {i : Nat} (hi : i ≤ 8) : BinOk p i := by
  have := half_ok h hi
  unfold binOk at this
  simp only [Bool.and_eq_true, decide_eq_true_eq] at this
  obtain ⟨⟨⟨⟨⟨⟨⟨⟨⟨⟨⟨⟨⟨⟨⟨a, b⟩, c⟩, d⟩, e⟩, f⟩, g⟩, h⟩, i⟩, j⟩, k⟩, l⟩, m⟩, n⟩, o⟩, p⟩ := this
  exact ⟨a, b, c, d, e, f, g, h, i, j, k, l, m, n, o, p⟩
def sp_binomial_at : DSp := fun ds M Q => match ds with
  | [.tup [.int a, .int b], .int m] => (a, b) ∈ halfs ∧ 0 ≤ m ∧ m ≤ 8 ∧ Q (fr (binA (a, b) m.toNat)) M
  | _ => False
theorem sp_binomial_at_mono : MonoSp sp_binomial_at := ⟨fun {ds M Q Q'} h q => by
  unfold sp_binomial_at at q ⊢
  split at q
  · obtain ⟨a, c, d, e⟩ := q
    exact ⟨a, c, d, h _ _ e⟩
  · exact q⟩
theorem body_binomial_at (h : sp_binomial_at ds M Q) : b_binomial_at sp_times sp_over sp_minus { nx := fun _ M' => Q .non M', rt := Q } (dstart ["top", "many", "found", "at"] ds) M := by
  unfold sp_binomial_at at h
  split at h
  · rename_i a b k
    obtain ⟨hm, k0, k5, h⟩ := h
    simp only [b_binomial_at, dSeq, dNext, dIf, dRet, dRetN, dDrop, dAsg, gN, gN0, gNc, gTp, gSubL, dPar, dPar3, dAug, dVar, dC, dOp, dUn, dTest, dAnd, dOr, dNot, dAndV, dOrV, dNotV, dIfE, dNil, dCons, dTup, dLst, dCB, dCall, dstart, dget, dset, dwp, dclr, asB, pI0, pI, pU, pAdd, pMul, pEqB, pIsB, pIx, pCI, pC2, pInt, pIsi, pLen, optQ, stL, lstAt, lsOf, atI0, atI1, atI2, atI3, ixN0, ixN1, ixN2, ixN3, mupd_same, mupd_mupd, dFor, iRng, List.map_cons, List.map_nil, List.length_cons, List.length_nil, List.replicate, List.cons_append, List.nil_append, List.append_nil, List.set_cons_zero, List.set_cons_succ, Nat.reduceAdd, Nat.reduceSub, Nat.sub_self, if_true, if_false, decide_eq_true_eq, Bool.false_eq_true, Bool.not_true, Bool.not_false, id_eq, ite_true, ite_false]
    refine ⟨⟨by omega, by omega⟩, ?_⟩
    obtain ⟨n, rfl⟩ : ∃ n : Nat, k = n := ⟨k.toNat, by omega⟩
    refine loop_rng (I := fun i τ M' => M' = M ∧ 0 ≤ i ∧ ∃ u, τ = [some (.tup [.int a, .int b]), some (.int (n : Int)), some (fr (binA (a, b) i.toNat)), u]) ?_ ?_ n 0 _ _ (by omega) ⟨rfl, by omega, none, by rfl⟩
    · rintro i τ M' X hi ⟨rfl, i0, u, rfl⟩ hX
      obtain ⟨j, rfl⟩ : ∃ j : Nat, i = j := ⟨i.toNat, by omega⟩
      have ok := binok_of hm (i := j) (by omega)
      have hj : Bd 10 (j : Int) := by unfold Bd; omega
      have hj1 : Bd 10 ((j : Int) + 1) := by unfold Bd; omega
      have one : Bd 10 1 := (by decide : (1 : Int).natAbs < 2 ^ 10)
      simp only [dSeq, dNext, dIf, dRet, dRetN, dDrop, dAsg, gN, gN0, gNc, gTp, gSubL, dPar, dPar3, dAug, dVar, dC, dOp, dUn, dTest, dAnd, dOr, dNot, dAndV, dOrV, dNotV, dIfE, dNil, dCons, dTup, dLst, dCB, dCall, dstart, dget, dset, dwp, dclr, asB, pI0, pI, pU, pAdd, pMul, pEqB, pIsB, pIx, pCI, pC2, pInt, pIsi, pLen, optQ, stL, lstAt, lsOf, atI0, atI1, atI2, atI3, ixN0, ixN1, ixN2, ixN3, mupd_same, mupd_mupd, dFor, iRng, List.map_cons, List.map_nil, List.length_cons, List.length_nil, List.replicate, List.cons_append, List.nil_append, List.append_nil, List.set_cons_zero, List.set_cons_succ, Nat.reduceAdd, Nat.reduceSub, Nat.sub_self, if_true, if_false, decide_eq_true_eq, Bool.false_eq_true, Bool.not_true, Bool.not_false, id_eq, ite_true, ite_false, fr, sp_times, sp_over, sp_minus, spF2, show ((j : Nat) : Int).toNat = j from rfl]
      refine ⟨by decide, ⟨ok.p0, by decide, ok.p1.mono (by decide), ok.p2.mono (by decide), hj.mono (by decide), one.mono (by decide)⟩, trivial, by decide, ⟨ok.m0, by decide, ok.m1.mono (by decide), ok.m2.mono (by decide), hj1.mono (by decide), one.mono (by decide)⟩, by omega, ⟨ok.b0, ok.o0, ok.b1.mono (by decide), ok.b2.mono (by decide), ok.o1.mono (by decide), ok.o2.mono (by decide)⟩, trivial, hX _ _ ⟨rfl, by omega, some (.int j), ?_⟩⟩
      rw [show ((j : Int) + 1).toNat = j + 1 by omega]
      rfl
    · rintro τ M' ⟨rfl, i0, u, rfl⟩
      simp only [dSeq, dNext, dIf, dRet, dRetN, dDrop, dAsg, gN, gN0, gNc, gTp, gSubL, dPar, dPar3, dAug, dVar, dC, dOp, dUn, dTest, dAnd, dOr, dNot, dAndV, dOrV, dNotV, dIfE, dNil, dCons, dTup, dLst, dCB, dCall, dstart, dget, dset, dwp, dclr, asB, pI0, pI, pU, pAdd, pMul, pEqB, pIsB, pIx, pCI, pC2, pInt, pIsi, pLen, optQ, stL, lstAt, lsOf, atI0, atI1, atI2, atI3, ixN0, ixN1, ixN2, ixN3, mupd_same, mupd_mupd, dFor, iRng, List.map_cons, List.map_nil, List.length_cons, List.length_nil, List.replicate, List.cons_append, List.nil_append, List.append_nil, List.set_cons_zero, List.set_cons_succ, Nat.reduceAdd, Nat.reduceSub, Nat.sub_self, if_true, if_false, decide_eq_true_eq, Bool.false_eq_true, Bool.not_true, Bool.not_false, id_eq, ite_true, ite_false]
      exact h
  · exact h.elim
end
end K07

namespace K07
open PySem PySem.Spec PyProof.Rows L2 DL
def sp_integer : DSp := fun ds M Q => match ds with
  | [.ref a] => ∃ B : Int, Wl B M a ∧ B < 2 ^ 59 ∧ ∀ (i : Int) (M' : Mem), Bd 140 i → SubE a M M' → Wl (B + 5) M' a → Q (.int i) M'
  | _ => False
theorem sp_integer_mono : MonoSp sp_integer := ⟨fun {ds M Q Q'} h q => by
  unfold sp_integer at q ⊢
  split at q
  · obtain ⟨B, a, b, c⟩ := q
    exact ⟨B, a, b, fun i M' u v w => h _ _ (c i M' u v w)⟩
  · exact q⟩
def sp_pair : DSp := fun ds M Q => match ds with
  | [.ref a] => ∃ B : Int, Wl B M a ∧ B < 2 ^ 58 ∧ ∀ (p : Int × Int) (M' : Mem), Fr p → Bd 140 p.1 → Bd 140 p.2 → SubE a M M' → Wl (B + 10) M' a → Q (fr p) M'
  | _ => False
theorem sp_pair_mono : MonoSp sp_pair := ⟨fun {ds M Q Q'} h q => by
  unfold sp_pair at q ⊢
  split at q
  · obtain ⟨B, a, b, c⟩ := q
    exact ⟨B, a, b, fun i M' u v w x y => h _ _ (c i M' u v w x y)⟩
  · exact q⟩
theorem _root_.DL.Wl.at {B : Int} {M : Mem} {a : Addr} (h : Wl B M a) {p : Addr} (hp : M p = none) : D.ref p ≠ D.ref a := fun e => by
  obtain ⟨u, q, r, e2, _⟩ := h
  cases e
  rw [hp] at e2; cases e2
theorem seqAt_new {M : Mem} {p : Addr} {xs : List D} : seqAt (mupd M p (.lst xs)) (.ref p) = some xs := by
  unfold seqAt; simp only [mupd_same]
theorem sl40 : 100000 ≤ sizeLine := by decide +kernel
section
variable {ds : List D} {M : Mem} {Q : DQ}
theorem body_integer (h : sp_integer ds M Q) : b__law_integer sp_one sp_dip { nx := fun _ M' => Q .non M', rt := Q } (dstart ["well", "size"] ds) M := by
  unfold sp_integer at h
  split at h
  · rename_i a
    obtain ⟨B, hw, hB, h⟩ := h
    simp only [b__law_integer, dSeq, dNext, dIf, dRet, dRetN, dDrop, dAsg, gN, gN0, gNc, gTp, gSubL, dPar, dPar3, dAug, dVar, dC, dOp, dUn, dTest, dAnd, dOr, dNot, dAndV, dOrV, dNotV, dIfE, dNil, dCons, dTup, dLst, dCB, dCall, dstart, dget, dset, dwp, dclr, asB, pI0, pI, pU, pAdd, pMul, pEqB, pIsB, pIx, pCI, pC2, pInt, pIsi, pLen, optQ, stL, lstAt, lsOf, atI0, atI1, atI2, atI3, ixN0, ixN1, ixN2, ixN3, mupd_same, mupd_mupd, dFor, iRng, List.map_cons, List.map_nil, List.length_cons, List.length_nil, List.replicate, List.cons_append, List.nil_append, List.append_nil, List.set_cons_zero, List.set_cons_succ, Nat.reduceAdd, Nat.reduceSub, Nat.sub_self, if_true, if_false, decide_eq_true_eq, Bool.false_eq_true, Bool.not_true, Bool.not_false, id_eq, ite_true, ite_false, sp_one, sp_dip]
    refine ⟨⟨by decide, by decide, by decide⟩, ⟨by decide, by decide, by decide⟩, by decide, fun p np => ⟨B, _, seqAt_new, hw.at np, hw.new np, by omega, by decide, by decide, fun d M1 hd s1 w1 => ?_⟩⟩
    obtain ⟨z, rfl, z0, z1⟩ : ∃ z : Int, d = .int z ∧ 0 < z ∧ z ≤ 10 ^ 20 := by
      simp only [List.mem_cons, List.not_mem_nil, or_false] at hd
      rcases hd with rfl | rfl | rfl | rfl | rfl | rfl
      · exact ⟨3, rfl, by decide, by decide⟩
      · exact ⟨12, rfl, by decide, by decide⟩
      · exact ⟨12, rfl, by decide, by decide⟩
      · exact ⟨100, rfl, by decide, by decide⟩
      · exact ⟨_, rfl, by decide, by decide⟩
      · exact ⟨_, rfl, by decide, by decide⟩
    have s1' : SubE a M M1 := (SubE.newT (SubE.refl a M) np).trans s1
    refine ⟨_, w1, by omega, z0, by omega, fun x M2 x0 x1 s2 w2 => ⟨_, w2, by omega, z0, by omega, fun y M3 y0 y1 s3 w3 => ⟨by decide, fun p2 np2 => ⟨_, _, seqAt_new, w3.at np2, w3.new np2, by omega, by simp, by simp, fun d2 M4 hd2 s4 w4 => ?_⟩⟩⟩⟩
    have s4' : SubE a M M4 := (SubE.newT ((s1'.trans s2).trans s3) np2).trans s4
    obtain ⟨v, rfl, v0⟩ : ∃ v : Int, d2 = .int v ∧ Bd 67 v := by
      simp only [List.mem_cons, List.not_mem_nil, or_false] at hd2
      rcases hd2 with rfl | rfl | rfl
      · exact ⟨0, rfl, (by decide : (0 : Int).natAbs < 2 ^ 67)⟩
      · exact ⟨0, rfl, (by decide : (0 : Int).natAbs < 2 ^ 67)⟩
      · exact ⟨z, rfl, by unfold Bd; omega⟩
    have hx : Bd 67 x := by unfold Bd; omega
    have hy : Bd 67 y := by unfold Bd; omega
    have hs : Bd 136 (x + y * v) := ((hx.mono (by decide : 67 ≤ 134)).add ((hy.mul v0).mono (by decide))).mono (by decide)
    refine ⟨hy.mulx v0 (by decide), by decide, fun p3 np3 => ⟨_, _, seqAt_new, w4.at np3, w4.new np3, by omega, by decide, by decide, fun d3 M5 hd3 s5 w5 => ?_⟩⟩
    have s5' : SubE a M M5 := (SubE.newT s4' np3).trans s5
    obtain ⟨u, rfl, u0⟩ : ∃ u : Int, d3 = .int u ∧ Bd 1 u := by
      simp only [List.mem_cons, List.not_mem_nil, or_false] at hd3
      rcases hd3 with rfl | rfl
      · exact ⟨1, rfl, (by decide : (1 : Int).natAbs < 2 ^ 1)⟩
      · exact ⟨_, rfl, (by decide : ((0 : Int) - 1).natAbs < 2 ^ 1)⟩
    exact ⟨hs.mulx u0 (by decide), h _ _ ((hs.mul u0).mono (by decide)) s5' (w5.mono (by omega))⟩
  · exact h.elim
theorem body_pair (h : sp_pair ds M Q) : b__law_pair sp_integer sp_fraction_of { nx := fun _ M' => Q .non M', rt := Q } (dstart ["well", "bottom"] ds) M := by
  unfold sp_pair at h
  split at h
  · rename_i a
    obtain ⟨B, hw, hB, h⟩ := h
    simp only [b__law_pair, dSeq, dNext, dIf, dRet, dRetN, dDrop, dAsg, gN, gN0, gNc, gTp, gSubL, dPar, dPar3, dAug, dVar, dC, dOp, dUn, dTest, dAnd, dOr, dNot, dAndV, dOrV, dNotV, dIfE, dNil, dCons, dTup, dLst, dCB, dCall, dstart, dget, dset, dwp, dclr, asB, pI0, pI, pU, pAdd, pMul, pEqB, pIsB, pIx, pCI, pC2, pInt, pIsi, pLen, optQ, stL, lstAt, lsOf, atI0, atI1, atI2, atI3, ixN0, ixN1, ixN2, ixN3, mupd_same, mupd_mupd, dFor, iRng, List.map_cons, List.map_nil, List.length_cons, List.length_nil, List.replicate, List.cons_append, List.nil_append, List.append_nil, List.set_cons_zero, List.set_cons_succ, Nat.reduceAdd, Nat.reduceSub, Nat.sub_self, if_true, if_false, decide_eq_true_eq, Bool.false_eq_true, Bool.not_true, Bool.not_false, id_eq, ite_true, ite_false, sp_integer, sp_fraction_of]
    refine ⟨B, hw, by omega, fun b M1 hb s1 w1 => ⟨_, w1, by omega, fun t M2 ht s2 w2 => ?_⟩⟩
    by_cases e : b = 0
    · simp only [e, dSeq, dNext, dIf, dRet, dRetN, dDrop, dAsg, gN, gN0, gNc, gTp, gSubL, dPar, dPar3, dAug, dVar, dC, dOp, dUn, dTest, dAnd, dOr, dNot, dAndV, dOrV, dNotV, dIfE, dNil, dCons, dTup, dLst, dCB, dCall, dstart, dget, dset, dwp, dclr, asB, pI0, pI, pU, pAdd, pMul, pEqB, pIsB, pIx, pCI, pC2, pInt, pIsi, pLen, optQ, stL, lstAt, lsOf, atI0, atI1, atI2, atI3, ixN0, ixN1, ixN2, ixN3, mupd_same, mupd_mupd, dFor, iRng, List.map_cons, List.map_nil, List.length_cons, List.length_nil, List.replicate, List.cons_append, List.nil_append, List.append_nil, List.set_cons_zero, List.set_cons_succ, Nat.reduceAdd, Nat.reduceSub, Nat.sub_self, if_true, if_false, decide_eq_true_eq, Bool.false_eq_true, Bool.not_true, Bool.not_false, id_eq, ite_true, ite_false]
      have l := low_bd (a := t) (b := 1) (by decide) ht (show (1 : Int).natAbs < 2 ^ 140 by decide)
      exact ⟨by decide, (by decide : (1 : Int).natAbs < 2 ^ 8000), h _ _ (lowI_fr (by decide)) l.1 l.2 (s1.trans s2) (w2.mono (by omega))⟩
    · simp only [e, dSeq, dNext, dIf, dRet, dRetN, dDrop, dAsg, gN, gN0, gNc, gTp, gSubL, dPar, dPar3, dAug, dVar, dC, dOp, dUn, dTest, dAnd, dOr, dNot, dAndV, dOrV, dNotV, dIfE, dNil, dCons, dTup, dLst, dCB, dCall, dstart, dget, dset, dwp, dclr, asB, pI0, pI, pU, pAdd, pMul, pEqB, pIsB, pIx, pCI, pC2, pInt, pIsi, pLen, optQ, stL, lstAt, lsOf, atI0, atI1, atI2, atI3, ixN0, ixN1, ixN2, ixN3, mupd_same, mupd_mupd, dFor, iRng, List.map_cons, List.map_nil, List.length_cons, List.length_nil, List.replicate, List.cons_append, List.nil_append, List.append_nil, List.set_cons_zero, List.set_cons_succ, Nat.reduceAdd, Nat.reduceSub, Nat.sub_self, if_true, if_false, decide_eq_true_eq, Bool.false_eq_true, Bool.not_true, Bool.not_false, id_eq, ite_true, ite_false]
      have l := low_bd (a := t) e ht hb
      exact ⟨e, hb.mono (by decide), h _ _ (lowI_fr e) l.1 l.2 (s1.trans s2) (w2.mono (by omega))⟩
  · exact h.elim
/-! ### rows of sums -/
def nextR (l : List Int) : List Int := (List.range (l.length + 1)).map fun i => ((0 :: l) ++ [0]).getD i 0 + ((0 :: l) ++ [0]).getD (i + 1) 0
def pasc : Nat → List Int
  | 0 => [1]
  | i + 1 => nextR (pasc i)
theorem pasc_len : ∀ i, (pasc i).length = i + 1
  | 0 => rfl
  | i + 1 => by
    unfold pasc nextR
    rw [List.length_map, List.length_range, pasc_len i]
/-- a list of lists: the rows' addresses, each row what it is -/
def RowsAt (M : Mem) (p : Addr) (m : Nat) : Prop := ∃ rs : List Addr, M p = some (.lst (rs.map D.ref)) ∧ rs.length = m ∧ ∀ (i : Nat) (r : Addr), rs[i]? = some r → M r = some (.lst ((pasc i).map D.int)) ∧ r ≠ p
def sp_rows : DSp := fun ds M Q => match ds with
  | [.int m] => 0 ≤ m ∧ m ≤ 30 ∧ ∀ (p : Addr) (M' : Mem), Sub M M' → RowsAt M' p (m.toNat + 1) → Q (.ref p) M'
  | _ => False
theorem sp_rows_mono : MonoSp sp_rows := ⟨fun {ds M Q Q'} h q => by
  unfold sp_rows at q ⊢
  split at q
  · exact ⟨q.1, q.2.1, fun p M' u v => h _ _ (q.2.2 p M' u v)⟩
  · exact q⟩
theorem atI_last {α : Type} {l : List α} {n : Nat} (h : l.length = n + 1) : atI l (-1) = l[n]? := by
  unfold atI ixN
  rw [if_neg (by omega), if_pos (by omega), h]
  simp only [Option.bind_some]
  congr 1
  omega
theorem RowsAt.new {M : Mem} {p q : Addr} {m : Nat} {o : MO} (h : RowsAt M p m) (hq : M q = none) : RowsAt (mupd M q o) p m := by
  obtain ⟨rs, e, hl, hr⟩ := h
  refine ⟨rs, by rw [mupd_ne (ne_new e hq)]; exact e, hl, fun i r ei => ?_⟩
  obtain ⟨e2, n⟩ := hr i r ei
  exact ⟨by rw [mupd_ne (ne_new e2 hq)]; exact e2, n⟩
theorem none_of {M : Mem} {p q : Addr} {o : MO} (h : mupd M p o q = none) : M q = none ∧ q ≠ p := by
  by_cases z : q = p
  · subst z; rw [mupd_same] at h; cases h
  · rw [mupd_ne z] at h; exact ⟨h, z⟩
theorem body_rows (h : sp_rows ds M Q) : b__law_rows { nx := fun _ M' => Q .non M', rt := Q } (dstart ["many", "rows", "turn", "last", "at"] ds) M := by
  unfold sp_rows at h
  split at h
  · rename_i k
    obtain ⟨k0, k5, h⟩ := h
    obtain ⟨n, rfl⟩ : ∃ n : Nat, k = n := ⟨k.toNat, by omega⟩
    simp only [b__law_rows, dSeq, dNext, dIf, dRet, dRetN, dDrop, dAsg, gN, gN0, gNc, gTp, gSubL, dPar, dPar3, dAug, dVar, dC, dOp, dUn, dTest, dAnd, dOr, dNot, dAndV, dOrV, dNotV, dIfE, dNil, dCons, dTup, dLst, dCB, dCall, dstart, dget, dset, dwp, dclr, asB, pI0, pI, pU, pAdd, pMul, pEqB, pIsB, pIx, pCI, pC2, pInt, pIsi, pLen, optQ, stL, lstAt, lsOf, atI0, atI1, atI2, atI3, ixN0, ixN1, ixN2, ixN3, mupd_same, mupd_mupd, dFor, iRng, List.map_cons, List.map_nil, List.length_cons, List.length_nil, List.replicate, List.cons_append, List.nil_append, List.append_nil, List.set_cons_zero, List.set_cons_succ, Nat.reduceAdd, Nat.reduceSub, Nat.sub_self, if_true, if_false, decide_eq_true_eq, Bool.false_eq_true, Bool.not_true, Bool.not_false, id_eq, ite_true, ite_false]
    refine ⟨by decide, fun r0 nr0 => ⟨by decide, fun p np0 => ⟨⟨by omega, by omega⟩, ?_⟩⟩⟩
    obtain ⟨np, npr⟩ := none_of np0
    refine loop_rng (I := fun i τ M' => Sub M M' ∧ M p = none ∧ 0 ≤ i ∧ RowsAt M' p (i.toNat + 1) ∧ ∃ u v, τ = [some (.int (n : Int)), some (.ref p), u, v, none]) ?_ ?_ n 0 _ _ (by omega) ⟨(Sub.new nr0).new' np, np, by omega, ?_, none, none, rfl⟩
    · rintro i τ M1 X hi ⟨hs, np, i0, hr, u, v, rfl⟩ hX
      obtain ⟨j, rfl⟩ : ∃ j : Nat, i = j := ⟨i.toNat, by omega⟩
      simp only [Int.toNat_natCast] at hr
      obtain ⟨rs, ep, hl, hrs⟩ := id hr
      obtain ⟨r, er⟩ : ∃ r, rs[j]? = some r := ⟨_, List.getElem?_eq_getElem (by omega)⟩
      obtain ⟨e2, nrp⟩ := hrs j r er
      simp only [dSeq, dNext, dIf, dRet, dRetN, dDrop, dAsg, gN, gN0, gNc, gTp, gSubL, dPar, dPar3, dAug, dVar, dC, dOp, dUn, dTest, dAnd, dOr, dNot, dAndV, dOrV, dNotV, dIfE, dNil, dCons, dTup, dLst, dCB, dCall, dstart, dget, dset, dwp, dclr, asB, pI0, pI, pU, pAdd, pMul, pEqB, pIsB, pIx, pCI, pC2, pInt, pIsi, pLen, optQ, stL, lstAt, lsOf, atI0, atI1, atI2, atI3, ixN0, ixN1, ixN2, ixN3, mupd_same, mupd_mupd, dFor, iRng, List.map_cons, List.map_nil, List.length_cons, List.length_nil, List.replicate, List.cons_append, List.nil_append, List.append_nil, List.set_cons_zero, List.set_cons_succ, Nat.reduceAdd, Nat.reduceSub, Nat.sub_self, if_true, if_false, decide_eq_true_eq, Bool.false_eq_true, Bool.not_true, Bool.not_false, id_eq, ite_true, ite_false]
      refine ⟨by decide, fun a1 n1 => ?_⟩
      have q1 : mupd M1 a1 (.lst [D.int 0]) p = some (.lst (rs.map D.ref)) := by rw [mupd_ne (ne_new ep n1)]; exact ep
      have q2 : mupd M1 a1 (.lst [D.int 0]) r = some (.lst ((pasc j).map D.int)) := by rw [mupd_ne (ne_new e2 n1)]; exact e2
      simp only [q1, dSeq, dNext, dIf, dRet, dRetN, dDrop, dAsg, gN, gN0, gNc, gTp, gSubL, dPar, dPar3, dAug, dVar, dC, dOp, dUn, dTest, dAnd, dOr, dNot, dAndV, dOrV, dNotV, dIfE, dNil, dCons, dTup, dLst, dCB, dCall, dstart, dget, dset, dwp, dclr, asB, pI0, pI, pU, pAdd, pMul, pEqB, pIsB, pIx, pCI, pC2, pInt, pIsi, pLen, optQ, stL, lstAt, lsOf, atI0, atI1, atI2, atI3, ixN0, ixN1, ixN2, ixN3, mupd_same, mupd_mupd, dFor, iRng, List.map_cons, List.map_nil, List.length_cons, List.length_nil, List.replicate, List.cons_append, List.nil_append, List.append_nil, List.set_cons_zero, List.set_cons_succ, Nat.reduceAdd, Nat.reduceSub, Nat.sub_self, if_true, if_false, decide_eq_true_eq, Bool.false_eq_true, Bool.not_true, Bool.not_false, id_eq, ite_true, ite_false]
      rw [atI_last (n := j) (by rw [List.length_map]; exact hl), List.getElem?_map, er]
      simp only [Option.map_some, dSeq, dNext, dIf, dRet, dRetN, dDrop, dAsg, gN, gN0, gNc, gTp, gSubL, dPar, dPar3, dAug, dVar, dC, dOp, dUn, dTest, dAnd, dOr, dNot, dAndV, dOrV, dNotV, dIfE, dNil, dCons, dTup, dLst, dCB, dCall, dstart, dget, dset, dwp, dclr, asB, pI0, pI, pU, pAdd, pMul, pEqB, pIsB, pIx, pCI, pC2, pInt, pIsi, pLen, optQ, stL, lstAt, lsOf, atI0, atI1, atI2, atI3, ixN0, ixN1, ixN2, ixN3, mupd_same, mupd_mupd, dFor, iRng, List.map_cons, List.map_nil, List.length_cons, List.length_nil, List.replicate, List.cons_append, List.nil_append, List.append_nil, List.set_cons_zero, List.set_cons_succ, Nat.reduceAdd, Nat.reduceSub, Nat.sub_self, if_true, if_false, decide_eq_true_eq, Bool.false_eq_true, Bool.not_true, Bool.not_false, id_eq, ite_true, ite_false, q2]
      refine ⟨by rw [List.length_map, pasc_len]; have := sl40; omega, fun a2 n2 => ⟨by decide, fun a3 n3 => ?_⟩⟩
      have z3 : mupd (mupd (mupd M1 a1 (.lst [D.int 0])) a2 (.lst (D.int 0 :: (pasc j).map D.int))) a3 (.lst [D.int 0]) a2 = some (.lst (D.int 0 :: (pasc j).map D.int)) := by
        rw [mupd_ne (none_of n3).2.symm, mupd_same]
      simp only [z3, dSeq, dNext, dIf, dRet, dRetN, dDrop, dAsg, gN, gN0, gNc, gTp, gSubL, dPar, dPar3, dAug, dVar, dC, dOp, dUn, dTest, dAnd, dOr, dNot, dAndV, dOrV, dNotV, dIfE, dNil, dCons, dTup, dLst, dCB, dCall, dstart, dget, dset, dwp, dclr, asB, pI0, pI, pU, pAdd, pMul, pEqB, pIsB, pIx, pCI, pC2, pInt, pIsi, pLen, optQ, stL, lstAt, lsOf, atI0, atI1, atI2, atI3, ixN0, ixN1, ixN2, ixN3, mupd_same, mupd_mupd, dFor, iRng, List.map_cons, List.map_nil, List.length_cons, List.length_nil, List.replicate, List.cons_append, List.nil_append, List.append_nil, List.set_cons_zero, List.set_cons_succ, Nat.reduceAdd, Nat.reduceSub, Nat.sub_self, if_true, if_false, decide_eq_true_eq, Bool.false_eq_true, Bool.not_true, Bool.not_false, id_eq, ite_true, ite_false]
      refine ⟨by simp only [List.length_map, pasc_len]; have := sl40; omega, fun a4 n4 => ?_⟩
      have hr4 := (((hr.new (o := .lst [D.int 0]) n1).new (o := .lst (D.int 0 :: (pasc j).map D.int)) n2).new (o := .lst [D.int 0]) n3).new (o := .lst (D.int 0 :: ((pasc j).map D.int ++ [D.int 0]))) n4
      generalize hM4 : mupd (mupd (mupd (mupd M1 a1 (.lst [D.int 0])) a2 (.lst (D.int 0 :: (pasc j).map D.int))) a3 (.lst [D.int 0])) a4 (.lst (D.int 0 :: ((pasc j).map D.int ++ [D.int 0]))) = M4 at hr4
      have s4 : Sub M M4 := by
        rw [← hM4]
        exact (((hs.trans (Sub.new n1)).trans (Sub.new n2)).trans (Sub.new n3)).trans (Sub.new n4)
      have e4 : M4 a4 = some (.lst (D.int 0 :: ((pasc j).map D.int ++ [D.int 0]))) := by rw [← hM4, mupd_same]
      obtain ⟨rs4, ep4, hl4, hrs4⟩ := id hr4
      simp only [dBM, tyL, dSeq, dNext, dIf, dRet, dRetN, dDrop, dAsg, gN, gN0, gNc, gTp, gSubL, dPar, dPar3, dAug, dVar, dC, dOp, dUn, dTest, dAnd, dOr, dNot, dAndV, dOrV, dNotV, dIfE, dNil, dCons, dTup, dLst, dCB, dCall, dstart, dget, dset, dwp, dclr, asB, pI0, pI, pU, pAdd, pMul, pEqB, pIsB, pIx, pCI, pC2, pInt, pIsi, pLen, optQ, stL, lstAt, lsOf, atI0, atI1, atI2, atI3, ixN0, ixN1, ixN2, ixN3, mupd_same, mupd_mupd, dFor, iRng, List.map_cons, List.map_nil, List.length_cons, List.length_nil, List.replicate, List.cons_append, List.nil_append, List.append_nil, List.set_cons_zero, List.set_cons_succ, Nat.reduceAdd, Nat.reduceSub, Nat.sub_self, if_true, if_false, decide_eq_true_eq, Bool.false_eq_true, Bool.not_true, Bool.not_false, id_eq, ite_true, ite_false, ep4, dLc, e4]
      refine ⟨trivial, ⟨?_, ?_⟩, fun a5 n5 => ?_⟩
      · omega
      · simp only [List.length_append, List.length_map, pasc_len, List.length_cons, List.length_nil]; omega
      have hlen : (((D.int 0 :: ((pasc j).map D.int ++ [D.int 0])).length : Nat) : Int) - 1 = ((j + 2 : Nat) : Int) := by
        simp only [List.length_append, List.length_map, pasc_len, List.length_cons, List.length_nil]; omega
      simp only [List.length_cons] at hlen
      rw [hlen]
      have na54 : a4 ≠ a5 := fun z => by rw [← z, e4] at n5; cases n5
      have np5 : p ≠ a5 := fun z => by rw [← z, ep4] at n5; cases n5
      refine lc_rng (fun i => D.int (((0 :: pasc j) ++ [0]).getD i 0 + ((0 :: pasc j) ++ [0]).getD (i + 1) 0)) (fun i hi xs K k' => ?_) (by have := sl40; omega) ?_
      · have e5 : mupd M4 a5 (.lst xs) a4 = some (.lst (((0 :: pasc j) ++ [0]).map D.int)) := by
          rw [mupd_ne na54, e4]; simp
        have l1 : i < ((0 :: pasc j) ++ [0]).length := by simp only [List.length_append, List.length_cons, pasc_len, List.length_nil]; omega
        have l2 : i + 1 < ((0 :: pasc j) ++ [0]).length := by simp only [List.length_append, List.length_cons, pasc_len, List.length_nil]; omega
        simp only [dSeq, dNext, dIf, dRet, dRetN, dDrop, dAsg, gN, gN0, gNc, gTp, gSubL, dPar, dPar3, dAug, dVar, dC, dOp, dUn, dTest, dAnd, dOr, dNot, dAndV, dOrV, dNotV, dIfE, dNil, dCons, dTup, dLst, dCB, dCall, dstart, dget, dset, dwp, dclr, asB, pI0, pI, pU, pAdd, pMul, pEqB, pIsB, pIx, pCI, pC2, pInt, pIsi, pLen, optQ, stL, lstAt, lsOf, atI0, atI1, atI2, atI3, ixN0, ixN1, ixN2, ixN3, mupd_same, mupd_mupd, dFor, iRng, List.map_cons, List.map_nil, List.length_cons, List.length_nil, List.replicate, List.cons_append, List.nil_append, List.append_nil, List.set_cons_zero, List.set_cons_succ, Nat.reduceAdd, Nat.reduceSub, Nat.sub_self, if_true, if_false, decide_eq_true_eq, Bool.false_eq_true, Bool.not_true, Bool.not_false, id_eq, ite_true, ite_false, e5]
        have f1 : atI (((0 :: pasc j) ++ [0]).map D.int) (i : Int) = some (D.int (((0 :: pasc j) ++ [0]).getD i 0)) := by
          rw [DL.atI_nat, List.getElem?_map, List.getElem?_eq_getElem l1, List.getD_eq_getElem?_getD, List.getElem?_eq_getElem l1]; rfl
        have f2 : atI (((0 :: pasc j) ++ [0]).map D.int) ((i : Int) + 1) = some (D.int (((0 :: pasc j) ++ [0]).getD (i + 1) 0)) := by
          rw [show (i : Int) + 1 = ((i + 1 : Nat) : Int) by omega, DL.atI_nat, List.getElem?_map, List.getElem?_eq_getElem l2, List.getD_eq_getElem?_getD, List.getElem?_eq_getElem l2]; rfl
        simp only [List.cons_append, List.map_cons] at f1 f2 k' ⊢
        simp only [f1, f2]
        exact k'
      · have nr : List.map (fun i => D.int (((0 :: pasc j) ++ [0]).getD i 0 + ((0 :: pasc j) ++ [0]).getD (i + 1) 0)) (List.range (j + 2)) = (pasc (j + 1)).map D.int := by
          show _ = (nextR (pasc j)).map D.int
          unfold nextR
          rw [List.map_map, pasc_len]
          rfl
        rw [nr]
        have e6 : mupd M4 a5 (.lst ((pasc (j + 1)).map D.int)) p = some (.lst (rs4.map D.ref)) := by rw [mupd_ne np5]; exact ep4
        simp only [pAppend, lstAt, e6]
        refine ⟨by rw [List.length_map, hl4]; have := sl40; omega, hX _ _ ⟨((s4.trans (Sub.new n5))).new' np, np, by omega, ?_, _, _, rfl⟩⟩
        refine ⟨rs4 ++ [a5], by rw [mupd_same, List.map_append]; rfl, by rw [List.length_append, hl4]; simp, fun i r ei => ?_⟩
        by_cases hi : i < rs4.length
        · rw [List.getElem?_append_left hi] at ei
          obtain ⟨w1, w2⟩ := hrs4 i r ei
          exact ⟨by rw [mupd_ne w2, mupd_ne (ne_new w1 n5)]; exact w1, w2⟩
        · rw [List.getElem?_append_right (by omega)] at ei
          have : i - rs4.length = 0 := by
            cases q : i - rs4.length with
            | zero => rfl
            | succ z => rw [q] at ei; simp at ei
          rw [this] at ei
          simp at ei
          subst ei
          have : i = j + 1 := by omega
          subst this
          exact ⟨by rw [mupd_ne np5.symm, mupd_same], np5.symm⟩
    · rintro τ M' ⟨hs, np, i0, hr, u, v, rfl⟩
      simp only [dSeq, dNext, dIf, dRet, dRetN, dDrop, dAsg, gN, gN0, gNc, gTp, gSubL, dPar, dPar3, dAug, dVar, dC, dOp, dUn, dTest, dAnd, dOr, dNot, dAndV, dOrV, dNotV, dIfE, dNil, dCons, dTup, dLst, dCB, dCall, dstart, dget, dset, dwp, dclr, asB, pI0, pI, pU, pAdd, pMul, pEqB, pIsB, pIx, pCI, pC2, pInt, pIsi, pLen, optQ, stL, lstAt, lsOf, atI0, atI1, atI2, atI3, ixN0, ixN1, ixN2, ixN3, mupd_same, mupd_mupd, dFor, iRng, List.map_cons, List.map_nil, List.length_cons, List.length_nil, List.replicate, List.cons_append, List.nil_append, List.append_nil, List.set_cons_zero, List.set_cons_succ, Nat.reduceAdd, Nat.reduceSub, Nat.sub_self, if_true, if_false, decide_eq_true_eq, Bool.false_eq_true, Bool.not_true, Bool.not_false, id_eq, ite_true, ite_false]
      exact h p M' hs hr
    · refine ⟨[r0], mupd_same, rfl, fun i r ei => ?_⟩
      cases i with
      | zero =>
        simp at ei
        subst ei
        exact ⟨by rw [mupd_ne npr.symm, mupd_same]; rfl, npr.symm⟩
      | succ i => simp at ei
  · exact h.elim
end
end K07

namespace K07
open PySem PySem.Spec PyProof.Rows L2 DL
def lotsI (t : Int) (m : Nat) : Int :=
  let u : Int := if 0 ≤ t then t else m - t - 1
  let f : Int := if (m : Int) ≤ u then (pasc u.toNat).getD m 0 else 0
  if 0 ≤ t then f else (1 - 2 * (m % 2 : Nat)) * f
theorem lots_eq' : ∀ t : Fin 25, ∀ i : Fin 9, binI ((t.val : Int) - 12) i.val = lotsI ((t.val : Int) - 12) i.val := by decide +kernel
theorem lots_eq {t : Int} (h : -12 ≤ t) (h2 : t ≤ 12) {i : Nat} (hi : i ≤ 8) : binI t i = lotsI t i := by
  have := lots_eq' ⟨(t + 12).toNat, by omega⟩ ⟨i, by omega⟩
  simp only at this
  rwa [show (((t + 12).toNat : Nat) : Int) - 12 = t by omega] at this
def sp_lots : DSp := fun ds M Q => match ds with
  | [.int t, .int m] => -12 ≤ t ∧ t ≤ 12 ∧ 0 ≤ m ∧ m ≤ 8 ∧ Q (.int (binI t m.toNat)) M
  | _ => False
theorem sp_lots_mono : MonoSp sp_lots := sp_binomial_mono
section
variable {ds : List D} {M : Mem} {Q : DQ}
theorem rows_at {M' : Mem} {p : Addr} {u m : Nat} (hr : RowsAt M' p (u + 1)) (hm : m ≤ u)   : ∃ rs : List Addr, M' p = some (.lst (rs.map D.ref)) ∧ ∃ r : Addr, atI (rs.map D.ref) (u : Int) = some (D.ref r) ∧ M' r = some (.lst ((pasc u).map D.int)) ∧ atI ((pasc u).map D.int) (m : Int) = some (.int ((pasc u).getD m 0)) := by
  obtain ⟨rs, e, hl, hrs⟩ := hr
  obtain ⟨r, er⟩ : ∃ r, rs[u]? = some r := ⟨_, List.getElem?_eq_getElem (by omega)⟩
  have l := pasc_len u
  refine ⟨rs, e, r, by rw [DL.atI_nat, List.getElem?_map, er]; rfl, (hrs u r er).1, ?_⟩
  rw [DL.atI_nat, List.getElem?_map, List.getElem?_eq_getElem (by omega), List.getD_eq_getElem?_getD, List.getElem?_eq_getElem (by omega)]; rfl
theorem body_lots (hc : Clo Q) (h : sp_lots ds M Q) : b__law_lots sp_rows { nx := fun _ M' => Q .non M', rt := Q } (dstart ["top", "many", "upper", "found"] ds) M := by
  unfold sp_lots at h
  split at h
  · rename_i t k
    obtain ⟨t0, t1, k0, k5, h⟩ := h
    obtain ⟨m, rfl⟩ : ∃ n : Nat, k = n := ⟨k.toNat, by omega⟩
    simp only [Int.toNat_natCast] at h
    rw [lots_eq t0 t1 (by omega)] at h
    have hb := binI_bd' t0 t1 (i := m) (by omega)
    rw [lots_eq t0 t1 (by omega)] at hb
    simp only [b__law_lots, dSeq, dNext, dIf, dRet, dRetN, dDrop, dAsg, gN, gN0, gNc, gTp, gSubL, dPar, dPar3, dAug, dVar, dC, dOp, dUn, dTest, dAnd, dOr, dNot, dAndV, dOrV, dNotV, dIfE, dNil, dCons, dTup, dLst, dCB, dCall, dstart, dget, dset, dwp, dclr, asB, pI0, pI, pU, pAdd, pMul, pEqB, pIsB, pIx, pCI, pC2, pInt, pIsi, pLen, optQ, stL, lstAt, lsOf, atI0, atI1, atI2, atI3, ixN0, ixN1, ixN2, ixN3, mupd_same, mupd_mupd, dFor, iRng, List.map_cons, List.map_nil, List.length_cons, List.length_nil, List.replicate, List.cons_append, List.nil_append, List.append_nil, List.set_cons_zero, List.set_cons_succ, Nat.reduceAdd, Nat.reduceSub, Nat.sub_self, if_true, if_false, decide_eq_true_eq, Bool.false_eq_true, Bool.not_true, Bool.not_false, id_eq, ite_true, ite_false]
    by_cases ht : 0 ≤ t
    · obtain ⟨u, rfl⟩ : ∃ n : Nat, t = n := ⟨t.toNat, by omega⟩
      simp only [ht, dSeq, dNext, dIf, dRet, dRetN, dDrop, dAsg, gN, gN0, gNc, gTp, gSubL, dPar, dPar3, dAug, dVar, dC, dOp, dUn, dTest, dAnd, dOr, dNot, dAndV, dOrV, dNotV, dIfE, dNil, dCons, dTup, dLst, dCB, dCall, dstart, dget, dset, dwp, dclr, asB, pI0, pI, pU, pAdd, pMul, pEqB, pIsB, pIx, pCI, pC2, pInt, pIsi, pLen, optQ, stL, lstAt, lsOf, atI0, atI1, atI2, atI3, ixN0, ixN1, ixN2, ixN3, mupd_same, mupd_mupd, dFor, iRng, List.map_cons, List.map_nil, List.length_cons, List.length_nil, List.replicate, List.cons_append, List.nil_append, List.append_nil, List.set_cons_zero, List.set_cons_succ, Nat.reduceAdd, Nat.reduceSub, Nat.sub_self, if_true, if_false, decide_eq_true_eq, Bool.false_eq_true, Bool.not_true, Bool.not_false, id_eq, ite_true, ite_false]
      by_cases hm : (m : Int) ≤ u
      · simp only [hm, dSeq, dNext, dIf, dRet, dRetN, dDrop, dAsg, gN, gN0, gNc, gTp, gSubL, dPar, dPar3, dAug, dVar, dC, dOp, dUn, dTest, dAnd, dOr, dNot, dAndV, dOrV, dNotV, dIfE, dNil, dCons, dTup, dLst, dCB, dCall, dstart, dget, dset, dwp, dclr, asB, pI0, pI, pU, pAdd, pMul, pEqB, pIsB, pIx, pCI, pC2, pInt, pIsi, pLen, optQ, stL, lstAt, lsOf, atI0, atI1, atI2, atI3, ixN0, ixN1, ixN2, ixN3, mupd_same, mupd_mupd, dFor, iRng, List.map_cons, List.map_nil, List.length_cons, List.length_nil, List.replicate, List.cons_append, List.nil_append, List.append_nil, List.set_cons_zero, List.set_cons_succ, Nat.reduceAdd, Nat.reduceSub, Nat.sub_self, if_true, if_false, decide_eq_true_eq, Bool.false_eq_true, Bool.not_true, Bool.not_false, id_eq, ite_true, ite_false, sp_rows]
        refine ⟨by omega, by omega, fun p M' hs hr => ?_⟩
        simp only [Int.toNat_natCast] at hr
        obtain ⟨rs, e, r, e2, e3, e4⟩ := rows_at hr (m := m) (by omega)
        simp only [e, e2, e3, e4]
        refine hc _ _ _ hs ?_
        unfold lotsI at h
        simp only [ht, hm, if_true, Int.toNat_natCast] at h
        exact h
      · simp only [hm, dSeq, dNext, dIf, dRet, dRetN, dDrop, dAsg, gN, gN0, gNc, gTp, gSubL, dPar, dPar3, dAug, dVar, dC, dOp, dUn, dTest, dAnd, dOr, dNot, dAndV, dOrV, dNotV, dIfE, dNil, dCons, dTup, dLst, dCB, dCall, dstart, dget, dset, dwp, dclr, asB, pI0, pI, pU, pAdd, pMul, pEqB, pIsB, pIx, pCI, pC2, pInt, pIsi, pLen, optQ, stL, lstAt, lsOf, atI0, atI1, atI2, atI3, ixN0, ixN1, ixN2, ixN3, mupd_same, mupd_mupd, dFor, iRng, List.map_cons, List.map_nil, List.length_cons, List.length_nil, List.replicate, List.cons_append, List.nil_append, List.append_nil, List.set_cons_zero, List.set_cons_succ, Nat.reduceAdd, Nat.reduceSub, Nat.sub_self, if_true, if_false, decide_eq_true_eq, Bool.false_eq_true, Bool.not_true, Bool.not_false, id_eq, ite_true, ite_false]
        unfold lotsI at h
        simp only [ht, hm, if_true, if_false] at h
        exact h
    · simp only [ht, dSeq, dNext, dIf, dRet, dRetN, dDrop, dAsg, gN, gN0, gNc, gTp, gSubL, dPar, dPar3, dAug, dVar, dC, dOp, dUn, dTest, dAnd, dOr, dNot, dAndV, dOrV, dNotV, dIfE, dNil, dCons, dTup, dLst, dCB, dCall, dstart, dget, dset, dwp, dclr, asB, pI0, pI, pU, pAdd, pMul, pEqB, pIsB, pIx, pCI, pC2, pInt, pIsi, pLen, optQ, stL, lstAt, lsOf, atI0, atI1, atI2, atI3, ixN0, ixN1, ixN2, ixN3, mupd_same, mupd_mupd, dFor, iRng, List.map_cons, List.map_nil, List.length_cons, List.length_nil, List.replicate, List.cons_append, List.nil_append, List.append_nil, List.set_cons_zero, List.set_cons_succ, Nat.reduceAdd, Nat.reduceSub, Nat.sub_self, if_true, if_false, decide_eq_true_eq, Bool.false_eq_true, Bool.not_true, Bool.not_false, id_eq, ite_true, ite_false]
      obtain ⟨u, hu⟩ : ∃ n : Nat, (m : Int) - t - 1 = n := ⟨((m : Int) - t - 1).toNat, by omega⟩
      simp only [hu]
      have e2 : (m : Int).fmod 2 = (m % 2 : Nat) := by rw [Int.fmod_eq_emod_of_nonneg _ (by omega)]; rfl
      have hm : (m : Int) ≤ u := by omega
      simp only [hm, dSeq, dNext, dIf, dRet, dRetN, dDrop, dAsg, gN, gN0, gNc, gTp, gSubL, dPar, dPar3, dAug, dVar, dC, dOp, dUn, dTest, dAnd, dOr, dNot, dAndV, dOrV, dNotV, dIfE, dNil, dCons, dTup, dLst, dCB, dCall, dstart, dget, dset, dwp, dclr, asB, pI0, pI, pU, pAdd, pMul, pEqB, pIsB, pIx, pCI, pC2, pInt, pIsi, pLen, optQ, stL, lstAt, lsOf, atI0, atI1, atI2, atI3, ixN0, ixN1, ixN2, ixN3, mupd_same, mupd_mupd, dFor, iRng, List.map_cons, List.map_nil, List.length_cons, List.length_nil, List.replicate, List.cons_append, List.nil_append, List.append_nil, List.set_cons_zero, List.set_cons_succ, Nat.reduceAdd, Nat.reduceSub, Nat.sub_self, if_true, if_false, decide_eq_true_eq, Bool.false_eq_true, Bool.not_true, Bool.not_false, id_eq, ite_true, ite_false, sp_rows]
      refine ⟨by omega, by omega, fun p M' hs hr => ?_⟩
      simp only [Int.toNat_natCast] at hr
      obtain ⟨rs, e, r, e3, e4, e5⟩ := rows_at hr (m := m) (by omega)
      simp only [e, e3, e4, e5, e2]
      unfold lotsI at h hb
      simp only [ht, hu, hm, if_true, if_false, Int.toNat_natCast] at h hb
      refine ⟨by decide, mulx_ok (a := 60) (b := 60) (by omega) (by omega) (by decide), mulx_ok (a := 60) (b := 60) (by omega) ?_ (by decide), hc _ _ _ hs h⟩
      rw [Int.natAbs_mul] at hb
      exact Nat.lt_of_le_of_lt (Nat.le_mul_of_pos_left _ (by omega)) hb
  · exact h.elim
/-! ### the odd ones -/
def odds (l e : Addr) : List D := [.non, .int 0, .bl true, .str "", .str "line", .tup [], .ref l, .tup [.tup []], .ref e, .tup [.non], .tup [.tup [], .tup []], .tup [.str "kept"], .int (0 - 1), .tup [.int 1, .int 2, .int 3], .tup [.tup [.tup [], .tup [.int 0, .int 1]]], .tup [.tup [.int 0], .tup [.int 1, .int 1]]]
def sp_odd : DSp := fun ds M Q => match ds with
  | [] => ∀ (p l e : Addr) (M' : Mem), Sub M M' → M' p = some (.lst (odds l e)) → M' l = some (.lst []) → M' e = some (.dK []) → Q (.ref p) M'
  | _ => False
theorem sp_odd_mono : MonoSp sp_odd := ⟨fun {ds M Q Q'} h q => by
  unfold sp_odd at q ⊢
  split at q
  · exact fun p l e M' a b c d => h _ _ (q p l e M' a b c d)
  · exact q⟩
theorem body_odd (h : sp_odd ds M Q) : b__law_odd { nx := fun _ M' => Q .non M', rt := Q } (dstart [] ds) M := by
  unfold sp_odd at h
  split at h
  · simp only [b__law_odd, dSeq, dNext, dIf, dRet, dRetN, dDrop, dAsg, gN, gN0, gNc, gTp, gSubL, dPar, dPar3, dAug, dVar, dC, dOp, dUn, dTest, dAnd, dOr, dNot, dAndV, dOrV, dNotV, dIfE, dNil, dCons, dTup, dLst, dCB, dCall, dstart, dget, dset, dwp, dclr, asB, pI0, pI, pU, pAdd, pMul, pEqB, pIsB, pIx, pCI, pC2, pInt, pIsi, pLen, optQ, stL, lstAt, lsOf, atI0, atI1, atI2, atI3, ixN0, ixN1, ixN2, ixN3, mupd_same, mupd_mupd, dFor, iRng, List.map_cons, List.map_nil, List.length_cons, List.length_nil, List.replicate, List.cons_append, List.nil_append, List.append_nil, List.set_cons_zero, List.set_cons_succ, Nat.reduceAdd, Nat.reduceSub, Nat.sub_self, if_true, if_false, decide_eq_true_eq, Bool.false_eq_true, Bool.not_true, Bool.not_false, id_eq, ite_true, ite_false, dNewK]
    have s0 : 0 ≤ sizeLine := by decide
    have s1 : 1 ≤ sizeLine := by decide
    have s2 : 2 ≤ sizeLine := by decide
    have s3 : 3 ≤ sizeLine := by decide
    have s16 : 16 ≤ sizeLine := by decide
    refine ⟨s0, s0, fun l nl => ⟨s0, s1, fun e ne => ⟨s1, s0, s0, s2, s1, s3, s0, s2, s2, s1, s1, s2, s2, s16, fun p np => ?_⟩⟩⟩
    exact h p l e _ (((Sub.new nl).trans (Sub.new ne)).trans (Sub.new np)) mupd_same (by rw [mupd_ne, mupd_ne (none_of ne).2.symm, mupd_same]; exact fun z => by subst z; rw [mupd_ne (none_of ne).2.symm, mupd_same] at np; cases np) (by rw [mupd_ne (none_of np).2.symm, mupd_same])
  · exact h.elim
/-- how one odd value is answered -/
structure OddOk (M : Mem) (d : D) (t e : Bool) : Prop where
  ty : isiD M d "tuple" = some t
  eq : ∀ K : Bool → Prop, t = true → K e → eqG M d (.tup [.int 1, .int 1]) K
  ok : fracOk M d
  an : isFrac d = (t && e)
theorem odd_of (M : Mem) (d : D) (p : PyData) (k : d = .tup [] ∨ ∃ x r, d = .tup (x :: r)) (hp : toP d = some p) (sh : SeqAt.shaped p = true) (ne : PyData.eqv p (.tuple [.int 1, .int 1]) = false) (ok : fracOk M d) (an : isFrac d = false) : OddOk M d true false := by
  refine ⟨?_, fun Q _ q => ?_, ok, an⟩
  · rcases k with rfl | ⟨x, r, rfl⟩ <;> rw [isi_tup k_tuple, it4]
  · have e1 : toPM M d = some p := by rcases k with rfl | ⟨x, r, rfl⟩ <;> exact hp
    rcases k with rfl | ⟨x, r, rfl⟩
    all_goals
      unfold eqG
      rw [e1, show toPM M (.tup [.int 1, .int 1]) = some (.tuple [.int 1, .int 1]) from rfl]
      refine ⟨sh, by decide +kernel, ?_⟩
      rw [ne]
      exact q
theorem odds_ok {l e : Addr} (hl : M l = some (.lst [])) (he : M e = some (.dK [])) : ∀ d ∈ odds l e, ∃ t e, OddOk M d t e := by
  intro d hd
  simp only [odds, List.mem_cons, List.not_mem_nil, or_false] at hd
  rcases hd with rfl | rfl | rfl | rfl | rfl | rfl | rfl | rfl | rfl | rfl | rfl | rfl | rfl | rfl | rfl | rfl
  · exact ⟨false, false, by rw [isi_non k_tuple, in4], fun _ h => (by cases h), trivial, rfl⟩
  · exact ⟨false, false, by rw [isi_int k_tuple, ii4], fun _ h => (by cases h), trivial, rfl⟩
  · exact ⟨false, false, by rw [isi_bl k_tuple, ib4], fun _ h => (by cases h), trivial, rfl⟩
  · exact ⟨false, false, by rw [isi_str k_tuple, is4], fun _ h => (by cases h), trivial, rfl⟩
  · exact ⟨false, false, by rw [isi_str k_tuple, is4], fun _ h => (by cases h), trivial, rfl⟩
  · exact ⟨true, false, odd_of M _ _ (.inl rfl) rfl (by decide +kernel) (by decide +kernel) trivial rfl⟩
  · have e : kindD M (.ref l) = some "list" := by unfold kindD; simp only [hl]
    exact ⟨false, false, by rw [isiD_eq e ⟨k_list, k_tuple⟩]; decide, fun _ h => (by cases h), .inl e, rfl⟩
  · exact ⟨true, false, odd_of M _ _ (.inr ⟨_, _, rfl⟩) rfl (by decide +kernel) (by decide +kernel) trivial rfl⟩
  · have e : kindD M (.ref e) = some "dict" := by unfold kindD; simp only [he]
    exact ⟨false, false, by rw [isiD_eq e ⟨k_dict, k_tuple⟩]; decide, fun _ h => (by cases h), .inr e, rfl⟩
  · exact ⟨true, false, odd_of M _ _ (.inr ⟨_, _, rfl⟩) rfl (by decide +kernel) (by decide +kernel) trivial rfl⟩
  · exact ⟨true, false, odd_of M _ _ (.inr ⟨_, _, rfl⟩) rfl (by decide +kernel) (by decide +kernel) ⟨trivial, trivial⟩ rfl⟩
  · exact ⟨true, false, odd_of M _ _ (.inr ⟨_, _, rfl⟩) rfl (by decide +kernel) (by decide +kernel) trivial rfl⟩
  · exact ⟨false, false, by rw [isi_int k_tuple, ii4], fun _ h => (by cases h), trivial, rfl⟩
  · exact ⟨true, false, odd_of M _ _ (.inr ⟨_, _, rfl⟩) rfl (by decide +kernel) (by decide +kernel) trivial rfl⟩
  · exact ⟨true, false, odd_of M _ _ (.inr ⟨_, _, rfl⟩) rfl (by decide +kernel) (by decide +kernel) trivial rfl⟩
  · exact ⟨true, false, odd_of M _ _ (.inr ⟨_, _, rfl⟩) rfl (by decide +kernel) (by decide +kernel) ⟨trivial, trivial⟩ rfl⟩
def sp_judged : DSp := fun ds M Q => match ds with
  | [.ref a, .tup [.int x, .int y]] => ∃ B : Int, Wl B M a ∧ B < 2 ^ 58 ∧ Fr (x, y) ∧ Bd 140 x ∧ Bd 140 y ∧ ∀ M', SubE a M M' → Wl (B + 1) M' a → Q (.bl true) M'
  | _ => False
theorem sp_judged_mono : MonoSp sp_judged := ⟨fun {ds M Q Q'} h q => by
  unfold sp_judged at q ⊢
  split at q
  · obtain ⟨B, a, b, c, d, e, f⟩ := q
    exact ⟨B, a, b, c, d, e, fun M' u v => h _ _ (f M' u v)⟩
  · exact q⟩
theorem body_judged (h : sp_judged ds M Q) : b__law_judged sp_odd sp_is sp_is_fraction sp_one { nx := fun _ M' => Q .non M', rt := Q } (dstart ["well", "one", "value", "due", "near"] ds) M := by
  unfold sp_judged at h
  split at h
  · rename_i a x y
    obtain ⟨B, hw, hB, hf, hx, hy, h⟩ := h
    have s2 : 2 ≤ sizeLine := by decide
    have s1 : 1 ≤ sizeLine := by decide
    have s3 : 3 ≤ sizeLine := by decide
    have s11 : 11 ≤ sizeLine := by decide
    have two : Bd 140 2 := (by decide : (2 : Int).natAbs < 2 ^ 140)
    simp only [b__law_judged, dSeq, dNext, dIf, dRet, dRetN, dDrop, dAsg, gN, gN0, gNc, gTp, gSubL, dPar, dPar3, dAug, dVar, dC, dOp, dUn, dTest, dAnd, dOr, dNot, dAndV, dOrV, dNotV, dIfE, dNil, dCons, dTup, dLst, dCB, dCall, dstart, dget, dset, dwp, dclr, asB, pI0, pI, pU, pAdd, pMul, pEqB, pIsB, pIx, pCI, pC2, pInt, pIsi, pLen, optQ, stL, lstAt, lsOf, atI0, atI1, atI2, atI3, ixN0, ixN1, ixN2, ixN3, mupd_same, mupd_mupd, dFor, iRng, List.map_cons, List.map_nil, List.length_cons, List.length_nil, List.replicate, List.cons_append, List.nil_append, List.append_nil, List.set_cons_zero, List.set_cons_succ, Nat.reduceAdd, Nat.reduceSub, Nat.sub_self, if_true, if_false, decide_eq_true_eq, Bool.false_eq_true, Bool.not_true, Bool.not_false, id_eq, ite_true, ite_false, iSeqD, sp_odd]
    intro p l e M1 hs hp hl he
    simp only [hp]
    refine loop_inv (I := fun r τ M' => M' = M1 ∧ (∀ d ∈ r, ∃ t e, OddOk M1 d t e) ∧ ∃ u v, τ = [some (.ref a), some (.tup [.int x, .int y]), u, v, none]) (fun r τ M' q => by rw [q.1]; exact hp) ?_ ?_ _ _ _ ⟨rfl, odds_ok hl he, none, none, rfl⟩
    · rintro d r τ M' X ⟨rfl, hd, u, v, rfl⟩ hX
      obtain ⟨t, e, ok⟩ := hd d (List.mem_cons_self ..)
      simp only [dSeq, dNext, dIf, dRet, dRetN, dDrop, dAsg, gN, gN0, gNc, gTp, gSubL, dPar, dPar3, dAug, dVar, dC, dOp, dUn, dTest, dAnd, dOr, dNot, dAndV, dOrV, dNotV, dIfE, dNil, dCons, dTup, dLst, dCB, dCall, dstart, dget, dset, dwp, dclr, asB, pI0, pI, pU, pAdd, pMul, pEqB, pIsB, pIx, pCI, pC2, pInt, pIsi, pLen, optQ, stL, lstAt, lsOf, atI0, atI1, atI2, atI3, ixN0, ixN1, ixN2, ixN3, mupd_same, mupd_mupd, dFor, iRng, List.map_cons, List.map_nil, List.length_cons, List.length_nil, List.replicate, List.cons_append, List.nil_append, List.append_nil, List.set_cons_zero, List.set_cons_succ, Nat.reduceAdd, Nat.reduceSub, Nat.sub_self, if_true, if_false, decide_eq_true_eq, Bool.false_eq_true, Bool.not_true, Bool.not_false, id_eq, ite_true, ite_false, ok.ty]
      cases t with
      | true =>
        simp only [dSeq, dNext, dIf, dRet, dRetN, dDrop, dAsg, gN, gN0, gNc, gTp, gSubL, dPar, dPar3, dAug, dVar, dC, dOp, dUn, dTest, dAnd, dOr, dNot, dAndV, dOrV, dNotV, dIfE, dNil, dCons, dTup, dLst, dCB, dCall, dstart, dget, dset, dwp, dclr, asB, pI0, pI, pU, pAdd, pMul, pEqB, pIsB, pIx, pCI, pC2, pInt, pIsi, pLen, optQ, stL, lstAt, lsOf, atI0, atI1, atI2, atI3, ixN0, ixN1, ixN2, ixN3, mupd_same, mupd_mupd, dFor, iRng, List.map_cons, List.map_nil, List.length_cons, List.length_nil, List.replicate, List.cons_append, List.nil_append, List.append_nil, List.set_cons_zero, List.set_cons_succ, Nat.reduceAdd, Nat.reduceSub, Nat.sub_self, if_true, if_false, decide_eq_true_eq, Bool.false_eq_true, Bool.not_true, Bool.not_false, id_eq, ite_true, ite_false]
        refine ⟨s2, ok.eq _ rfl ?_⟩
        have an := ok.an
        rw [Bool.true_and] at an
        simp only [dSeq, dNext, dIf, dRet, dRetN, dDrop, dAsg, gN, gN0, gNc, gTp, gSubL, dPar, dPar3, dAug, dVar, dC, dOp, dUn, dTest, dAnd, dOr, dNot, dAndV, dOrV, dNotV, dIfE, dNil, dCons, dTup, dLst, dCB, dCall, dstart, dget, dset, dwp, dclr, asB, pI0, pI, pU, pAdd, pMul, pEqB, pIsB, pIx, pCI, pC2, pInt, pIsi, pLen, optQ, stL, lstAt, lsOf, atI0, atI1, atI2, atI3, ixN0, ixN1, ixN2, ixN3, mupd_same, mupd_mupd, dFor, iRng, List.map_cons, List.map_nil, List.length_cons, List.length_nil, List.replicate, List.cons_append, List.nil_append, List.append_nil, List.set_cons_zero, List.set_cons_succ, Nat.reduceAdd, Nat.reduceSub, Nat.sub_self, if_true, if_false, decide_eq_true_eq, Bool.false_eq_true, Bool.not_true, Bool.not_false, id_eq, ite_true, ite_false, sp_is, sp_is_fraction, an, decide_true]
        exact ⟨ok.ok, hX _ _ ⟨rfl, fun d hd' => hd d (List.mem_cons_of_mem _ hd'), _, _, rfl⟩⟩
      | false =>
        have an := ok.an
        rw [Bool.false_and] at an
        simp only [dSeq, dNext, dIf, dRet, dRetN, dDrop, dAsg, gN, gN0, gNc, gTp, gSubL, dPar, dPar3, dAug, dVar, dC, dOp, dUn, dTest, dAnd, dOr, dNot, dAndV, dOrV, dNotV, dIfE, dNil, dCons, dTup, dLst, dCB, dCall, dstart, dget, dset, dwp, dclr, asB, pI0, pI, pU, pAdd, pMul, pEqB, pIsB, pIx, pCI, pC2, pInt, pIsi, pLen, optQ, stL, lstAt, lsOf, atI0, atI1, atI2, atI3, ixN0, ixN1, ixN2, ixN3, mupd_same, mupd_mupd, dFor, iRng, List.map_cons, List.map_nil, List.length_cons, List.length_nil, List.replicate, List.cons_append, List.nil_append, List.append_nil, List.set_cons_zero, List.set_cons_succ, Nat.reduceAdd, Nat.reduceSub, Nat.sub_self, if_true, if_false, decide_eq_true_eq, Bool.false_eq_true, Bool.not_true, Bool.not_false, id_eq, ite_true, ite_false, sp_is, sp_is_fraction, an, decide_true]
        exact ⟨ok.ok, hX _ _ ⟨rfl, fun d hd' => hd d (List.mem_cons_of_mem _ hd'), _, _, rfl⟩⟩
    · rintro τ M' ⟨rfl, _, u, v, rfl⟩
      simp only [dSeq, dNext, dIf, dRet, dRetN, dDrop, dAsg, gN, gN0, gNc, gTp, gSubL, dPar, dPar3, dAug, dVar, dC, dOp, dUn, dTest, dAnd, dOr, dNot, dAndV, dOrV, dNotV, dIfE, dNil, dCons, dTup, dLst, dCB, dCall, dstart, dget, dset, dwp, dclr, asB, pI0, pI, pU, pAdd, pMul, pEqB, pIsB, pIx, pCI, pC2, pInt, pIsi, pLen, optQ, stL, lstAt, lsOf, atI0, atI1, atI2, atI3, ixN0, ixN1, ixN2, ixN3, mupd_same, mupd_mupd, dFor, iRng, List.map_cons, List.map_nil, List.length_cons, List.length_nil, List.replicate, List.cons_append, List.nil_append, List.append_nil, List.set_cons_zero, List.set_cons_succ, Nat.reduceAdd, Nat.reduceSub, Nat.sub_self, if_true, if_false, decide_eq_true_eq, Bool.false_eq_true, Bool.not_true, Bool.not_false, id_eq, ite_true, ite_false, pList, dSl, dNoPart, dPart, pSl, pStr]
      refine ⟨s2, two.mulx hx (by decide), two.mulx hy (by decide), s2, fun l2 nl2 => ?_⟩
      have lg : x.natAbs.log2 < 1920 := by
        by_cases z : x.natAbs = 0
        · rw [z]; decide
        · rw [Nat.log2_lt z]
          exact Nat.lt_of_lt_of_le hx (Nat.pow_le_pow_right (by decide) (by decide))
      refine ⟨s1, s3, s2, s2, s2, s2, lg, s2, s2, s11, fun p2 np2 => ?_⟩
      have hw' := (hw.sub hs)
      refine ⟨B, _, seqAt_new, (hw'.new nl2).at np2, (hw'.new nl2).new np2, by omega, by simp, by simp, fun d M2 hd hs2 w2 => ?_⟩
      have el : M2 l2 = some (.lst [.int x, .int y]) := by
        refine hs2 _ _ ?_ (by rw [mupd_ne (none_of np2).2.symm, mupd_same])
        obtain ⟨_, _, _, e3, _⟩ := hw'
        exact fun z => by subst z; rw [e3] at nl2; cases nl2
      have hfin : SubE a M M2 := (SubE.newT (SubE.newT (SubE.of hs) nl2) np2).trans hs2
      have c1 : fracOk M2 d ∧ isFrac d = false := by
        have kl : kindD M2 (.ref l2) = some "list" := by unfold kindD; simp only [el]
        have ypos := hf.pos
        simp only at ypos
        simp only [List.mem_cons, List.not_mem_nil, or_false] at hd
        rcases hd with rfl | rfl | rfl | rfl | rfl | rfl | rfl | rfl | rfl | rfl | rfl
        · refine ⟨⟨trivial, trivial⟩, ?_⟩
          simp only [isFrac]
          rw [decide_eq_false (by omega), Bool.false_and]
        · refine ⟨⟨trivial, trivial⟩, ?_⟩
          simp only [isFrac]
          have : Int.gcd (2 * x) (2 * y) ≠ 1 := by
            rw [Int.gcd_mul_left]
            show 2 * _ ≠ 1
            omega
          rw [decide_eq_false this, Bool.and_false]
        · exact ⟨.inl kl, rfl⟩
        · exact ⟨trivial, rfl⟩
        · exact ⟨trivial, rfl⟩
        · exact ⟨⟨trivial, trivial⟩, by simp [isFrac]⟩
        · exact ⟨⟨trivial, trivial⟩, rfl⟩
        · exact ⟨⟨trivial, trivial⟩, rfl⟩
        · exact ⟨⟨trivial, trivial⟩, by simp only [isFrac]; decide⟩
        · exact ⟨⟨trivial, trivial⟩, rfl⟩
        · exact ⟨⟨trivial, trivial⟩, rfl⟩
      have c2 : isFrac (.tup [.int x, .int y]) = true := by
        have ypos := hf.pos
        have cop := hf.cop
        simp only at ypos cop
        simp only [isFrac, ypos, cop, decide_true, Bool.true_and]
      have c3 : isFrac (.tup [.int 0, .int 1]) = true := by decide
      simp only [sp_is_fraction, c1.2, c2, c3, pIsB, dSeq, dNext, dIf, dRet, dRetN, dDrop, dAsg, gN, gN0, gNc, gTp, gSubL, dPar, dPar3, dAug, dVar, dC, dOp, dUn, dTest, dAnd, dOr, dNot, dAndV, dOrV, dNotV, dIfE, dNil, dCons, dTup, dLst, dCB, dCall, dstart, dget, dset, dwp, dclr, asB, pI0, pI, pU, pAdd, pMul, pEqB, pIsB, pIx, pCI, pC2, pInt, pIsi, pLen, optQ, stL, lstAt, lsOf, atI0, atI1, atI2, atI3, ixN0, ixN1, ixN2, ixN3, mupd_same, mupd_mupd, dFor, iRng, List.map_cons, List.map_nil, List.length_cons, List.length_nil, List.replicate, List.cons_append, List.nil_append, List.append_nil, List.set_cons_zero, List.set_cons_succ, Nat.reduceAdd, Nat.reduceSub, Nat.sub_self, if_true, if_false, decide_eq_true_eq, Bool.false_eq_true, Bool.not_true, Bool.not_false, id_eq, ite_true, ite_false, decide_true]
      exact ⟨⟨trivial, trivial⟩, c1.1, s2, ⟨trivial, trivial⟩, h _ hfin w2⟩
  · exact h.elim
end
end K07

namespace K07
open PySem PySem.Spec PyProof.Rows L2 DL
def spW (n : Int) : DSp := fun ds M Q => match ds with
  | [.ref a] => ∃ B : Int, Wl B M a ∧ B < 2 ^ 50 ∧ ∀ M', SubE a M M' → Wl (B + n) M' a → Q (.bl true) M'
  | _ => False
theorem spW_mono {n : Int} : MonoSp (spW n) := ⟨fun {ds M Q Q'} h q => by
  unfold spW at q ⊢
  split at q
  · obtain ⟨B, a, b, f⟩ := q
    exact ⟨B, a, b, fun M' u v => h _ _ (f M' u v)⟩
  · exact q⟩
theorem like_fr {k : Nat} {p q : Int × Int} {M : Mem} {Q : DQ} (h : p = q) (hq : Q (.bl true) M) : sp_like (k + 2) [fr p, fr q] M Q := by
  subst h
  refine ⟨rfl, ⟨show 2 ≤ sizeLine by decide, ?_⟩, hq⟩
  intro d hd
  simp only [List.mem_cons, List.not_mem_nil, or_false] at hd
  rcases hd with rfl | rfl <;> cases k <;> trivial
theorem like_int {k : Nat} {p q : Int} {M : Mem} {Q : DQ} (h : p = q) (hq : Q (.bl true) M) : sp_like (k + 1) [.int p, .int q] M Q := by
  subst h
  exact ⟨rfl, by cases k <;> trivial, hq⟩
section
variable {ds : List D} {M : Mem} {Q : DQ}
theorem body_binomials (h : spW 10 ds M Q) : b__law_binomials sp_dip (sp_like 2) sp_lots sp_binomial sp_fraction_of sp_binomial_at { nx := fun _ M' => Q .non M', rt := Q } (dstart ["well", "top", "many", "half", "upper", "lower", "at"] ds) M := by
  unfold spW at h
  split at h
  · rename_i a
    obtain ⟨B, hw, hB, h⟩ := h
    simp only [b__law_binomials, dSeq, dNext, dIf, dRet, dRetN, dDrop, dAsg, gN, gN0, gNc, gTp, gSubL, dPar, dPar3, dAug, dVar, dC, dOp, dUn, dTest, dAnd, dOr, dNot, dAndV, dOrV, dNotV, dIfE, dNil, dCons, dTup, dLst, dCB, dCall, dstart, dget, dset, dwp, dclr, asB, pI0, pI, pU, pAdd, pMul, pEqB, pIsB, pIx, pCI, pC2, pInt, pIsi, pLen, optQ, stL, lstAt, lsOf, atI0, atI1, atI2, atI3, ixN0, ixN1, ixN2, ixN3, mupd_same, mupd_mupd, dFor, iRng, List.map_cons, List.map_nil, List.length_cons, List.length_nil, List.replicate, List.cons_append, List.nil_append, List.append_nil, List.set_cons_zero, List.set_cons_succ, Nat.reduceAdd, Nat.reduceSub, Nat.sub_self, if_true, if_false, decide_eq_true_eq, Bool.false_eq_true, Bool.not_true, Bool.not_false, id_eq, ite_true, ite_false, sp_dip]
    refine ⟨B, hw, by omega, by decide, by decide, fun t M1 t0 t1 s1 w1 => ⟨_, w1, by omega, by decide, by decide, fun m M2 m0 m1 s2 w2 => ?_⟩⟩
    simp only [sp_binomial, sp_lots]
    refine ⟨by omega, by omega, m0, by omega, by omega, by omega, m0, by omega, like_int rfl ?_⟩
    simp only [dSeq, dNext, dIf, dRet, dRetN, dDrop, dAsg, gN, gN0, gNc, gTp, gSubL, dPar, dPar3, dAug, dVar, dC, dOp, dUn, dTest, dAnd, dOr, dNot, dAndV, dOrV, dNotV, dIfE, dNil, dCons, dTup, dLst, dCB, dCall, dstart, dget, dset, dwp, dclr, asB, pI0, pI, pU, pAdd, pMul, pEqB, pIsB, pIx, pCI, pC2, pInt, pIsi, pLen, optQ, stL, lstAt, lsOf, atI0, atI1, atI2, atI3, ixN0, ixN1, ixN2, ixN3, mupd_same, mupd_mupd, dFor, iRng, List.map_cons, List.map_nil, List.length_cons, List.length_nil, List.replicate, List.cons_append, List.nil_append, List.append_nil, List.set_cons_zero, List.set_cons_succ, Nat.reduceAdd, Nat.reduceSub, Nat.sub_self, if_true, if_false, decide_eq_true_eq, Bool.false_eq_true, Bool.not_true, Bool.not_false, id_eq, ite_true, ite_false]
    refine ⟨_, w2, by omega, by decide, by decide, fun x M3 x0 x1 s3 w3 => ⟨_, w3, by omega, by decide, by decide, fun y M4 y0 y1 s4 w4 => ?_⟩⟩
    have b0 : (1 : Int) + y ≠ 0 := by omega
    have bb : Bd 8000 (1 + y) := Bd.mono (j := 10) (show (1 + y).natAbs < 2 ^ 10 by omega) (by decide)
    simp only [sp_fraction_of]
    refine ⟨b0, bb, by decide, trivial, ⟨by omega, by omega⟩, ?_⟩
    have hmem : lowI (x - 20) (1 + y) ∈ halfs := by
      unfold halfs
      refine List.mem_flatMap.mpr ⟨x.toNat, List.mem_range.mpr (by omega), List.mem_map.mpr ⟨y.toNat, List.mem_range.mpr (by omega), ?_⟩⟩
      rw [show ((x.toNat : Nat) : Int) = x by omega, show ((y.toNat : Nat) : Int) = y by omega]
    generalize lowI (x - 20) (1 + y) = p at hmem
    obtain ⟨n, rfl⟩ : ∃ n : Nat, m = n := ⟨m.toNat, by omega⟩
    refine loop_rng (I := fun i τ M' => M' = M4 ∧ 0 ≤ i ∧ ∃ u, τ = [some (.ref a), some (.int (t - 12)), some (.int (n : Int)), some (fr p), some (.int (upI' p i.toNat).1), some (.int (upI' p i.toNat).2), u]) ?_ ?_ n 0 _ _ (by omega) ⟨rfl, by omega, none, by rfl⟩
    · rintro i τ M' X hi ⟨rfl, i0, u, rfl⟩ hX
      obtain ⟨j, rfl⟩ : ∃ j : Nat, i = j := ⟨i.toNat, by omega⟩
      have ok := binok_of hmem (i := j) (by omega)
      have hj : Bd 10 (j : Int) := by unfold Bd; omega
      have hj1 : Bd 10 ((j : Int) + 1) := by unfold Bd; omega
      simp only [dSeq, dNext, dIf, dRet, dRetN, dDrop, dAsg, gN, gN0, gNc, gTp, gSubL, dPar, dPar3, dAug, dVar, dC, dOp, dUn, dTest, dAnd, dOr, dNot, dAndV, dOrV, dNotV, dIfE, dNil, dCons, dTup, dLst, dCB, dCall, dstart, dget, dset, dwp, dclr, asB, pI0, pI, pU, pAdd, pMul, pEqB, pIsB, pIx, pCI, pC2, pInt, pIsi, pLen, optQ, stL, lstAt, lsOf, atI0, atI1, atI2, atI3, ixN0, ixN1, ixN2, ixN3, mupd_same, mupd_mupd, dFor, iRng, List.map_cons, List.map_nil, List.length_cons, List.length_nil, List.replicate, List.cons_append, List.nil_append, List.append_nil, List.set_cons_zero, List.set_cons_succ, Nat.reduceAdd, Nat.reduceSub, Nat.sub_self, if_true, if_false, decide_eq_true_eq, Bool.false_eq_true, Bool.not_true, Bool.not_false, id_eq, ite_true, ite_false, fr, show ((j : Nat) : Int).toNat = j from rfl]
      have hjp : Bd 80 (p.1 - (j : Int) * p.2) := by
        have := (ok.p1.mono (show 60 ≤ 70 by decide)).add ((hj.mul ok.p2).neg)
        rw [Int.sub_eq_add_neg]
        exact this.mono (by decide)
      refine ⟨hj.mulx ok.p2 (by decide), ok.u1.mulx hjp (by decide), ok.u2.mulx ok.p2 (by decide), (ok.u2.mul ok.p2).mulx hj1 (by decide), hX _ _ ⟨rfl, by omega, some (.int j), ?_⟩⟩
      rw [show ((j : Int) + 1).toNat = j + 1 by omega]
      rfl
    · rintro τ M' ⟨rfl, i0, u, rfl⟩
      have ok := binok_of hmem (i := n) (by omega)
      simp only [dSeq, dNext, dIf, dRet, dRetN, dDrop, dAsg, gN, gN0, gNc, gTp, gSubL, dPar, dPar3, dAug, dVar, dC, dOp, dUn, dTest, dAnd, dOr, dNot, dAndV, dOrV, dNotV, dIfE, dNil, dCons, dTup, dLst, dCB, dCall, dstart, dget, dset, dwp, dclr, asB, pI0, pI, pU, pAdd, pMul, pEqB, pIsB, pIx, pCI, pC2, pInt, pIsi, pLen, optQ, stL, lstAt, lsOf, atI0, atI1, atI2, atI3, ixN0, ixN1, ixN2, ixN3, mupd_same, mupd_mupd, dFor, iRng, List.map_cons, List.map_nil, List.length_cons, List.length_nil, List.replicate, List.cons_append, List.nil_append, List.append_nil, List.set_cons_zero, List.set_cons_succ, Nat.reduceAdd, Nat.reduceSub, Nat.sub_self, if_true, if_false, decide_eq_true_eq, Bool.false_eq_true, Bool.not_true, Bool.not_false, id_eq, ite_true, ite_false, sp_binomial_at, fr, Int.toNat_natCast]
      refine ⟨hmem, by omega, by omega, ok.u0, ok.u2.mono (by decide), ?_⟩
      exact like_fr (k := 0) ok.eq (h _ (((s1.trans s2).trans s3).trans s4) (w4.mono (by omega)))
  · exact h.elim
def sp_law : DSp := fun ds M Q => ∃ ns : List Int, ds = [.kl (ns.map .int)] ∧ Q (.bl true) M
theorem sp_law_mono : MonoSp sp_law := ⟨fun h ⟨ns, e, q⟩ => ⟨ns, e, h _ _ q⟩⟩
theorem body_law (hc : Clo Q) (h : ∃ ns : List Int, ds = [.kl (ns.map .int)] ∧ Q (.bl true) M) : b_law sp_well (spW 60) (spW 10) { nx := fun _ M' => Q .non M', rt := Q } (dstart ["script", "turn", "well"] ds) M := by
  obtain ⟨ns, rfl, h⟩ := h
  simp only [b_law, dSeq, dNext, dIf, dRet, dRetN, dDrop, dAsg, gN, gN0, gNc, gTp, gSubL, dPar, dPar3, dAug, dVar, dC, dOp, dUn, dTest, dAnd, dOr, dNot, dAndV, dOrV, dNotV, dIfE, dNil, dCons, dTup, dLst, dCB, dCall, dstart, dget, dset, dwp, dclr, asB, pI0, pI, pU, pAdd, pMul, pEqB, pIsB, pIx, pCI, pC2, pInt, pIsi, pLen, optQ, stL, lstAt, lsOf, atI0, atI1, atI2, atI3, ixN0, ixN1, ixN2, ixN3, mupd_same, mupd_mupd, dFor, iRng, List.map_cons, List.map_nil, List.length_cons, List.length_nil, List.replicate, List.cons_append, List.nil_append, List.append_nil, List.set_cons_zero, List.set_cons_succ, Nat.reduceAdd, Nat.reduceSub, Nat.sub_self, if_true, if_false, decide_eq_true_eq, Bool.false_eq_true, Bool.not_true, Bool.not_false, id_eq, ite_true, ite_false]
  refine ⟨⟨by decide, by decide⟩, ?_⟩
  refine loop_rng (I := fun i τ M' => Sub M M' ∧ 0 ≤ i ∧ ∃ u v, τ = [some (.kl (ns.map .int)), u, v]) ?_ ?_ 4 0 _ _ rfl ⟨Sub.refl _, by decide, none, none, rfl⟩
  · rintro i τ M' X hi ⟨hs, i0, u, v, rfl⟩ hX
    simp only [dSeq, dNext, dIf, dRet, dRetN, dDrop, dAsg, gN, gN0, gNc, gTp, gSubL, dPar, dPar3, dAug, dVar, dC, dOp, dUn, dTest, dAnd, dOr, dNot, dAndV, dOrV, dNotV, dIfE, dNil, dCons, dTup, dLst, dCB, dCall, dstart, dget, dset, dwp, dclr, asB, pI0, pI, pU, pAdd, pMul, pEqB, pIsB, pIx, pCI, pC2, pInt, pIsi, pLen, optQ, stL, lstAt, lsOf, atI0, atI1, atI2, atI3, ixN0, ixN1, ixN2, ixN3, mupd_same, mupd_mupd, dFor, iRng, List.map_cons, List.map_nil, List.length_cons, List.length_nil, List.replicate, List.cons_append, List.nil_append, List.append_nil, List.set_cons_zero, List.set_cons_succ, Nat.reduceAdd, Nat.reduceSub, Nat.sub_self, if_true, if_false, decide_eq_true_eq, Bool.false_eq_true, Bool.not_true, Bool.not_false, id_eq, ite_true, ite_false, sp_well, spW]
    refine ⟨ns, rfl, i0, by omega, fun p M1 s1 np w1 => ⟨0, w1, by decide, fun M2 s2 w2 => ⟨_, w2, by decide, fun M3 s3 w3 => hX _ _ ⟨fun x o e => ?_, by omega, _, _, rfl⟩⟩⟩⟩
    have e1 := s1 _ _ (hs _ _ e)
    have n : x ≠ p := fun z => by subst z; rw [hs _ _ e] at np; cases np
    exact s3 _ _ n (s2 _ _ n e1)
  · rintro τ M' ⟨hs, i0, u, v, rfl⟩
    simp only [dSeq, dNext, dIf, dRet, dRetN, dDrop, dAsg, gN, gN0, gNc, gTp, gSubL, dPar, dPar3, dAug, dVar, dC, dOp, dUn, dTest, dAnd, dOr, dNot, dAndV, dOrV, dNotV, dIfE, dNil, dCons, dTup, dLst, dCB, dCall, dstart, dget, dset, dwp, dclr, asB, pI0, pI, pU, pAdd, pMul, pEqB, pIsB, pIx, pCI, pC2, pInt, pIsi, pLen, optQ, stL, lstAt, lsOf, atI0, atI1, atI2, atI3, ixN0, ixN1, ixN2, ixN3, mupd_same, mupd_mupd, dFor, iRng, List.map_cons, List.map_nil, List.length_cons, List.length_nil, List.replicate, List.cons_append, List.nil_append, List.append_nil, List.set_cons_zero, List.set_cons_succ, Nat.reduceAdd, Nat.reduceSub, Nat.sub_self, if_true, if_false, decide_eq_true_eq, Bool.false_eq_true, Bool.not_true, Bool.not_false, id_eq, ite_true, ite_false]
    exact hc _ _ _ hs h
theorem seq_cut {t u : DTS} {E : DEnds} {τ : DS} {M : Mem} (k : ∀ R : DTS, R = u → t { E with nx := R E } τ M) : dSeq t u E τ M := k u rfl
theorem body_sums (h : spW 60 ds M Q) : b__law_sums sp_dip sp_pair sp_judged sp_integer (sp_like 2) sp_fraction_of sp_fraction_of sp_plus sp_plus sp_times sp_times sp_over sp_power_of sp_is sp_is_below sp_minus { nx := fun _ M' => Q .non M', rt := Q } (dstart ["well", "one", "other", "many", "top", "bottom", "risen", "turn"] ds) M := by
  unfold spW at h
  split at h
  · rename_i a
    obtain ⟨B, hw, hB, h⟩ := h
    have s2 : 2 ≤ sizeLine := by decide
    unfold b__law_sums
    refine seq_cut fun R hR => ?_
    simp only [dSeq, dNext, dIf, dRet, dRetN, dDrop, dAsg, gN, gN0, gNc, gTp, gSubL, dPar, dPar3, dAug, dVar, dC, dOp, dUn, dTest, dAnd, dOr, dNot, dAndV, dOrV, dNotV, dIfE, dNil, dCons, dTup, dLst, dCB, dCall, dstart, dget, dset, dwp, dclr, asB, pI0, pI, pU, pAdd, pMul, pEqB, pIsB, pIx, pCI, pC2, pInt, pIsi, pLen, optQ, stL, lstAt, lsOf, atI0, atI1, atI2, atI3, ixN0, ixN1, ixN2, ixN3, mupd_same, mupd_mupd, dFor, iRng, List.map_cons, List.map_nil, List.length_cons, List.length_nil, List.replicate, List.cons_append, List.nil_append, List.append_nil, List.set_cons_zero, List.set_cons_succ, Nat.reduceAdd, Nat.reduceSub, Nat.sub_self, if_true, if_false, decide_eq_true_eq, Bool.false_eq_true, Bool.not_true, Bool.not_false, id_eq, ite_true, ite_false, sp_pair, sp_dip]
    refine ⟨B, hw, by omega, fun p M1 fp p1 p2 s1 w1 => ⟨_, w1, by omega, fun q M2 fq q1 q2 s2 w2 => ⟨_, w2, by omega, by decide, by decide, fun m M3 m0 m1 s3 w3 => ?_⟩⟩⟩
    subst hR
    refine seq_cut fun R hR => ?_
    simp only [dSeq, dNext, dIf, dRet, dRetN, dDrop, dAsg, gN, gN0, gNc, gTp, gSubL, dPar, dPar3, dAug, dVar, dC, dOp, dUn, dTest, dAnd, dOr, dNot, dAndV, dOrV, dNotV, dIfE, dNil, dCons, dTup, dLst, dCB, dCall, dstart, dget, dset, dwp, dclr, asB, pI0, pI, pU, pAdd, pMul, pEqB, pIsB, pIx, pCI, pC2, pInt, pIsi, pLen, optQ, stL, lstAt, lsOf, atI0, atI1, atI2, atI3, ixN0, ixN1, ixN2, ixN3, mupd_same, mupd_mupd, dFor, iRng, List.map_cons, List.map_nil, List.length_cons, List.length_nil, List.replicate, List.cons_append, List.nil_append, List.append_nil, List.set_cons_zero, List.set_cons_succ, Nat.reduceAdd, Nat.reduceSub, Nat.sub_self, if_true, if_false, decide_eq_true_eq, Bool.false_eq_true, Bool.not_true, Bool.not_false, id_eq, ite_true, ite_false, sp_judged, fr]
    refine ⟨_, w3, by omega, fp, p1, p2, fun M4 s4 w4 => ?_⟩
    subst hR
    refine seq_cut fun R hR => ?_
    simp only [dSeq, dNext, dIf, dRet, dRetN, dDrop, dAsg, gN, gN0, gNc, gTp, gSubL, dPar, dPar3, dAug, dVar, dC, dOp, dUn, dTest, dAnd, dOr, dNot, dAndV, dOrV, dNotV, dIfE, dNil, dCons, dTup, dLst, dCB, dCall, dstart, dget, dset, dwp, dclr, asB, pI0, pI, pU, pAdd, pMul, pEqB, pIsB, pIx, pCI, pC2, pInt, pIsi, pLen, optQ, stL, lstAt, lsOf, atI0, atI1, atI2, atI3, ixN0, ixN1, ixN2, ixN3, mupd_same, mupd_mupd, dFor, iRng, List.map_cons, List.map_nil, List.length_cons, List.length_nil, List.replicate, List.cons_append, List.nil_append, List.append_nil, List.set_cons_zero, List.set_cons_succ, Nat.reduceAdd, Nat.reduceSub, Nat.sub_self, if_true, if_false, decide_eq_true_eq, Bool.false_eq_true, Bool.not_true, Bool.not_false, id_eq, ite_true, ite_false, sp_integer]
    refine ⟨_, w4, by omega, fun t M5 ht s5 w5 => ⟨_, w5, by omega, fun b M6 hb s6 w6 => ?_⟩⟩
    have hfin : SubE a M M6 := ((((s1.trans s2).trans s3).trans s4).trans s5).trans s6
    subst hR
    refine seq_cut fun R hR => ?_
    have fp0 : p.2 ≠ 0 := by have := fp.pos; omega
    have fq0 : q.2 ≠ 0 := by have := fq.pos; omega
    have big : ∀ {z : Int}, Bd 140 z → Bd 3000 z := fun h => h.mono (by decide)
    have P : P2 p.1 p.2 q.1 q.2 := ⟨fp0, fq0, big p1, big p2, big q1, big q2⟩
    have main : ∀ b' : Int, b' ≠ 0 → Bd 140 b' → R { nx := fun _ M' => Q .non M', rt := Q } [some (.ref a), some (.tup [.int p.1, .int p.2]), some (.tup [.int q.1, .int q.2]), some (.int m), some (.int t), some (.int b'), none, none] M6 := by
      intro b' b0 bb
      subst hR
      refine seq_cut fun R hR => ?_
      simp only [dSeq, dNext, dIf, dRet, dRetN, dDrop, dAsg, gN, gN0, gNc, gTp, gSubL, dPar, dPar3, dAug, dVar, dC, dOp, dUn, dTest, dAnd, dOr, dNot, dAndV, dOrV, dNotV, dIfE, dNil, dCons, dTup, dLst, dCB, dCall, dstart, dget, dset, dwp, dclr, asB, pI0, pI, pU, pAdd, pMul, pEqB, pIsB, pIx, pCI, pC2, pInt, pIsi, pLen, optQ, stL, lstAt, lsOf, atI0, atI1, atI2, atI3, ixN0, ixN1, ixN2, ixN3, mupd_same, mupd_mupd, dFor, iRng, List.map_cons, List.map_nil, List.length_cons, List.length_nil, List.replicate, List.cons_append, List.nil_append, List.append_nil, List.set_cons_zero, List.set_cons_succ, Nat.reduceAdd, Nat.reduceSub, Nat.sub_self, if_true, if_false, decide_eq_true_eq, Bool.false_eq_true, Bool.not_true, Bool.not_false, id_eq, ite_true, ite_false, sp_fraction_of]
      refine ⟨b0, bb.mono (by decide), b0, bb.mono (by decide), like_fr (k := 0) rfl ?_⟩
      simp only [dSeq, dNext, dIf, dRet, dRetN, dDrop, dAsg, gN, gN0, gNc, gTp, gSubL, dPar, dPar3, dAug, dVar, dC, dOp, dUn, dTest, dAnd, dOr, dNot, dAndV, dOrV, dNotV, dIfE, dNil, dCons, dTup, dLst, dCB, dCall, dstart, dget, dset, dwp, dclr, asB, pI0, pI, pU, pAdd, pMul, pEqB, pIsB, pIx, pCI, pC2, pInt, pIsi, pLen, optQ, stL, lstAt, lsOf, atI0, atI1, atI2, atI3, ixN0, ixN1, ixN2, ixN3, mupd_same, mupd_mupd, dFor, iRng, List.map_cons, List.map_nil, List.length_cons, List.length_nil, List.replicate, List.cons_append, List.nil_append, List.append_nil, List.set_cons_zero, List.set_cons_succ, Nat.reduceAdd, Nat.reduceSub, Nat.sub_self, if_true, if_false, decide_eq_true_eq, Bool.false_eq_true, Bool.not_true, Bool.not_false, id_eq, ite_true, ite_false, sp_plus, spF2]
      refine ⟨P, trivial, P, trivial, like_fr (k := 0) rfl ?_⟩
      simp only [dSeq, dNext, dIf, dRet, dRetN, dDrop, dAsg, gN, gN0, gNc, gTp, gSubL, dPar, dPar3, dAug, dVar, dC, dOp, dUn, dTest, dAnd, dOr, dNot, dAndV, dOrV, dNotV, dIfE, dNil, dCons, dTup, dLst, dCB, dCall, dstart, dget, dset, dwp, dclr, asB, pI0, pI, pU, pAdd, pMul, pEqB, pIsB, pIx, pCI, pC2, pInt, pIsi, pLen, optQ, stL, lstAt, lsOf, atI0, atI1, atI2, atI3, ixN0, ixN1, ixN2, ixN3, mupd_same, mupd_mupd, dFor, iRng, List.map_cons, List.map_nil, List.length_cons, List.length_nil, List.replicate, List.cons_append, List.nil_append, List.append_nil, List.set_cons_zero, List.set_cons_succ, Nat.reduceAdd, Nat.reduceSub, Nat.sub_self, if_true, if_false, decide_eq_true_eq, Bool.false_eq_true, Bool.not_true, Bool.not_false, id_eq, ite_true, ite_false]
      subst hR
      refine seq_cut fun R hR => ?_
      have P' : P2 p.1 p.2 (0 - q.1) q.2 := ⟨fp0, fq0, big p1, big p2, by rw [Int.zero_sub]; exact (big q1).neg, big q2⟩
      simp only [dSeq, dNext, dIf, dRet, dRetN, dDrop, dAsg, gN, gN0, gNc, gTp, gSubL, dPar, dPar3, dAug, dVar, dC, dOp, dUn, dTest, dAnd, dOr, dNot, dAndV, dOrV, dNotV, dIfE, dNil, dCons, dTup, dLst, dCB, dCall, dstart, dget, dset, dwp, dclr, asB, pI0, pI, pU, pAdd, pMul, pEqB, pIsB, pIx, pCI, pC2, pInt, pIsi, pLen, optQ, stL, lstAt, lsOf, atI0, atI1, atI2, atI3, ixN0, ixN1, ixN2, ixN3, mupd_same, mupd_mupd, dFor, iRng, List.map_cons, List.map_nil, List.length_cons, List.length_nil, List.replicate, List.cons_append, List.nil_append, List.append_nil, List.set_cons_zero, List.set_cons_succ, Nat.reduceAdd, Nat.reduceSub, Nat.sub_self, if_true, if_false, decide_eq_true_eq, Bool.false_eq_true, Bool.not_true, Bool.not_false, id_eq, ite_true, ite_false, dCallK, gK, List.filterMap_cons, List.filterMap_nil, sp_minus, sp_plus, spF2, and_self, List.getElem?_cons_zero, show ¬ ((1 : Nat) = 0) from by decide]
      refine ⟨P, trivial, by decide, P', trivial, like_fr (k := 0) (by rw [Int.zero_sub]) ?_⟩
      simp only [dSeq, dNext, dIf, dRet, dRetN, dDrop, dAsg, gN, gN0, gNc, gTp, gSubL, dPar, dPar3, dAug, dVar, dC, dOp, dUn, dTest, dAnd, dOr, dNot, dAndV, dOrV, dNotV, dIfE, dNil, dCons, dTup, dLst, dCB, dCall, dstart, dget, dset, dwp, dclr, asB, pI0, pI, pU, pAdd, pMul, pEqB, pIsB, pIx, pCI, pC2, pInt, pIsi, pLen, optQ, stL, lstAt, lsOf, atI0, atI1, atI2, atI3, ixN0, ixN1, ixN2, ixN3, mupd_same, mupd_mupd, dFor, iRng, List.map_cons, List.map_nil, List.length_cons, List.length_nil, List.replicate, List.cons_append, List.nil_append, List.append_nil, List.set_cons_zero, List.set_cons_succ, Nat.reduceAdd, Nat.reduceSub, Nat.sub_self, if_true, if_false, decide_eq_true_eq, Bool.false_eq_true, Bool.not_true, Bool.not_false, id_eq, ite_true, ite_false, sp_times, spF2]
      refine ⟨P, trivial, P, trivial, like_fr (k := 0) rfl ?_⟩
      simp only [dSeq, dNext, dIf, dRet, dRetN, dDrop, dAsg, gN, gN0, gNc, gTp, gSubL, dPar, dPar3, dAug, dVar, dC, dOp, dUn, dTest, dAnd, dOr, dNot, dAndV, dOrV, dNotV, dIfE, dNil, dCons, dTup, dLst, dCB, dCall, dstart, dget, dset, dwp, dclr, asB, pI0, pI, pU, pAdd, pMul, pEqB, pIsB, pIx, pCI, pC2, pInt, pIsi, pLen, optQ, stL, lstAt, lsOf, atI0, atI1, atI2, atI3, ixN0, ixN1, ixN2, ixN3, mupd_same, mupd_mupd, dFor, iRng, List.map_cons, List.map_nil, List.length_cons, List.length_nil, List.replicate, List.cons_append, List.nil_append, List.append_nil, List.set_cons_zero, List.set_cons_succ, Nat.reduceAdd, Nat.reduceSub, Nat.sub_self, if_true, if_false, decide_eq_true_eq, Bool.false_eq_true, Bool.not_true, Bool.not_false, id_eq, ite_true, ite_false]
      subst hR
      refine seq_cut fun R hR => ?_
      have rest : R { nx := fun _ M' => Q .non M', rt := Q } [some (.ref a), some (.tup [.int p.1, .int p.2]), some (.tup [.int q.1, .int q.2]), some (.int m), some (.int t), some (.int b'), none, none] M6 := by
        subst hR
        refine seq_cut fun R hR => ?_
        simp only [dSeq, dNext, dIf, dRet, dRetN, dDrop, dAsg, gN, gN0, gNc, gTp, gSubL, dPar, dPar3, dAug, dVar, dC, dOp, dUn, dTest, dAnd, dOr, dNot, dAndV, dOrV, dNotV, dIfE, dNil, dCons, dTup, dLst, dCB, dCall, dstart, dget, dset, dwp, dclr, asB, pI0, pI, pU, pAdd, pMul, pEqB, pIsB, pIx, pCI, pC2, pInt, pIsi, pLen, optQ, stL, lstAt, lsOf, atI0, atI1, atI2, atI3, ixN0, ixN1, ixN2, ixN3, mupd_same, mupd_mupd, dFor, iRng, List.map_cons, List.map_nil, List.length_cons, List.length_nil, List.replicate, List.cons_append, List.nil_append, List.append_nil, List.set_cons_zero, List.set_cons_succ, Nat.reduceAdd, Nat.reduceSub, Nat.sub_self, if_true, if_false, decide_eq_true_eq, Bool.false_eq_true, Bool.not_true, Bool.not_false, id_eq, ite_true, ite_false]
        refine ⟨by decide, ?_⟩
        subst hR
        refine seq_cut fun R hR => ?_
        simp only [dSeq, dNext, dIf, dRet, dRetN, dDrop, dAsg, gN, gN0, gNc, gTp, gSubL, dPar, dPar3, dAug, dVar, dC, dOp, dUn, dTest, dAnd, dOr, dNot, dAndV, dOrV, dNotV, dIfE, dNil, dCons, dTup, dLst, dCB, dCall, dstart, dget, dset, dwp, dclr, asB, pI0, pI, pU, pAdd, pMul, pEqB, pIsB, pIx, pCI, pC2, pInt, pIsi, pLen, optQ, stL, lstAt, lsOf, atI0, atI1, atI2, atI3, ixN0, ixN1, ixN2, ixN3, mupd_same, mupd_mupd, dFor, iRng, List.map_cons, List.map_nil, List.length_cons, List.length_nil, List.replicate, List.cons_append, List.nil_append, List.append_nil, List.set_cons_zero, List.set_cons_succ, Nat.reduceAdd, Nat.reduceSub, Nat.sub_self, if_true, if_false, decide_eq_true_eq, Bool.false_eq_true, Bool.not_true, Bool.not_false, id_eq, ite_true, ite_false]
        refine ⟨⟨by omega, by omega⟩, ?_⟩
        obtain ⟨n, rfl⟩ : ∃ n : Nat, m = n := ⟨m.toNat, by omega⟩
        refine loop_rng (I := fun i τ M' => M' = M6 ∧ 0 ≤ i ∧ ∃ u, τ = [some (.ref a), some (.tup [.int p.1, .int p.2]), some (.tup [.int q.1, .int q.2]), some (.int (n : Int)), some (.int t), some (.int b'), some (fr (powI p i.toNat)), u]) ?_ ?_ n 0 _ _ (by omega) ⟨rfl, by omega, none, by simp [fr, powI]⟩
        · rintro i τ M' X hi ⟨rfl, i0, u, rfl⟩ hX
          obtain ⟨j, rfl⟩ : ∃ j : Nat, i = j := ⟨i.toNat, by omega⟩
          have hj : j ≤ 5 := by omega
          have b1 := Bd.pow p1 j
          have b2 := Bd.pow p2 j
          simp only [dSeq, dNext, dIf, dRet, dRetN, dDrop, dAsg, gN, gN0, gNc, gTp, gSubL, dPar, dPar3, dAug, dVar, dC, dOp, dUn, dTest, dAnd, dOr, dNot, dAndV, dOrV, dNotV, dIfE, dNil, dCons, dTup, dLst, dCB, dCall, dstart, dget, dset, dwp, dclr, asB, pI0, pI, pU, pAdd, pMul, pEqB, pIsB, pIx, pCI, pC2, pInt, pIsi, pLen, optQ, stL, lstAt, lsOf, atI0, atI1, atI2, atI3, ixN0, ixN1, ixN2, ixN3, mupd_same, mupd_mupd, dFor, iRng, List.map_cons, List.map_nil, List.length_cons, List.length_nil, List.replicate, List.cons_append, List.nil_append, List.append_nil, List.set_cons_zero, List.set_cons_succ, Nat.reduceAdd, Nat.reduceSub, Nat.sub_self, if_true, if_false, decide_eq_true_eq, Bool.false_eq_true, Bool.not_true, Bool.not_false, id_eq, ite_true, ite_false, fr, powI, show ((j : Nat) : Int).toNat = j from rfl]
          refine ⟨b1.mulx p1 (by omega), b2.mulx p2 (by omega), by decide, hX _ _ ⟨rfl, by omega, some (.int j), ?_⟩⟩
          rw [show ((j : Int) + 1).toNat = j + 1 by omega]
          simp only [fr, powI, Int.pow_succ]
        · rintro τ M' ⟨rfl, i0, u, rfl⟩
          dsimp only
          subst hR
          refine seq_cut fun R hR => ?_
          simp only [dSeq, dNext, dIf, dRet, dRetN, dDrop, dAsg, gN, gN0, gNc, gTp, gSubL, dPar, dPar3, dAug, dVar, dC, dOp, dUn, dTest, dAnd, dOr, dNot, dAndV, dOrV, dNotV, dIfE, dNil, dCons, dTup, dLst, dCB, dCall, dstart, dget, dset, dwp, dclr, asB, pI0, pI, pU, pAdd, pMul, pEqB, pIsB, pIx, pCI, pC2, pInt, pIsi, pLen, optQ, stL, lstAt, lsOf, atI0, atI1, atI2, atI3, ixN0, ixN1, ixN2, ixN3, mupd_same, mupd_mupd, dFor, iRng, List.map_cons, List.map_nil, List.length_cons, List.length_nil, List.replicate, List.cons_append, List.nil_append, List.append_nil, List.set_cons_zero, List.set_cons_succ, Nat.reduceAdd, Nat.reduceSub, Nat.sub_self, if_true, if_false, decide_eq_true_eq, Bool.false_eq_true, Bool.not_true, Bool.not_false, id_eq, ite_true, ite_false, sp_power_of]

          refine ⟨fp, p1.mono (by decide), p2.mono (by decide), by omega, by omega, like_fr (k := 0) rfl ?_⟩
          simp only [dSeq, dNext, dIf, dRet, dRetN, dDrop, dAsg, gN, gN0, gNc, gTp, gSubL, dPar, dPar3, dAug, dVar, dC, dOp, dUn, dTest, dAnd, dOr, dNot, dAndV, dOrV, dNotV, dIfE, dNil, dCons, dTup, dLst, dCB, dCall, dstart, dget, dset, dwp, dclr, asB, pI0, pI, pU, pAdd, pMul, pEqB, pIsB, pIx, pCI, pC2, pInt, pIsi, pLen, optQ, stL, lstAt, lsOf, atI0, atI1, atI2, atI3, ixN0, ixN1, ixN2, ixN3, mupd_same, mupd_mupd, dFor, iRng, List.map_cons, List.map_nil, List.length_cons, List.length_nil, List.replicate, List.cons_append, List.nil_append, List.append_nil, List.set_cons_zero, List.set_cons_succ, Nat.reduceAdd, Nat.reduceSub, Nat.sub_self, if_true, if_false, decide_eq_true_eq, Bool.false_eq_true, Bool.not_true, Bool.not_false, id_eq, ite_true, ite_false]
          subst hR
          have lt : ¬ p.1 * p.2 < p.1 * p.2 := Int.lt_irrefl _
          simp only [dSeq, dNext, dIf, dRet, dRetN, dDrop, dAsg, gN, gN0, gNc, gTp, gSubL, dPar, dPar3, dAug, dVar, dC, dOp, dUn, dTest, dAnd, dOr, dNot, dAndV, dOrV, dNotV, dIfE, dNil, dCons, dTup, dLst, dCB, dCall, dstart, dget, dset, dwp, dclr, asB, pI0, pI, pU, pAdd, pMul, pEqB, pIsB, pIx, pCI, pC2, pInt, pIsi, pLen, optQ, stL, lstAt, lsOf, atI0, atI1, atI2, atI3, ixN0, ixN1, ixN2, ixN3, mupd_same, mupd_mupd, dFor, iRng, List.map_cons, List.map_nil, List.length_cons, List.length_nil, List.replicate, List.cons_append, List.nil_append, List.append_nil, List.set_cons_zero, List.set_cons_succ, Nat.reduceAdd, Nat.reduceSub, Nat.sub_self, if_true, if_false, decide_eq_true_eq, Bool.false_eq_true, Bool.not_true, Bool.not_false, id_eq, ite_true, ite_false, sp_is_below, spF2, sp_is, decide_true, pIsB]
          refine ⟨P, trivial, p1.mulx q2 (by decide), q1.mulx p2 (by decide), ⟨fp0, fp0, big p1, big p2, big p1, big p2⟩, trivial, ?_⟩
          simp only [lt, decide_false, decide_true]
          exact h _ hfin (w6.mono (by omega))
      by_cases hq : q.1 = 0
      · simp only [hq, dSeq, dNext, dIf, dRet, dRetN, dDrop, dAsg, gN, gN0, gNc, gTp, gSubL, dPar, dPar3, dAug, dVar, dC, dOp, dUn, dTest, dAnd, dOr, dNot, dAndV, dOrV, dNotV, dIfE, dNil, dCons, dTup, dLst, dCB, dCall, dstart, dget, dset, dwp, dclr, asB, pI0, pI, pU, pAdd, pMul, pEqB, pIsB, pIx, pCI, pC2, pInt, pIsi, pLen, optQ, stL, lstAt, lsOf, atI0, atI1, atI2, atI3, ixN0, ixN1, ixN2, ixN3, mupd_same, mupd_mupd, dFor, iRng, List.map_cons, List.map_nil, List.length_cons, List.length_nil, List.replicate, List.cons_append, List.nil_append, List.append_nil, List.set_cons_zero, List.set_cons_succ, Nat.reduceAdd, Nat.reduceSub, Nat.sub_self, if_true, if_false, decide_eq_true_eq, Bool.false_eq_true, Bool.not_true, Bool.not_false, id_eq, ite_true, ite_false, decide_true] at rest ⊢
        exact rest
      · simp only [hq, dSeq, dNext, dIf, dRet, dRetN, dDrop, dAsg, gN, gN0, gNc, gTp, gSubL, dPar, dPar3, dAug, dVar, dC, dOp, dUn, dTest, dAnd, dOr, dNot, dAndV, dOrV, dNotV, dIfE, dNil, dCons, dTup, dLst, dCB, dCall, dstart, dget, dset, dwp, dclr, asB, pI0, pI, pU, pAdd, pMul, pEqB, pIsB, pIx, pCI, pC2, pInt, pIsi, pLen, optQ, stL, lstAt, lsOf, atI0, atI1, atI2, atI3, ixN0, ixN1, ixN2, ixN3, mupd_same, mupd_mupd, dFor, iRng, List.map_cons, List.map_nil, List.length_cons, List.length_nil, List.replicate, List.cons_append, List.nil_append, List.append_nil, List.set_cons_zero, List.set_cons_succ, Nat.reduceAdd, Nat.reduceSub, Nat.sub_self, if_true, if_false, decide_eq_true_eq, Bool.false_eq_true, Bool.not_true, Bool.not_false, id_eq, ite_true, ite_false, decide_false, sp_over, spF2, sp_fraction_of]
        refine ⟨P, hq, p1.mulx q2 (by decide), p2.mulx q1 (by decide), mul_ne fp0 hq, (p2.mul q1).mono (by decide), like_fr (k := 0) rfl ?_⟩
        simp only [dSeq, dNext, dIf, dRet, dRetN, dDrop, dAsg, gN, gN0, gNc, gTp, gSubL, dPar, dPar3, dAug, dVar, dC, dOp, dUn, dTest, dAnd, dOr, dNot, dAndV, dOrV, dNotV, dIfE, dNil, dCons, dTup, dLst, dCB, dCall, dstart, dget, dset, dwp, dclr, asB, pI0, pI, pU, pAdd, pMul, pEqB, pIsB, pIx, pCI, pC2, pInt, pIsi, pLen, optQ, stL, lstAt, lsOf, atI0, atI1, atI2, atI3, ixN0, ixN1, ixN2, ixN3, mupd_same, mupd_mupd, dFor, iRng, List.map_cons, List.map_nil, List.length_cons, List.length_nil, List.replicate, List.cons_append, List.nil_append, List.append_nil, List.set_cons_zero, List.set_cons_succ, Nat.reduceAdd, Nat.reduceSub, Nat.sub_self, if_true, if_false, decide_eq_true_eq, Bool.false_eq_true, Bool.not_true, Bool.not_false, id_eq, ite_true, ite_false]
        exact rest
    by_cases b0 : b = 0
    · simp only [b0, dSeq, dNext, dIf, dRet, dRetN, dDrop, dAsg, gN, gN0, gNc, gTp, gSubL, dPar, dPar3, dAug, dVar, dC, dOp, dUn, dTest, dAnd, dOr, dNot, dAndV, dOrV, dNotV, dIfE, dNil, dCons, dTup, dLst, dCB, dCall, dstart, dget, dset, dwp, dclr, asB, pI0, pI, pU, pAdd, pMul, pEqB, pIsB, pIx, pCI, pC2, pInt, pIsi, pLen, optQ, stL, lstAt, lsOf, atI0, atI1, atI2, atI3, ixN0, ixN1, ixN2, ixN3, mupd_same, mupd_mupd, dFor, iRng, List.map_cons, List.map_nil, List.length_cons, List.length_nil, List.replicate, List.cons_append, List.nil_append, List.append_nil, List.set_cons_zero, List.set_cons_succ, Nat.reduceAdd, Nat.reduceSub, Nat.sub_self, if_true, if_false, decide_eq_true_eq, Bool.false_eq_true, Bool.not_true, Bool.not_false, id_eq, ite_true, ite_false, decide_true]
      exact main _ (by decide) (by decide : ((0 : Int) - 7).natAbs < 2 ^ 140)
    · simp only [b0, dSeq, dNext, dIf, dRet, dRetN, dDrop, dAsg, gN, gN0, gNc, gTp, gSubL, dPar, dPar3, dAug, dVar, dC, dOp, dUn, dTest, dAnd, dOr, dNot, dAndV, dOrV, dNotV, dIfE, dNil, dCons, dTup, dLst, dCB, dCall, dstart, dget, dset, dwp, dclr, asB, pI0, pI, pU, pAdd, pMul, pEqB, pIsB, pIx, pCI, pC2, pInt, pIsi, pLen, optQ, stL, lstAt, lsOf, atI0, atI1, atI2, atI3, ixN0, ixN1, ixN2, ixN3, mupd_same, mupd_mupd, dFor, iRng, List.map_cons, List.map_nil, List.length_cons, List.length_nil, List.replicate, List.cons_append, List.nil_append, List.append_nil, List.set_cons_zero, List.set_cons_succ, Nat.reduceAdd, Nat.reduceSub, Nat.sub_self, if_true, if_false, decide_eq_true_eq, Bool.false_eq_true, Bool.not_true, Bool.not_false, id_eq, ite_true, ite_false, decide_false]
      exact main _ b0 hb
  · exact h.elim
end
end K07

namespace K07
open PySem PySem.Spec PyProof.Rows L2 DL
abbrev FnP (K : PySem.W.Frag) (x : Str) (st : Stmt) (f : Addr) (fd : FuncData) : Prop := FunD K x x (defArgs st) (defBody st) (defScope st) [] [] f fd
section
variable {P : Program} {w : World} {K : PySem.W.Frag} {mg : Str → Option Value} {base : Heap} {ff : Addr} {fd : FuncData}
theorem ok__law_well {k : Nat} (F : FnP K "_law_well" s__law_well ff fd) (n_len : mg "len" = none) (n_int : mg "int" = none) (n_abs : mg "abs" = none) : FnOk P w K mg base CX0 (k + 1) ff fd ["script", "k"] (upSp K (sp_well)) :=
  def_ok F sc__law_well (by
      intro ds M Q h
      unfold sp_well at h
      split at h
      · rfl
      · exact h.elim)
    (fun cdv A outer s H E hr => d__law_well n_len n_int n_abs)
    (fun ds M Q hc h => body_well ds M Q hc h)
theorem ok__law_dip {k : Nat} (F : FnP K "_law_dip" s__law_dip ff fd) (n_int : mg "int" = none) : FnOk P w K mg base CX0 (k + 1) ff fd ["well", "many"] (upSp K (sp_dip)) :=
  def_ok F sc__law_dip (by
      intro ds M Q h
      unfold sp_dip at h
      split at h
      · rfl
      · exact h.elim)
    (fun cdv A outer s H E hr => d__law_dip n_int)
    (fun ds M Q hc h => body_dip ds M Q hc h)
theorem ok__law_one {k : Nat} (F : FnP K "_law_one" s__law_one ff fd) (c__law_dip_2 : ∀ A' : Around, Room k A' → Can P w K mg base A' "_law_dip" [] (sp_dip)) (n_len : mg "len" = none) : FnOk P w K mg base CX0 (k + 1) ff fd ["well", "some"] (upSp K (sp_one)) :=
  def_ok F sc__law_one (by
      intro ds M Q h
      unfold sp_one at h
      split at h
      · rfl
      · exact h.elim)
    (fun cdv A outer s H E hr => d__law_one (c__law_dip_2 _ hr) n_len)
    (fun ds M Q hc h => body_one ds M Q hc h)
theorem ok__law_integer {k : Nat} (F : FnP K "_law_integer" s__law_integer ff fd) (c__law_one_2 : ∀ A' : Around, Room k A' → Can P w K mg base A' "_law_one" [] (sp_one)) (c__law_dip_2 : ∀ A' : Around, Room k A' → Can P w K mg base A' "_law_dip" [] (sp_dip)) : FnOk P w K mg base CX0 (k + 1) ff fd ["well"] (upSp K (sp_integer)) :=
  def_ok F sc__law_integer (by
      intro ds M Q h
      unfold sp_integer at h
      split at h
      · rfl
      · exact h.elim)
    (fun cdv A outer s H E hr => d__law_integer (c__law_one_2 _ hr) (c__law_dip_2 _ hr))
    (fun ds M Q hc h => body_integer h)
theorem ok__law_gcd {k : Nat} (F : FnP K "_law_gcd" s__law_gcd ff fd) (n_abs : mg "abs" = none) (n_int : mg "int" = none) : FnOk P w K mg base CX0 (k + 1) ff fd ["one", "other"] (upSp K (sp_divisor_of)) :=
  def_ok F sc__law_gcd (by
      intro ds M Q h
      unfold sp_divisor_of at h
      split at h
      · rfl
      · exact h.elim)
    (fun cdv A outer s H E hr => d__law_gcd n_abs n_int hr.units)
    (fun ds M Q hc h => body__law_gcd h)
theorem ok__law_low {k : Nat} (F : FnP K "_law_low" s__law_low ff fd) (c__law_gcd_2 : ∀ A' : Around, Room k A' → Can P w K mg base A' "_law_gcd" [] (sp_divisor_of)) : FnOk P w K mg base CX0 (k + 1) ff fd ["top", "bottom"] (upSp K (sp_fraction_of)) :=
  def_ok F sc__law_low (by
      intro ds M Q h
      unfold sp_fraction_of at h
      split at h
      · rfl
      · exact h.elim)
    (fun cdv A outer s H E hr => d__law_low (c__law_gcd_2 _ hr))
    (fun ds M Q hc h => body__law_low h)
theorem ok__law_pair {k : Nat} (F : FnP K "_law_pair" s__law_pair ff fd) (c__law_integer_1 : ∀ A' : Around, Room k A' → Can P w K mg base A' "_law_integer" [] (sp_integer)) (c__law_low_2 : ∀ A' : Around, Room k A' → Can P w K mg base A' "_law_low" [] (sp_fraction_of)) : FnOk P w K mg base CX0 (k + 1) ff fd ["well"] (upSp K (sp_pair)) :=
  def_ok F sc__law_pair (by
      intro ds M Q h
      unfold sp_pair at h
      split at h
      · rfl
      · exact h.elim)
    (fun cdv A outer s H E hr => d__law_pair (c__law_integer_1 _ hr) (c__law_low_2 _ hr) hr.units)
    (fun ds M Q hc h => body_pair h)
theorem ok__law_odd {k : Nat} (F : FnP K "_law_odd" s__law_odd ff fd) : FnOk P w K mg base CX0 (k + 1) ff fd [] (upSp K (sp_odd)) :=
  def_ok F sc__law_odd (by
      intro ds M Q h
      unfold sp_odd at h
      split at h
      · rfl
      · exact h.elim)
    (fun cdv A outer s H E hr => d__law_odd)
    (fun ds M Q hc h => body_odd h)
theorem ok__law_is {k : Nat} (F : FnP K "_law_is" s__law_is ff fd) (n_isinstance : mg "isinstance" = none) (n_bool : mg "bool" = none) : FnOk P w K mg base CX0 (k + 1) ff fd ["told", "due"] (upSp K (sp_is)) :=
  def_ok F sc__law_is (by
      intro ds M Q h
      unfold sp_is at h
      split at h
      · rfl
      · exact h.elim)
    (fun cdv A outer s H E hr => d__law_is n_isinstance n_bool hr.units)
    (fun ds M Q hc h => body_is ds M Q hc h)
theorem ok_is_integer {k : Nat} (F : FnP K "is_integer" s_is_integer ff fd) (n_isinstance : mg "isinstance" = none) (n_int : mg "int" = none) (n_bool : mg "bool" = none) : FnOk P w K mg base CX0 (k + 1) ff fd ["value"] (upSp K (sp_is_integer)) :=
  def_ok F sc_is_integer (by
      intro ds M Q h
      unfold sp_is_integer at h
      split at h
      · rfl
      · exact h.elim)
    (fun cdv A outer s H E hr => d_is_integer n_isinstance n_int n_bool)
    (fun ds M Q hc h => body_is_integer h)
theorem ok_divisor_of {k : Nat} (F : FnP K "divisor_of" s_divisor_of ff fd) (n_abs : mg "abs" = none) : FnOk P w K mg base CX0 (k + 1) ff fd ["one", "other"] (upSp K (sp_divisor_of)) :=
  def_ok F sc_divisor_of (by
      intro ds M Q h
      unfold sp_divisor_of at h
      split at h
      · rfl
      · exact h.elim)
    (fun cdv A outer s H E hr => d_divisor_of n_abs)
    (fun ds M Q hc h => body_divisor_of h)
theorem ok_is_fraction {k : Nat} (F : FnP K "is_fraction" s_is_fraction ff fd) (c_is_integer_1 : ∀ A' : Around, Room k A' → Can P w K mg base A' "is_integer" [] (sp_is_integer)) (c_divisor_of_2 : ∀ A' : Around, Room k A' → Can P w K mg base A' "divisor_of" [] (sp_divisor_of)) (n_isinstance : mg "isinstance" = none) (n_tuple : mg "tuple" = none) (n_len : mg "len" = none) : FnOk P w K mg base CX0 (k + 1) ff fd ["value"] (upSp K (sp_is_fraction)) :=
  def_ok F sc_is_fraction (by
      intro ds M Q h
      unfold sp_is_fraction at h
      split at h
      · rfl
      · exact h.elim)
    (fun cdv A outer s H E hr => d_is_fraction (c_is_integer_1 _ hr) (c_divisor_of_2 _ hr) n_isinstance n_tuple n_len hr.units)
    (fun ds M Q hc h => body_is_fraction h)
theorem ok__law_judged {k : Nat} (F : FnP K "_law_judged" s__law_judged ff fd) (c__law_odd_0 : ∀ A' : Around, Room k A' → Can P w K mg base A' "_law_odd" [] (sp_odd)) (c__law_is_2 : ∀ A' : Around, Room k A' → Can P w K mg base A' "_law_is" [] (sp_is)) (c_is_fraction_1 : ∀ A' : Around, Room k A' → Can P w K mg base A' "is_fraction" [] (sp_is_fraction)) (c__law_one_2 : ∀ A' : Around, Room k A' → Can P w K mg base A' "_law_one" [] (sp_one)) (n_isinstance : mg "isinstance" = none) (n_tuple : mg "tuple" = none) (n_str : mg "str" = none) (n_list : mg "list" = none) : FnOk P w K mg base CX0 (k + 1) ff fd ["well", "one"] (upSp K (sp_judged)) :=
  def_ok F sc__law_judged (by
      intro ds M Q h
      unfold sp_judged at h
      split at h
      · rfl
      · exact h.elim)
    (fun cdv A outer s H E hr => d__law_judged (c__law_odd_0 _ hr) (c__law_is_2 _ hr) (c_is_fraction_1 _ hr) (c__law_one_2 _ hr) n_isinstance n_tuple n_str n_list hr.units)
    (fun ds M Q hc h => body_judged h)
theorem ok__law_like {k : Nat} (F : FnP K "_law_like" s__law_like ff fd) (c__law_like_2 : ∀ A' : Around, Room k A' → Can P w K mg base A' "_law_like" [] (sp_like k)) (n_isinstance : mg "isinstance" = none) (n_tuple : mg "tuple" = none) (n_len : mg "len" = none) (n_all : mg "all" = none) (n_range : mg "range" = none) (n_bool : mg "bool" = none) (n_str : mg "str" = none) (n_int : mg "int" = none) : FnOk P w K mg base CX0 (k + 1) ff fd ["told", "due"] (upSp K (sp_like (k + 1))) :=
  def_ok F sc__law_like (by
      intro ds M Q h
      change spLikeS k ds M Q at h
      unfold spLikeS at h
      split at h
      · rfl
      · exact h.elim)
    (fun cdv A outer s H E hr => d__law_like (c__law_like_2 _ hr) n_isinstance n_tuple n_len n_all n_range n_bool n_str n_int hr.units)
    (fun ds M Q hc h => body_like k ds M Q hc h)
theorem ok_fraction_of {k : Nat} (F : FnP K "fraction_of" s_fraction_of ff fd) (c_divisor_of_2 : ∀ A' : Around, Room k A' → Can P w K mg base A' "divisor_of" [] (sp_divisor_of)) : FnOk P w K mg base CX0 (k + 1) ff fd ["top", "bottom"] (upSp K (sp_fraction_of)) :=
  def_ok F sc_fraction_of (by
      intro ds M Q h
      unfold sp_fraction_of at h
      split at h
      · rfl
      · exact h.elim)
    (fun cdv A outer s H E hr => d_fraction_of (c_divisor_of_2 _ hr))
    (fun ds M Q hc h => body_fraction_of h)
theorem ok__law_plus {k : Nat} (F : FnP K "_law_plus" s__law_plus ff fd) (c__law_low_2 : ∀ A' : Around, Room k A' → Can P w K mg base A' "_law_low" [] (sp_fraction_of)) : FnOk P w K mg base CX0 (k + 1) ff fd ["one", "other"] (upSp K (sp_plus)) :=
  def_ok F sc__law_plus (by
      intro ds M Q h
      unfold sp_plus spF2 at h
      split at h
      · rfl
      · exact h.elim)
    (fun cdv A outer s H E hr => d__law_plus (c__law_low_2 _ hr))
    (fun ds M Q hc h => body__law_plus h)
theorem ok_plus {k : Nat} (F : FnP K "plus" s_plus ff fd) (c_fraction_of_2 : ∀ A' : Around, Room k A' → Can P w K mg base A' "fraction_of" [] (sp_fraction_of)) : FnOk P w K mg base CX0 (k + 1) ff fd ["one", "other"] (upSp K (sp_plus)) :=
  def_ok F sc_plus (by
      intro ds M Q h
      unfold sp_plus spF2 at h
      split at h
      · rfl
      · exact h.elim)
    (fun cdv A outer s H E hr => d_plus (c_fraction_of_2 _ hr) hr.units)
    (fun ds M Q hc h => body_plus h)
theorem ok__law_times {k : Nat} (F : FnP K "_law_times" s__law_times ff fd) (c__law_low_2 : ∀ A' : Around, Room k A' → Can P w K mg base A' "_law_low" [] (sp_fraction_of)) : FnOk P w K mg base CX0 (k + 1) ff fd ["one", "other"] (upSp K (sp_times)) :=
  def_ok F sc__law_times (by
      intro ds M Q h
      unfold sp_times spF2 at h
      split at h
      · rfl
      · exact h.elim)
    (fun cdv A outer s H E hr => d__law_times (c__law_low_2 _ hr))
    (fun ds M Q hc h => body__law_times h)
theorem ok_times {k : Nat} (F : FnP K "times" s_times ff fd) (c_fraction_of_2 : ∀ A' : Around, Room k A' → Can P w K mg base A' "fraction_of" [] (sp_fraction_of)) : FnOk P w K mg base CX0 (k + 1) ff fd ["one", "other"] (upSp K (sp_times)) :=
  def_ok F sc_times (by
      intro ds M Q h
      unfold sp_times spF2 at h
      split at h
      · rfl
      · exact h.elim)
    (fun cdv A outer s H E hr => d_times (c_fraction_of_2 _ hr) hr.units)
    (fun ds M Q hc h => body_times h)
theorem ok_over {k : Nat} (F : FnP K "over" s_over ff fd) (c_fraction_of_2 : ∀ A' : Around, Room k A' → Can P w K mg base A' "fraction_of" [] (sp_fraction_of)) : FnOk P w K mg base CX0 (k + 1) ff fd ["one", "other"] (upSp K (sp_over)) :=
  def_ok F sc_over (by
      intro ds M Q h
      unfold sp_over spF2 at h
      split at h
      · rfl
      · exact h.elim)
    (fun cdv A outer s H E hr => d_over (c_fraction_of_2 _ hr))
    (fun ds M Q hc h => body_over h)
theorem ok_power_of {k : Nat} (F : FnP K "power_of" s_power_of ff fd) (c_times_2 : ∀ A' : Around, Room k A' → Can P w K mg base A' "times" [] (sp_times)) (g_ONE : GC K mg "ONE" (.tup [(.int 1), (.int 1)])) (n_range : mg "range" = none) : FnOk P w K mg base CX0 (k + 1) ff fd ["fraction", "many"] (upSp K (sp_power_of)) :=
  def_ok F sc_power_of (by
      intro ds M Q h
      unfold sp_power_of at h
      split at h
      · rfl
      · exact h.elim)
    (fun cdv A outer s H E hr => d_power_of (c_times_2 _ hr) g_ONE n_range)
    (fun ds M Q hc h => body_power_of h)
theorem ok_is_below {k : Nat} (F : FnP K "is_below" s_is_below ff fd) : FnOk P w K mg base CX0 (k + 1) ff fd ["one", "other"] (upSp K (sp_is_below)) :=
  def_ok F sc_is_below (by
      intro ds M Q h
      unfold sp_is_below spF2 at h
      split at h
      · rfl
      · exact h.elim)
    (fun cdv A outer s H E hr => d_is_below)
    (fun ds M Q hc h => body_is_below h)
theorem ok_minus {k : Nat} (F : FnP K "minus" s_minus ff fd) (c_plus_2 : ∀ A' : Around, Room k A' → Can P w K mg base A' "plus" [] (sp_plus)) : FnOk P w K mg base CX0 (k + 1) ff fd ["one", "other"] (upSp K (sp_minus)) :=
  def_ok F sc_minus (by
      intro ds M Q h
      unfold sp_minus spF2 at h
      split at h
      · rfl
      · exact h.elim)
    (fun cdv A outer s H E hr => d_minus (c_plus_2 _ hr))
    (fun ds M Q hc h => body_minus h)
theorem ok__law_sums {k : Nat} (F : FnP K "_law_sums" s__law_sums ff fd) (c__law_dip_2 : ∀ A' : Around, Room k A' → Can P w K mg base A' "_law_dip" [] (sp_dip)) (c__law_pair_1 : ∀ A' : Around, Room k A' → Can P w K mg base A' "_law_pair" [] (sp_pair)) (c__law_judged_2 : ∀ A' : Around, Room k A' → Can P w K mg base A' "_law_judged" [] (sp_judged)) (c__law_integer_1 : ∀ A' : Around, Room k A' → Can P w K mg base A' "_law_integer" [] (sp_integer)) (c__law_like_2 : ∀ A' : Around, Room k A' → Can P w K mg base A' "_law_like" [] (sp_like 2)) (c__law_low_2 : ∀ A' : Around, Room k A' → Can P w K mg base A' "_law_low" [] (sp_fraction_of)) (c_fraction_of_2 : ∀ A' : Around, Room k A' → Can P w K mg base A' "fraction_of" [] (sp_fraction_of)) (c__law_plus_2 : ∀ A' : Around, Room k A' → Can P w K mg base A' "_law_plus" [] (sp_plus)) (c_plus_2 : ∀ A' : Around, Room k A' → Can P w K mg base A' "plus" [] (sp_plus)) (c__law_times_2 : ∀ A' : Around, Room k A' → Can P w K mg base A' "_law_times" [] (sp_times)) (c_times_2 : ∀ A' : Around, Room k A' → Can P w K mg base A' "times" [] (sp_times)) (c_over_2 : ∀ A' : Around, Room k A' → Can P w K mg base A' "over" [] (sp_over)) (c_power_of_2 : ∀ A' : Around, Room k A' → Can P w K mg base A' "power_of" [] (sp_power_of)) (c__law_is_2 : ∀ A' : Around, Room k A' → Can P w K mg base A' "_law_is" [] (sp_is)) (c_is_below_2 : ∀ A' : Around, Room k A' → Can P w K mg base A' "is_below" [] (sp_is_below)) (k_minus_1_other : ∀ A' : Around, Room k A' → CanK P w K mg base A' "minus" 1 ["other"] [(0, 0), (1, 0)] (sp_minus)) (n_range : mg "range" = none) : FnOk P w K mg base CX0 (k + 1) ff fd ["well"] (upSp K (spW 60)) :=
  def_ok F sc__law_sums (by
      intro ds M Q h
      unfold spW at h
      split at h
      · rfl
      · exact h.elim)
    (fun cdv A outer s H E hr => d__law_sums (c__law_dip_2 _ hr) (c__law_pair_1 _ hr) (c__law_judged_2 _ hr) (c__law_integer_1 _ hr) (c__law_like_2 _ hr) (c__law_low_2 _ hr) (c_fraction_of_2 _ hr) (c__law_plus_2 _ hr) (c_plus_2 _ hr) (c__law_times_2 _ hr) (c_times_2 _ hr) (c_over_2 _ hr) (c_power_of_2 _ hr) (c__law_is_2 _ hr) (c_is_below_2 _ hr) (k_minus_1_other _ hr) n_range hr.units)
    (fun ds M Q hc h => body_sums h)
theorem ok__law_rows {k : Nat} (F : FnP K "_law_rows" s__law_rows ff fd) (n_range : mg "range" = none) (n_len : mg "len" = none) : FnOk P w K mg base CX0 (k + 1) ff fd ["many"] (upSp K (sp_rows)) :=
  def_ok F sc__law_rows (by
      intro ds M Q h
      unfold sp_rows at h
      split at h
      · rfl
      · exact h.elim)
    (fun cdv A outer s H E hr => d__law_rows n_range n_len)
    (fun ds M Q hc h => body_rows h)
theorem ok__law_lots {k : Nat} (F : FnP K "_law_lots" s__law_lots ff fd) (c__law_rows_1 : ∀ A' : Around, Room k A' → Can P w K mg base A' "_law_rows" [] (sp_rows)) (n_int : mg "int" = none) : FnOk P w K mg base CX0 (k + 1) ff fd ["top", "many"] (upSp K (sp_lots)) :=
  def_ok F sc__law_lots (by
      intro ds M Q h
      unfold sp_lots at h
      split at h
      · rfl
      · exact h.elim)
    (fun cdv A outer s H E hr => d__law_lots (c__law_rows_1 _ hr) n_int)
    (fun ds M Q hc h => body_lots hc h)
theorem ok_binomial {k : Nat} (F : FnP K "binomial" s_binomial ff fd) (n_range : mg "range" = none) : FnOk P w K mg base CX0 (k + 1) ff fd ["top", "many"] (upSp K (sp_binomial)) :=
  def_ok F sc_binomial (by
      intro ds M Q h
      unfold sp_binomial at h
      split at h
      · rfl
      · exact h.elim)
    (fun cdv A outer s H E hr => d_binomial n_range)
    (fun ds M Q hc h => body_binomial h)
theorem ok_binomial_at {k : Nat} (F : FnP K "binomial_at" s_binomial_at ff fd) (c_times_2 : ∀ A' : Around, Room k A' → Can P w K mg base A' "times" [] (sp_times)) (c_over_2 : ∀ A' : Around, Room k A' → Can P w K mg base A' "over" [] (sp_over)) (c_minus_2 : ∀ A' : Around, Room k A' → Can P w K mg base A' "minus" [] (sp_minus)) (g_ONE : GC K mg "ONE" (.tup [(.int 1), (.int 1)])) (n_range : mg "range" = none) : FnOk P w K mg base CX0 (k + 1) ff fd ["top", "many"] (upSp K (sp_binomial_at)) :=
  def_ok F sc_binomial_at (by
      intro ds M Q h
      unfold sp_binomial_at at h
      split at h
      · rfl
      · exact h.elim)
    (fun cdv A outer s H E hr => d_binomial_at (c_times_2 _ hr) (c_over_2 _ hr) (c_minus_2 _ hr) g_ONE n_range)
    (fun ds M Q hc h => body_binomial_at h)
theorem ok__law_binomials {k : Nat} (F : FnP K "_law_binomials" s__law_binomials ff fd) (c__law_dip_2 : ∀ A' : Around, Room k A' → Can P w K mg base A' "_law_dip" [] (sp_dip)) (c__law_like_2 : ∀ A' : Around, Room k A' → Can P w K mg base A' "_law_like" [] (sp_like 2)) (c__law_lots_2 : ∀ A' : Around, Room k A' → Can P w K mg base A' "_law_lots" [] (sp_lots)) (c_binomial_2 : ∀ A' : Around, Room k A' → Can P w K mg base A' "binomial" [] (sp_binomial)) (c__law_low_2 : ∀ A' : Around, Room k A' → Can P w K mg base A' "_law_low" [] (sp_fraction_of)) (c_binomial_at_2 : ∀ A' : Around, Room k A' → Can P w K mg base A' "binomial_at" [] (sp_binomial_at)) (n_range : mg "range" = none) : FnOk P w K mg base CX0 (k + 1) ff fd ["well"] (upSp K (spW 10)) :=
  def_ok F sc__law_binomials (by
      intro ds M Q h
      unfold spW at h
      split at h
      · rfl
      · exact h.elim)
    (fun cdv A outer s H E hr => d__law_binomials (c__law_dip_2 _ hr) (c__law_like_2 _ hr) (c__law_lots_2 _ hr) (c_binomial_2 _ hr) (c__law_low_2 _ hr) (c_binomial_at_2 _ hr) n_range)
    (fun ds M Q hc h => body_binomials h)
theorem ok_law {k : Nat} (F : FnP K "law" s_law ff fd) (c__law_well_2 : ∀ A' : Around, Room k A' → Can P w K mg base A' "_law_well" [] (sp_well)) (c__law_sums_1 : ∀ A' : Around, Room k A' → Can P w K mg base A' "_law_sums" [] (spW 60)) (c__law_binomials_1 : ∀ A' : Around, Room k A' → Can P w K mg base A' "_law_binomials" [] (spW 10)) (n_range : mg "range" = none) : FnOk P w K mg base CX0 (k + 1) ff fd ["script"] (upSp K (sp_law)) :=
  def_ok F sc_law (fun ds M Q h => by
      obtain ⟨ns, rfl, _⟩ := h
      rfl)
    (fun cdv A outer s H E hr => d_law (c__law_well_2 _ hr) (c__law_sums_1 _ hr) (c__law_binomials_1 _ hr) n_range)
    (fun ds M Q hc h => body_law hc h)
end
def h__law_well : He.DefD := ⟨("_law_well", none), "_law_well", "_law_well", defArgs s__law_well, defBody s__law_well, defScope s__law_well, [], []⟩
def h__law_dip : He.DefD := ⟨("_law_dip", none), "_law_dip", "_law_dip", defArgs s__law_dip, defBody s__law_dip, defScope s__law_dip, [], []⟩
def h__law_one : He.DefD := ⟨("_law_one", none), "_law_one", "_law_one", defArgs s__law_one, defBody s__law_one, defScope s__law_one, [], []⟩
def h__law_integer : He.DefD := ⟨("_law_integer", none), "_law_integer", "_law_integer", defArgs s__law_integer, defBody s__law_integer, defScope s__law_integer, [], []⟩
def h__law_gcd : He.DefD := ⟨("_law_gcd", none), "_law_gcd", "_law_gcd", defArgs s__law_gcd, defBody s__law_gcd, defScope s__law_gcd, [], []⟩
def h__law_low : He.DefD := ⟨("_law_low", none), "_law_low", "_law_low", defArgs s__law_low, defBody s__law_low, defScope s__law_low, [], []⟩
def h__law_pair : He.DefD := ⟨("_law_pair", none), "_law_pair", "_law_pair", defArgs s__law_pair, defBody s__law_pair, defScope s__law_pair, [], []⟩
def h__law_odd : He.DefD := ⟨("_law_odd", none), "_law_odd", "_law_odd", defArgs s__law_odd, defBody s__law_odd, defScope s__law_odd, [], []⟩
def h__law_is : He.DefD := ⟨("_law_is", none), "_law_is", "_law_is", defArgs s__law_is, defBody s__law_is, defScope s__law_is, [], []⟩
def h_is_integer : He.DefD := ⟨("is_integer", none), "is_integer", "is_integer", defArgs s_is_integer, defBody s_is_integer, defScope s_is_integer, [], []⟩
def h_divisor_of : He.DefD := ⟨("divisor_of", none), "divisor_of", "divisor_of", defArgs s_divisor_of, defBody s_divisor_of, defScope s_divisor_of, [], []⟩
def h_is_fraction : He.DefD := ⟨("is_fraction", none), "is_fraction", "is_fraction", defArgs s_is_fraction, defBody s_is_fraction, defScope s_is_fraction, [], []⟩
def h__law_judged : He.DefD := ⟨("_law_judged", none), "_law_judged", "_law_judged", defArgs s__law_judged, defBody s__law_judged, defScope s__law_judged, [], []⟩
def h__law_like : He.DefD := ⟨("_law_like", none), "_law_like", "_law_like", defArgs s__law_like, defBody s__law_like, defScope s__law_like, [], []⟩
def h_fraction_of : He.DefD := ⟨("fraction_of", none), "fraction_of", "fraction_of", defArgs s_fraction_of, defBody s_fraction_of, defScope s_fraction_of, [], []⟩
def h__law_plus : He.DefD := ⟨("_law_plus", none), "_law_plus", "_law_plus", defArgs s__law_plus, defBody s__law_plus, defScope s__law_plus, [], []⟩
def h_plus : He.DefD := ⟨("plus", none), "plus", "plus", defArgs s_plus, defBody s_plus, defScope s_plus, [], []⟩
def h__law_times : He.DefD := ⟨("_law_times", none), "_law_times", "_law_times", defArgs s__law_times, defBody s__law_times, defScope s__law_times, [], []⟩
def h_times : He.DefD := ⟨("times", none), "times", "times", defArgs s_times, defBody s_times, defScope s_times, [], []⟩
def h_over : He.DefD := ⟨("over", none), "over", "over", defArgs s_over, defBody s_over, defScope s_over, [], []⟩
def h_power_of : He.DefD := ⟨("power_of", none), "power_of", "power_of", defArgs s_power_of, defBody s_power_of, defScope s_power_of, [], []⟩
def h_is_below : He.DefD := ⟨("is_below", none), "is_below", "is_below", defArgs s_is_below, defBody s_is_below, defScope s_is_below, [], []⟩
def h_minus : He.DefD := ⟨("minus", none), "minus", "minus", defArgs s_minus, defBody s_minus, defScope s_minus, [], []⟩
def h__law_sums : He.DefD := ⟨("_law_sums", none), "_law_sums", "_law_sums", defArgs s__law_sums, defBody s__law_sums, defScope s__law_sums, [], []⟩
def h__law_rows : He.DefD := ⟨("_law_rows", none), "_law_rows", "_law_rows", defArgs s__law_rows, defBody s__law_rows, defScope s__law_rows, [], []⟩
def h__law_lots : He.DefD := ⟨("_law_lots", none), "_law_lots", "_law_lots", defArgs s__law_lots, defBody s__law_lots, defScope s__law_lots, [], []⟩
def h_binomial : He.DefD := ⟨("binomial", none), "binomial", "binomial", defArgs s_binomial, defBody s_binomial, defScope s_binomial, [], []⟩
def h_binomial_at : He.DefD := ⟨("binomial_at", none), "binomial_at", "binomial_at", defArgs s_binomial_at, defBody s_binomial_at, defScope s_binomial_at, [], []⟩
def h__law_binomials : He.DefD := ⟨("_law_binomials", none), "_law_binomials", "_law_binomials", defArgs s__law_binomials, defBody s__law_binomials, defScope s__law_binomials, [], []⟩
def h_law : He.DefD := ⟨("law", none), "law", "law", defArgs s_law, defBody s_law, defScope s_law, [], []⟩
def fn : List He.DefD := [h__law_well, h__law_dip, h__law_one, h__law_integer, h__law_gcd, h__law_low, h__law_pair, h__law_odd, h__law_is, h_is_integer, h_divisor_of, h_is_fraction, h__law_judged, h__law_like, h_fraction_of, h__law_plus, h_plus, h__law_times, h_times, h_over, h_power_of, h_is_below, h_minus, h__law_sums, h__law_rows, h__law_lots, h_binomial, h_binomial_at, h__law_binomials, h_law]
def fa : List He.Fa := [.glo "_law_well", .glo "_law_dip", .glo "_law_one", .glo "_law_integer", .glo "_law_gcd", .glo "_law_low", .glo "_law_pair", .glo "_law_odd", .glo "_law_is", .glo "is_integer", .glo "divisor_of", .glo "is_fraction", .glo "_law_judged", .glo "_law_like", .glo "fraction_of", .glo "_law_plus", .glo "plus", .glo "_law_times", .glo "times", .glo "over", .glo "power_of", .glo "is_below", .glo "minus", .glo "_law_sums", .glo "_law_rows", .glo "_law_lots", .glo "binomial", .glo "binomial_at", .glo "_law_binomials", .glo "law", .free "len", .free "int", .free "abs", .free "isinstance", .free "bool", .free "tuple", .free "str", .free "list", .free "all", .free "range"]
def cs : List (Str × D) := [("ONE", (.tup [(.int 1), (.int 1)]))]
abbrev R : PySem.W.OpenRow := PySem.W.OpenLaw.row PySem.Challenge.rw_slopesumskept_k07_fractions_and_binomial
abbrev hk : PySem.W.Hook := hookC 4 fa cs fn
def ob (s : PySem.W.SharedT) : He.AlD := obsCG 4 fa cs fn (HandSHeadRun.getT s)
theorem ob_eq (s : PySem.W.SharedT) : ob s = hk.obs s.abs := obsCG_eq (HandSHeadRun.getT_eq s)
def loose0 : List Str := ["is_integer", "ONE", "divisor_of", "is_fraction", "fraction_of", "plus", "minus", "times", "over", "power_of", "is_below", "binomial", "binomial_at", "_law_well", "_law_dip", "_law_one", "_law_like", "_law_is", "_law_gcd", "_law_low", "_law_plus", "_law_times", "_law_odd", "_law_integer", "_law_pair", "_law_rows", "_law_lots", "_law_judged", "_law_sums", "_law_binomials"]
def loose : List Str := loose0
theorem run (w : World) : HandSHeadRun.RunEq R (PySem.W.view R.prog [33]) hk ob 1760 loose w := by
  intro os
  kernel_rfl
theorem facts {P : Program} {w : World} {K : PySem.W.Frag} {h : Heap} {mg : Str → Option Value} {f : Addr} (X : K.In h) (G : h.Ns mainGlobals mg) (hfa : mg ("law" : Str) = some (.ref f)) (c : SaysC fa cs fn K) :
    ∃ fd : FuncData, (∀ (s : Shared) (v : Value), BindsTo s fd ⟨[v], []⟩ [("script", v)]) ∧ ∀ base : Heap, K.In base → base.Ns mainGlobals mg → FnOk P w K mg base CX0 7 f fd ["script"] (upSp K (sp_law)) := by
  obtain ⟨fd__law_well, F__law_well⟩ := c.d.def_ 0 (d := h__law_well) rfl
  have m__law_well := He.glo_ok X G (c.d.fact 0 (f := .glo "_law_well") rfl)
  obtain ⟨fd__law_dip, F__law_dip⟩ := c.d.def_ 1 (d := h__law_dip) rfl
  have m__law_dip := He.glo_ok X G (c.d.fact 1 (f := .glo "_law_dip") rfl)
  obtain ⟨fd__law_one, F__law_one⟩ := c.d.def_ 2 (d := h__law_one) rfl
  have m__law_one := He.glo_ok X G (c.d.fact 2 (f := .glo "_law_one") rfl)
  obtain ⟨fd__law_integer, F__law_integer⟩ := c.d.def_ 3 (d := h__law_integer) rfl
  have m__law_integer := He.glo_ok X G (c.d.fact 3 (f := .glo "_law_integer") rfl)
  obtain ⟨fd__law_gcd, F__law_gcd⟩ := c.d.def_ 4 (d := h__law_gcd) rfl
  have m__law_gcd := He.glo_ok X G (c.d.fact 4 (f := .glo "_law_gcd") rfl)
  obtain ⟨fd__law_low, F__law_low⟩ := c.d.def_ 5 (d := h__law_low) rfl
  have m__law_low := He.glo_ok X G (c.d.fact 5 (f := .glo "_law_low") rfl)
  obtain ⟨fd__law_pair, F__law_pair⟩ := c.d.def_ 6 (d := h__law_pair) rfl
  have m__law_pair := He.glo_ok X G (c.d.fact 6 (f := .glo "_law_pair") rfl)
  obtain ⟨fd__law_odd, F__law_odd⟩ := c.d.def_ 7 (d := h__law_odd) rfl
  have m__law_odd := He.glo_ok X G (c.d.fact 7 (f := .glo "_law_odd") rfl)
  obtain ⟨fd__law_is, F__law_is⟩ := c.d.def_ 8 (d := h__law_is) rfl
  have m__law_is := He.glo_ok X G (c.d.fact 8 (f := .glo "_law_is") rfl)
  obtain ⟨fd_is_integer, F_is_integer⟩ := c.d.def_ 9 (d := h_is_integer) rfl
  have m_is_integer := He.glo_ok X G (c.d.fact 9 (f := .glo "is_integer") rfl)
  obtain ⟨fd_divisor_of, F_divisor_of⟩ := c.d.def_ 10 (d := h_divisor_of) rfl
  have m_divisor_of := He.glo_ok X G (c.d.fact 10 (f := .glo "divisor_of") rfl)
  obtain ⟨fd_is_fraction, F_is_fraction⟩ := c.d.def_ 11 (d := h_is_fraction) rfl
  have m_is_fraction := He.glo_ok X G (c.d.fact 11 (f := .glo "is_fraction") rfl)
  obtain ⟨fd__law_judged, F__law_judged⟩ := c.d.def_ 12 (d := h__law_judged) rfl
  have m__law_judged := He.glo_ok X G (c.d.fact 12 (f := .glo "_law_judged") rfl)
  obtain ⟨fd__law_like, F__law_like⟩ := c.d.def_ 13 (d := h__law_like) rfl
  have m__law_like := He.glo_ok X G (c.d.fact 13 (f := .glo "_law_like") rfl)
  obtain ⟨fd_fraction_of, F_fraction_of⟩ := c.d.def_ 14 (d := h_fraction_of) rfl
  have m_fraction_of := He.glo_ok X G (c.d.fact 14 (f := .glo "fraction_of") rfl)
  obtain ⟨fd__law_plus, F__law_plus⟩ := c.d.def_ 15 (d := h__law_plus) rfl
  have m__law_plus := He.glo_ok X G (c.d.fact 15 (f := .glo "_law_plus") rfl)
  obtain ⟨fd_plus, F_plus⟩ := c.d.def_ 16 (d := h_plus) rfl
  have m_plus := He.glo_ok X G (c.d.fact 16 (f := .glo "plus") rfl)
  obtain ⟨fd__law_times, F__law_times⟩ := c.d.def_ 17 (d := h__law_times) rfl
  have m__law_times := He.glo_ok X G (c.d.fact 17 (f := .glo "_law_times") rfl)
  obtain ⟨fd_times, F_times⟩ := c.d.def_ 18 (d := h_times) rfl
  have m_times := He.glo_ok X G (c.d.fact 18 (f := .glo "times") rfl)
  obtain ⟨fd_over, F_over⟩ := c.d.def_ 19 (d := h_over) rfl
  have m_over := He.glo_ok X G (c.d.fact 19 (f := .glo "over") rfl)
  obtain ⟨fd_power_of, F_power_of⟩ := c.d.def_ 20 (d := h_power_of) rfl
  have m_power_of := He.glo_ok X G (c.d.fact 20 (f := .glo "power_of") rfl)
  obtain ⟨fd_is_below, F_is_below⟩ := c.d.def_ 21 (d := h_is_below) rfl
  have m_is_below := He.glo_ok X G (c.d.fact 21 (f := .glo "is_below") rfl)
  obtain ⟨fd_minus, F_minus⟩ := c.d.def_ 22 (d := h_minus) rfl
  have m_minus := He.glo_ok X G (c.d.fact 22 (f := .glo "minus") rfl)
  obtain ⟨fd__law_sums, F__law_sums⟩ := c.d.def_ 23 (d := h__law_sums) rfl
  have m__law_sums := He.glo_ok X G (c.d.fact 23 (f := .glo "_law_sums") rfl)
  obtain ⟨fd__law_rows, F__law_rows⟩ := c.d.def_ 24 (d := h__law_rows) rfl
  have m__law_rows := He.glo_ok X G (c.d.fact 24 (f := .glo "_law_rows") rfl)
  obtain ⟨fd__law_lots, F__law_lots⟩ := c.d.def_ 25 (d := h__law_lots) rfl
  have m__law_lots := He.glo_ok X G (c.d.fact 25 (f := .glo "_law_lots") rfl)
  obtain ⟨fd_binomial, F_binomial⟩ := c.d.def_ 26 (d := h_binomial) rfl
  have m_binomial := He.glo_ok X G (c.d.fact 26 (f := .glo "binomial") rfl)
  obtain ⟨fd_binomial_at, F_binomial_at⟩ := c.d.def_ 27 (d := h_binomial_at) rfl
  have m_binomial_at := He.glo_ok X G (c.d.fact 27 (f := .glo "binomial_at") rfl)
  obtain ⟨fd__law_binomials, F__law_binomials⟩ := c.d.def_ 28 (d := h__law_binomials) rfl
  have m__law_binomials := He.glo_ok X G (c.d.fact 28 (f := .glo "_law_binomials") rfl)
  obtain ⟨fd_law, F_law⟩ := c.d.def_ 29 (d := h_law) rfl
  have m_law := He.glo_ok X G (c.d.fact 29 (f := .glo "law") rfl)
  have n_len := He.free_ok X G (c.d.fact 30 (f := .free "len") rfl)
  have n_int := He.free_ok X G (c.d.fact 31 (f := .free "int") rfl)
  have n_abs := He.free_ok X G (c.d.fact 32 (f := .free "abs") rfl)
  have n_isinstance := He.free_ok X G (c.d.fact 33 (f := .free "isinstance") rfl)
  have n_bool := He.free_ok X G (c.d.fact 34 (f := .free "bool") rfl)
  have n_tuple := He.free_ok X G (c.d.fact 35 (f := .free "tuple") rfl)
  have n_str := He.free_ok X G (c.d.fact 36 (f := .free "str") rfl)
  have n_list := He.free_ok X G (c.d.fact 37 (f := .free "list") rfl)
  have n_all := He.free_ok X G (c.d.fact 38 (f := .free "all") rfl)
  have n_range := He.free_ok X G (c.d.fact 39 (f := .free "range") rfl)
  have g_ONE : GC K mg "ONE" (.tup [(.int 1), (.int 1)]) := gc_ok X G (c.con 0 rfl)
  have e := hfa.symm.trans m_law
  cases e
  have b := FunD.bindsA (ps := ["script"]) F_law fun _ _ _ _ _ _ us hl => match us, hl with | [_], _ => rfl
  refine ⟨fd_law, fun s v => b s [v] rfl, fun base _ _ => ?_⟩
  have O__law_well : FnOk P w K mg base CX0 1 (He.ga K "_law_well") fd__law_well ["script", "k"] (upSp K (sp_well)) := ok__law_well (k := 0) F__law_well n_len n_int n_abs
  have C__law_well_2 : ∀ (j : Nat) (A' : Around), 1 ≤ j → Room j A' → Can P w K mg base A' "_law_well" [] (sp_well) := fun j A' hk hr => can_mk O__law_well hr hk m__law_well F__law_well.kp (F__law_well.bindsN fun _ _ _ _ _ _ us hl => match us, hl with | [_, _], _ => rfl) .nil (fun _ => .nil) (sp_well_mono)
  have O__law_dip : FnOk P w K mg base CX0 1 (He.ga K "_law_dip") fd__law_dip ["well", "many"] (upSp K (sp_dip)) := ok__law_dip (k := 0) F__law_dip n_int
  have C__law_dip_2 : ∀ (j : Nat) (A' : Around), 1 ≤ j → Room j A' → Can P w K mg base A' "_law_dip" [] (sp_dip) := fun j A' hk hr => can_mk O__law_dip hr hk m__law_dip F__law_dip.kp (F__law_dip.bindsN fun _ _ _ _ _ _ us hl => match us, hl with | [_, _], _ => rfl) .nil (fun _ => .nil) (sp_dip_mono)
  have O__law_one : FnOk P w K mg base CX0 2 (He.ga K "_law_one") fd__law_one ["well", "some"] (upSp K (sp_one)) := ok__law_one (k := 1) F__law_one (fun A' hr => C__law_dip_2 1 A' (by decide) hr) n_len
  have C__law_one_2 : ∀ (j : Nat) (A' : Around), 2 ≤ j → Room j A' → Can P w K mg base A' "_law_one" [] (sp_one) := fun j A' hk hr => can_mk O__law_one hr hk m__law_one F__law_one.kp (F__law_one.bindsN fun _ _ _ _ _ _ us hl => match us, hl with | [_, _], _ => rfl) .nil (fun _ => .nil) (sp_one_mono)
  have O__law_integer : FnOk P w K mg base CX0 3 (He.ga K "_law_integer") fd__law_integer ["well"] (upSp K (sp_integer)) := ok__law_integer (k := 2) F__law_integer (fun A' hr => C__law_one_2 2 A' (by decide) hr) (fun A' hr => C__law_dip_2 2 A' (by decide) hr)
  have C__law_integer_1 : ∀ (j : Nat) (A' : Around), 3 ≤ j → Room j A' → Can P w K mg base A' "_law_integer" [] (sp_integer) := fun j A' hk hr => can_mk O__law_integer hr hk m__law_integer F__law_integer.kp (F__law_integer.bindsN fun _ _ _ _ _ _ us hl => match us, hl with | [_], _ => rfl) .nil (fun _ => .nil) (sp_integer_mono)
  have O__law_gcd : FnOk P w K mg base CX0 1 (He.ga K "_law_gcd") fd__law_gcd ["one", "other"] (upSp K (sp_divisor_of)) := ok__law_gcd (k := 0) F__law_gcd n_abs n_int
  have C__law_gcd_2 : ∀ (j : Nat) (A' : Around), 1 ≤ j → Room j A' → Can P w K mg base A' "_law_gcd" [] (sp_divisor_of) := fun j A' hk hr => can_mk O__law_gcd hr hk m__law_gcd F__law_gcd.kp (F__law_gcd.bindsN fun _ _ _ _ _ _ us hl => match us, hl with | [_, _], _ => rfl) .nil (fun _ => .nil) (sp_divisor_of_mono)
  have O__law_low : FnOk P w K mg base CX0 2 (He.ga K "_law_low") fd__law_low ["top", "bottom"] (upSp K (sp_fraction_of)) := ok__law_low (k := 1) F__law_low (fun A' hr => C__law_gcd_2 1 A' (by decide) hr)
  have C__law_low_2 : ∀ (j : Nat) (A' : Around), 2 ≤ j → Room j A' → Can P w K mg base A' "_law_low" [] (sp_fraction_of) := fun j A' hk hr => can_mk O__law_low hr hk m__law_low F__law_low.kp (F__law_low.bindsN fun _ _ _ _ _ _ us hl => match us, hl with | [_, _], _ => rfl) .nil (fun _ => .nil) (sp_fraction_of_mono)
  have O__law_pair : FnOk P w K mg base CX0 4 (He.ga K "_law_pair") fd__law_pair ["well"] (upSp K (sp_pair)) := ok__law_pair (k := 3) F__law_pair (fun A' hr => C__law_integer_1 3 A' (by decide) hr) (fun A' hr => C__law_low_2 3 A' (by decide) hr)
  have C__law_pair_1 : ∀ (j : Nat) (A' : Around), 4 ≤ j → Room j A' → Can P w K mg base A' "_law_pair" [] (sp_pair) := fun j A' hk hr => can_mk O__law_pair hr hk m__law_pair F__law_pair.kp (F__law_pair.bindsN fun _ _ _ _ _ _ us hl => match us, hl with | [_], _ => rfl) .nil (fun _ => .nil) (sp_pair_mono)
  have O__law_odd : FnOk P w K mg base CX0 1 (He.ga K "_law_odd") fd__law_odd [] (upSp K (sp_odd)) := ok__law_odd (k := 0) F__law_odd
  have C__law_odd_0 : ∀ (j : Nat) (A' : Around), 1 ≤ j → Room j A' → Can P w K mg base A' "_law_odd" [] (sp_odd) := fun j A' hk hr => can_mk O__law_odd hr hk m__law_odd F__law_odd.kp (F__law_odd.bindsN fun _ _ _ _ _ _ us hl => match us, hl with | [], _ => rfl) .nil (fun _ => .nil) (sp_odd_mono)
  have O__law_is : FnOk P w K mg base CX0 1 (He.ga K "_law_is") fd__law_is ["told", "due"] (upSp K (sp_is)) := ok__law_is (k := 0) F__law_is n_isinstance n_bool
  have C__law_is_2 : ∀ (j : Nat) (A' : Around), 1 ≤ j → Room j A' → Can P w K mg base A' "_law_is" [] (sp_is) := fun j A' hk hr => can_mk O__law_is hr hk m__law_is F__law_is.kp (F__law_is.bindsN fun _ _ _ _ _ _ us hl => match us, hl with | [_, _], _ => rfl) .nil (fun _ => .nil) (sp_is_mono)
  have O_is_integer : FnOk P w K mg base CX0 1 (He.ga K "is_integer") fd_is_integer ["value"] (upSp K (sp_is_integer)) := ok_is_integer (k := 0) F_is_integer n_isinstance n_int n_bool
  have C_is_integer_1 : ∀ (j : Nat) (A' : Around), 1 ≤ j → Room j A' → Can P w K mg base A' "is_integer" [] (sp_is_integer) := fun j A' hk hr => can_mk O_is_integer hr hk m_is_integer F_is_integer.kp (F_is_integer.bindsN fun _ _ _ _ _ _ us hl => match us, hl with | [_], _ => rfl) .nil (fun _ => .nil) (sp_is_integer_mono)
  have O_divisor_of : FnOk P w K mg base CX0 1 (He.ga K "divisor_of") fd_divisor_of ["one", "other"] (upSp K (sp_divisor_of)) := ok_divisor_of (k := 0) F_divisor_of n_abs
  have C_divisor_of_2 : ∀ (j : Nat) (A' : Around), 1 ≤ j → Room j A' → Can P w K mg base A' "divisor_of" [] (sp_divisor_of) := fun j A' hk hr => can_mk O_divisor_of hr hk m_divisor_of F_divisor_of.kp (F_divisor_of.bindsN fun _ _ _ _ _ _ us hl => match us, hl with | [_, _], _ => rfl) .nil (fun _ => .nil) (sp_divisor_of_mono)
  have O_is_fraction : FnOk P w K mg base CX0 2 (He.ga K "is_fraction") fd_is_fraction ["value"] (upSp K (sp_is_fraction)) := ok_is_fraction (k := 1) F_is_fraction (fun A' hr => C_is_integer_1 1 A' (by decide) hr) (fun A' hr => C_divisor_of_2 1 A' (by decide) hr) n_isinstance n_tuple n_len
  have C_is_fraction_1 : ∀ (j : Nat) (A' : Around), 2 ≤ j → Room j A' → Can P w K mg base A' "is_fraction" [] (sp_is_fraction) := fun j A' hk hr => can_mk O_is_fraction hr hk m_is_fraction F_is_fraction.kp (F_is_fraction.bindsN fun _ _ _ _ _ _ us hl => match us, hl with | [_], _ => rfl) .nil (fun _ => .nil) (sp_is_fraction_mono)
  have O__law_judged : FnOk P w K mg base CX0 3 (He.ga K "_law_judged") fd__law_judged ["well", "one"] (upSp K (sp_judged)) := ok__law_judged (k := 2) F__law_judged (fun A' hr => C__law_odd_0 2 A' (by decide) hr) (fun A' hr => C__law_is_2 2 A' (by decide) hr) (fun A' hr => C_is_fraction_1 2 A' (by decide) hr) (fun A' hr => C__law_one_2 2 A' (by decide) hr) n_isinstance n_tuple n_str n_list
  have C__law_judged_2 : ∀ (j : Nat) (A' : Around), 3 ≤ j → Room j A' → Can P w K mg base A' "_law_judged" [] (sp_judged) := fun j A' hk hr => can_mk O__law_judged hr hk m__law_judged F__law_judged.kp (F__law_judged.bindsN fun _ _ _ _ _ _ us hl => match us, hl with | [_, _], _ => rfl) .nil (fun _ => .nil) (sp_judged_mono)
  have bb__law_like : Binds K fd__law_like ["told", "due"] [] := F__law_like.bindsN fun _ _ _ _ _ _ us hl => match us, hl with | [_, _], _ => rfl
  have OK__law_like : ∀ k : Nat, FnOk P w K mg base CX0 (k + 0) (He.ga K "_law_like") fd__law_like ["told", "due"] (upSp K (sp_like k)) := by
    intro k
    induction k with
    | zero => exact fn_no
    | succ k ih =>
      have z := ok__law_like (k := k + 0) (P := P) (w := w) (base := base) F__law_like (fun A' hr => can_mk ih hr (Nat.le_refl _) m__law_like F__law_like.kp bb__law_like .nil (fun _ => .nil) (sp_like_mono k)) n_isinstance n_tuple n_len n_all n_range n_bool n_str n_int
      rw [show k + 1 + 0 = k + 0 + 1 from by omega]
      exact z
  have O__law_like : FnOk P w K mg base CX0 2 (He.ga K "_law_like") fd__law_like ["told", "due"] (upSp K (sp_like 2)) := OK__law_like 2
  have C__law_like_2 : ∀ (j : Nat) (A' : Around), 2 ≤ j → Room j A' → Can P w K mg base A' "_law_like" [] (sp_like 2) := fun j A' hk hr => can_mk O__law_like hr hk m__law_like F__law_like.kp (F__law_like.bindsN fun _ _ _ _ _ _ us hl => match us, hl with | [_, _], _ => rfl) .nil (fun _ => .nil) (sp_like_mono 2)
  have O_fraction_of : FnOk P w K mg base CX0 2 (He.ga K "fraction_of") fd_fraction_of ["top", "bottom"] (upSp K (sp_fraction_of)) := ok_fraction_of (k := 1) F_fraction_of (fun A' hr => C_divisor_of_2 1 A' (by decide) hr)
  have C_fraction_of_2 : ∀ (j : Nat) (A' : Around), 2 ≤ j → Room j A' → Can P w K mg base A' "fraction_of" [] (sp_fraction_of) := fun j A' hk hr => can_mk O_fraction_of hr hk m_fraction_of F_fraction_of.kp (F_fraction_of.bindsN fun _ _ _ _ _ _ us hl => match us, hl with | [_, _], _ => rfl) .nil (fun _ => .nil) (sp_fraction_of_mono)
  have O__law_plus : FnOk P w K mg base CX0 3 (He.ga K "_law_plus") fd__law_plus ["one", "other"] (upSp K (sp_plus)) := ok__law_plus (k := 2) F__law_plus (fun A' hr => C__law_low_2 2 A' (by decide) hr)
  have C__law_plus_2 : ∀ (j : Nat) (A' : Around), 3 ≤ j → Room j A' → Can P w K mg base A' "_law_plus" [] (sp_plus) := fun j A' hk hr => can_mk O__law_plus hr hk m__law_plus F__law_plus.kp (F__law_plus.bindsN fun _ _ _ _ _ _ us hl => match us, hl with | [_, _], _ => rfl) .nil (fun _ => .nil) (spF2_mono)
  have O_plus : FnOk P w K mg base CX0 3 (He.ga K "plus") fd_plus ["one", "other"] (upSp K (sp_plus)) := ok_plus (k := 2) F_plus (fun A' hr => C_fraction_of_2 2 A' (by decide) hr)
  have C_plus_2 : ∀ (j : Nat) (A' : Around), 3 ≤ j → Room j A' → Can P w K mg base A' "plus" [] (sp_plus) := fun j A' hk hr => can_mk O_plus hr hk m_plus F_plus.kp (F_plus.bindsN fun _ _ _ _ _ _ us hl => match us, hl with | [_, _], _ => rfl) .nil (fun _ => .nil) (spF2_mono)
  have O__law_times : FnOk P w K mg base CX0 3 (He.ga K "_law_times") fd__law_times ["one", "other"] (upSp K (sp_times)) := ok__law_times (k := 2) F__law_times (fun A' hr => C__law_low_2 2 A' (by decide) hr)
  have C__law_times_2 : ∀ (j : Nat) (A' : Around), 3 ≤ j → Room j A' → Can P w K mg base A' "_law_times" [] (sp_times) := fun j A' hk hr => can_mk O__law_times hr hk m__law_times F__law_times.kp (F__law_times.bindsN fun _ _ _ _ _ _ us hl => match us, hl with | [_, _], _ => rfl) .nil (fun _ => .nil) (spF2_mono)
  have O_times : FnOk P w K mg base CX0 3 (He.ga K "times") fd_times ["one", "other"] (upSp K (sp_times)) := ok_times (k := 2) F_times (fun A' hr => C_fraction_of_2 2 A' (by decide) hr)
  have C_times_2 : ∀ (j : Nat) (A' : Around), 3 ≤ j → Room j A' → Can P w K mg base A' "times" [] (sp_times) := fun j A' hk hr => can_mk O_times hr hk m_times F_times.kp (F_times.bindsN fun _ _ _ _ _ _ us hl => match us, hl with | [_, _], _ => rfl) .nil (fun _ => .nil) (spF2_mono)
  have O_over : FnOk P w K mg base CX0 3 (He.ga K "over") fd_over ["one", "other"] (upSp K (sp_over)) := ok_over (k := 2) F_over (fun A' hr => C_fraction_of_2 2 A' (by decide) hr)
  have C_over_2 : ∀ (j : Nat) (A' : Around), 3 ≤ j → Room j A' → Can P w K mg base A' "over" [] (sp_over) := fun j A' hk hr => can_mk O_over hr hk m_over F_over.kp (F_over.bindsN fun _ _ _ _ _ _ us hl => match us, hl with | [_, _], _ => rfl) .nil (fun _ => .nil) (spF2_mono)
  have O_power_of : FnOk P w K mg base CX0 4 (He.ga K "power_of") fd_power_of ["fraction", "many"] (upSp K (sp_power_of)) := ok_power_of (k := 3) F_power_of (fun A' hr => C_times_2 3 A' (by decide) hr) g_ONE n_range
  have C_power_of_2 : ∀ (j : Nat) (A' : Around), 4 ≤ j → Room j A' → Can P w K mg base A' "power_of" [] (sp_power_of) := fun j A' hk hr => can_mk O_power_of hr hk m_power_of F_power_of.kp (F_power_of.bindsN fun _ _ _ _ _ _ us hl => match us, hl with | [_, _], _ => rfl) .nil (fun _ => .nil) (sp_power_of_mono)
  have O_is_below : FnOk P w K mg base CX0 1 (He.ga K "is_below") fd_is_below ["one", "other"] (upSp K (sp_is_below)) := ok_is_below (k := 0) F_is_below
  have C_is_below_2 : ∀ (j : Nat) (A' : Around), 1 ≤ j → Room j A' → Can P w K mg base A' "is_below" [] (sp_is_below) := fun j A' hk hr => can_mk O_is_below hr hk m_is_below F_is_below.kp (F_is_below.bindsN fun _ _ _ _ _ _ us hl => match us, hl with | [_, _], _ => rfl) .nil (fun _ => .nil) (spF2_mono)
  have O_minus : FnOk P w K mg base CX0 4 (He.ga K "minus") fd_minus ["one", "other"] (upSp K (sp_minus)) := ok_minus (k := 3) F_minus (fun A' hr => C_plus_2 3 A' (by decide) hr)
  have C_minus_2 : ∀ (j : Nat) (A' : Around), 4 ≤ j → Room j A' → Can P w K mg base A' "minus" [] (sp_minus) := fun j A' hk hr => can_mk O_minus hr hk m_minus F_minus.kp (F_minus.bindsN fun _ _ _ _ _ _ us hl => match us, hl with | [_, _], _ => rfl) .nil (fun _ => .nil) (spF2_mono)
  have K_minus_1_other : ∀ (j : Nat) (A' : Around), 4 ≤ j → Room j A' → CanK P w K mg base A' "minus" 1 ["other"] [(0, 0), (1, 0)] (sp_minus) := fun j A' hk hr => ⟨⟨_, fd_minus, ["one", "other"], 4, O_minus, hr.mono hk, m_minus, F_minus.kp, kbinds_mk F_minus (by decide) fun _ _ _ _ _ _ us ws h1 h2 => match us, ws, h1, h2 with | [_], [_], _, _ => rfl⟩, spF2_mono⟩
  have O__law_sums : FnOk P w K mg base CX0 5 (He.ga K "_law_sums") fd__law_sums ["well"] (upSp K (spW 60)) := ok__law_sums (k := 4) F__law_sums (fun A' hr => C__law_dip_2 4 A' (by decide) hr) (fun A' hr => C__law_pair_1 4 A' (by decide) hr) (fun A' hr => C__law_judged_2 4 A' (by decide) hr) (fun A' hr => C__law_integer_1 4 A' (by decide) hr) (fun A' hr => C__law_like_2 4 A' (by decide) hr) (fun A' hr => C__law_low_2 4 A' (by decide) hr) (fun A' hr => C_fraction_of_2 4 A' (by decide) hr) (fun A' hr => C__law_plus_2 4 A' (by decide) hr) (fun A' hr => C_plus_2 4 A' (by decide) hr) (fun A' hr => C__law_times_2 4 A' (by decide) hr) (fun A' hr => C_times_2 4 A' (by decide) hr) (fun A' hr => C_over_2 4 A' (by decide) hr) (fun A' hr => C_power_of_2 4 A' (by decide) hr) (fun A' hr => C__law_is_2 4 A' (by decide) hr) (fun A' hr => C_is_below_2 4 A' (by decide) hr) (fun A' hr => K_minus_1_other 4 A' (by decide) hr) n_range
  have C__law_sums_1 : ∀ (j : Nat) (A' : Around), 5 ≤ j → Room j A' → Can P w K mg base A' "_law_sums" [] (spW 60) := fun j A' hk hr => can_mk O__law_sums hr hk m__law_sums F__law_sums.kp (F__law_sums.bindsN fun _ _ _ _ _ _ us hl => match us, hl with | [_], _ => rfl) .nil (fun _ => .nil) (spW_mono)
  have O__law_rows : FnOk P w K mg base CX0 1 (He.ga K "_law_rows") fd__law_rows ["many"] (upSp K (sp_rows)) := ok__law_rows (k := 0) F__law_rows n_range n_len
  have C__law_rows_1 : ∀ (j : Nat) (A' : Around), 1 ≤ j → Room j A' → Can P w K mg base A' "_law_rows" [] (sp_rows) := fun j A' hk hr => can_mk O__law_rows hr hk m__law_rows F__law_rows.kp (F__law_rows.bindsN fun _ _ _ _ _ _ us hl => match us, hl with | [_], _ => rfl) .nil (fun _ => .nil) (sp_rows_mono)
  have O__law_lots : FnOk P w K mg base CX0 2 (He.ga K "_law_lots") fd__law_lots ["top", "many"] (upSp K (sp_lots)) := ok__law_lots (k := 1) F__law_lots (fun A' hr => C__law_rows_1 1 A' (by decide) hr) n_int
  have C__law_lots_2 : ∀ (j : Nat) (A' : Around), 2 ≤ j → Room j A' → Can P w K mg base A' "_law_lots" [] (sp_lots) := fun j A' hk hr => can_mk O__law_lots hr hk m__law_lots F__law_lots.kp (F__law_lots.bindsN fun _ _ _ _ _ _ us hl => match us, hl with | [_, _], _ => rfl) .nil (fun _ => .nil) (sp_lots_mono)
  have O_binomial : FnOk P w K mg base CX0 1 (He.ga K "binomial") fd_binomial ["top", "many"] (upSp K (sp_binomial)) := ok_binomial (k := 0) F_binomial n_range
  have C_binomial_2 : ∀ (j : Nat) (A' : Around), 1 ≤ j → Room j A' → Can P w K mg base A' "binomial" [] (sp_binomial) := fun j A' hk hr => can_mk O_binomial hr hk m_binomial F_binomial.kp (F_binomial.bindsN fun _ _ _ _ _ _ us hl => match us, hl with | [_, _], _ => rfl) .nil (fun _ => .nil) (sp_binomial_mono)
  have O_binomial_at : FnOk P w K mg base CX0 5 (He.ga K "binomial_at") fd_binomial_at ["top", "many"] (upSp K (sp_binomial_at)) := ok_binomial_at (k := 4) F_binomial_at (fun A' hr => C_times_2 4 A' (by decide) hr) (fun A' hr => C_over_2 4 A' (by decide) hr) (fun A' hr => C_minus_2 4 A' (by decide) hr) g_ONE n_range
  have C_binomial_at_2 : ∀ (j : Nat) (A' : Around), 5 ≤ j → Room j A' → Can P w K mg base A' "binomial_at" [] (sp_binomial_at) := fun j A' hk hr => can_mk O_binomial_at hr hk m_binomial_at F_binomial_at.kp (F_binomial_at.bindsN fun _ _ _ _ _ _ us hl => match us, hl with | [_, _], _ => rfl) .nil (fun _ => .nil) (sp_binomial_at_mono)
  have O__law_binomials : FnOk P w K mg base CX0 6 (He.ga K "_law_binomials") fd__law_binomials ["well"] (upSp K (spW 10)) := ok__law_binomials (k := 5) F__law_binomials (fun A' hr => C__law_dip_2 5 A' (by decide) hr) (fun A' hr => C__law_like_2 5 A' (by decide) hr) (fun A' hr => C__law_lots_2 5 A' (by decide) hr) (fun A' hr => C_binomial_2 5 A' (by decide) hr) (fun A' hr => C__law_low_2 5 A' (by decide) hr) (fun A' hr => C_binomial_at_2 5 A' (by decide) hr) n_range
  have C__law_binomials_1 : ∀ (j : Nat) (A' : Around), 6 ≤ j → Room j A' → Can P w K mg base A' "_law_binomials" [] (spW 10) := fun j A' hk hr => can_mk O__law_binomials hr hk m__law_binomials F__law_binomials.kp (F__law_binomials.bindsN fun _ _ _ _ _ _ us hl => match us, hl with | [_], _ => rfl) .nil (fun _ => .nil) (spW_mono)
  have O_law : FnOk P w K mg base CX0 7 (He.ga K "law") fd_law ["script"] (upSp K (sp_law)) := ok_law (k := 6) F_law (fun A' hr => C__law_well_2 6 A' (by decide) hr) (fun A' hr => C__law_sums_1 6 A' (by decide) hr) (fun A' hr => C__law_binomials_1 6 A' (by decide) hr) n_range
  exact O_law
theorem law_gives (ns : List Int) (M : Mem) (Q : DQ) (h : Q (.bl true) M) : (sp_law) [.kl (ns.map D.int)] M Q := ⟨ns, rfl, h⟩
end K07
open PySem PySem.W PySem.Calls PyProof.Rows
theorem PySem.Challenge.cw_slopesumskept_k07_fractions_and_binomial_holds : PySem.Challenge.rw_slopesumskept_k07_fractions_and_binomial.Holds := by
  w_on; o_law
  refine HandSHeadRun.head_any (r := OpenLaw.row PySem.Challenge.rw_slopesumskept_k07_fractions_and_binomial) (q := view (OpenLaw.row PySem.Challenge.rw_slopesumskept_k07_fractions_and_binomial).prog [33]) (H := K07.hk) (ob := K07.ob) (M := 1760) (loose := K07.loose) (d := HandSHeadRun.topDef (OpenLaw.row PySem.Challenge.rw_slopesumskept_k07_fractions_and_binomial).prog 33) (kwd := []) K07.ob_eq
    (by kernel_rfl) (fun s => by kernel_rfl) K07.run (by kernel_rfl) (by kernel_rfl) (by kernel_rfl) (by rfl) (by first | assumption | decide +kernel) (by decide +kernel) ⟨rfl, rfl, rfl, rfl, rfl, by decide +kernel⟩ ?hw ?hc
  case hw => w_witness2
  case hc =>
    refine L2.walk_ofE (l := PySem.Challenge.rw_slopesumskept_k07_fractions_and_binomial) (n := 63) (k := 7) (x := "script") (CX := L2.CX0) rfl (by decide) (by kernel_rfl) ⟨rfl, by decide, by decide⟩ ?F (fun _ _ _ _ z => z)
    intro w mg fa h Y G hmg0
    obtain ⟨K, KX, c⟩ := Y
    have hmg : mg ("law" : PySem.Str) = some (.ref fa) := by
      have e : (HandSHeadRun.topDef (OpenLaw.row PySem.Challenge.rw_slopesumskept_k07_fractions_and_binomial).prog 33).name = ("law" : PySem.Str) := by kernel_rfl
      rw [← e]
      exact hmg0
    obtain ⟨fd, hb, hF⟩ := K07.facts (P := (PySem.Challenge.rw_slopesumskept_k07_fractions_and_binomial).prog) (w := w) KX G hmg c
    exact ⟨K, fd, _, KX, hb, fun H a ns hl hO hS => DL.law_up K07.law_gives H a ns hO hS, hF⟩
