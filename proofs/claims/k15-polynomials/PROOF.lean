import PyProof.Rows.All
import Wide.All
import OpenK.AllK
import Wide.FinOn
import KE.KStateDown
import HandS.ForMost
import HandS.ForExc
import HandS.More
import HandS.Wide
import HandS.WideBits
import HandS.IsInst
import HandS.Flow
import HandS.Style
import HandS.Defaults
import HandS.SortInts
import HandS.TupAny
import HandS.TupMul
import HandS.Head0
import HandS.Head1
import HandS.Head2
import HandS.HeadEnd
import HandS.HeadHook1
import HandS.HeadHook2
import HandS.Zip
import KE.GoesEnum
import PySem.Challenge.RW_slopesumskept_k15_polynomials_along_the
set_option Elab.async false
set_option linter.all false
set_option maxRecDepth 100000
set_option maxHeartbeats 4000000
set_option autoImplicit false
set_option exponentiation.threshold 10000
/-! data layer: values without addresses over the hand layer -/
namespace DL
open PySem PySem.Spec PyProof.Rows L2

inductive D where
  | non | bl (b : Bool) | int (i : Int) | str (x : Str) | ref (a : Addr) | ty (n : String) | tup (ds : List D) | kl (ds : List D)

/-- a list that never changes: locked, or of the written part -/
def SqK (K : PySem.W.Frag) (H : Hp) (a : Addr) (xs : List V) : Prop := (∃ o, H a = some (.frz o (.lst xs))) ∨
  ∃ (o : Obj) (its : Array Value) (n : Nat), K.lookup a = some o ∧ o.cls = .type "list" ∧ o.dict = none ∧ o.data = .seq its n ∧ its.size ≤ sizeLine ∧ Vals xs its.toList
theorem SqK.sq {K : PySem.W.Frag} {H : Hp} {a : Addr} {xs : List V} (h : SqK K H a xs) : SqL K H a xs := h.elim (fun ⟨o, h⟩ => .inl (.inr ⟨o, h⟩)) .inr
mutual
inductive Rep (K : PySem.W.Frag) (H : Hp) : V → D → Prop
  | non : Rep K H .non .non
  | bl (b : Bool) : Rep K H (.bl b) (.bl b)
  | int (i : Int) : Rep K H (.int i) (.int i)
  | str (x : Str) : Rep K H (.str x) (.str x)
  | ref (a : Addr) : Rep K H (.ref a) (.ref a)
  | ty (n : String) : Rep K H (.ty n) (.ty n)
  | tup {a : Addr} {xs : List V} {ds : List D} (h : SqT K H a xs) (r : Reps K H xs ds) : Rep K H (.ref a) (.tup ds)
  | kl {a : Addr} {xs : List V} {ds : List D} (h : SqK K H a xs) (r : Reps K H xs ds) : Rep K H (.ref a) (.kl ds)
inductive Reps (K : PySem.W.Frag) (H : Hp) : List V → List D → Prop
  | nil : Reps K H [] []
  | cons {v : V} {vs : List V} {d : D} {ds : List D} (h : Rep K H v d) (r : Reps K H vs ds) : Reps K H (v :: vs) (d :: ds)
end

/-- what the heap keeps of tuples and of locked things -/
structure Keep (H H' : Hp) : Prop where
  tup : ∀ a xs, H a = some (.tup xs) → H' a = some (.tup xs)
  frz : ∀ a o u, H a = some (.frz o u) → H' a = some (.frz o u)
theorem Keep.refl (H : Hp) : Keep H H := ⟨fun _ _ h => h, fun _ _ _ h => h⟩
theorem Keep.trans {H H1 H2 : Hp} (a : Keep H H1) (b : Keep H1 H2) : Keep H H2 :=
  ⟨fun p xs h => b.tup p xs (a.tup p xs h), fun p o u h => b.frz p o u (a.frz p o u h)⟩
theorem Keep.new {H : Hp} {p : Addr} {o : HO} (h : H p = none) : Keep H (upd H p o) :=
  ⟨fun a xs e => by rw [upd_ne (ne_of_none e h)]; exact e, fun a ob u e => by rw [upd_ne (ne_of_none e h)]; exact e⟩
theorem Keep.mut {H : Hp} {p : Addr} {o : HO} (h : Mut (H p)) : Keep H (upd H p o) :=
  ⟨fun a xs e => by rw [upd_ne (fun z => by subst z; rw [e] at h; exact h)]; exact e,
   fun a ob u e => by rw [upd_ne (fun z => by subst z; rw [e] at h; exact h)]; exact e⟩
theorem Keep.same {H H' : Hp} (h : Same H H') : Keep H H' := ⟨fun a xs e => h _ _ e, fun a o u e => h _ _ e⟩

section
variable {K : PySem.W.Frag} {H H' : Hp}
theorem SqT.keep {a : Addr} {xs : List V} (k : Keep H H') (h : SqT K H a xs) : SqT K H' a xs := by
  rcases h with (h | ⟨o, h⟩) | h
  · exact .inl (.inl (k.tup _ _ h))
  · exact .inl (.inr ⟨o, k.frz _ _ _ h⟩)
  · exact .inr h
theorem SqK.keep {a : Addr} {xs : List V} (k : Keep H H') (h : SqK K H a xs) : SqK K H' a xs := by
  rcases h with ⟨o, h⟩ | h
  · exact .inl ⟨o, k.frz _ _ _ h⟩
  · exact .inr h
mutual
theorem Rep.keep (k : Keep H H') : ∀ {v : V} {d : D}, Rep K H v d → Rep K H' v d
  | _, _, .non => .non
  | _, _, .bl b => .bl b
  | _, _, .int i => .int i
  | _, _, .str x => .str x
  | _, _, .ref a => .ref a
  | _, _, .ty n => .ty n
  | _, _, .tup h r => .tup (SqT.keep k h) (Reps.keep k r)
  | _, _, .kl h r => .kl (SqK.keep k h) (Reps.keep k r)
theorem Reps.keep (k : Keep H H') : ∀ {vs : List V} {ds : List D}, Reps K H vs ds → Reps K H' vs ds
  | _, _, .nil => .nil
  | _, _, .cons h r => .cons (Rep.keep k h) (Reps.keep k r)
end
theorem Reps.length : ∀ {vs : List V} {ds : List D}, Reps K H vs ds → vs.length = ds.length
  | _, _, .nil => rfl
  | _, _, .cons _ r => congrArg (· + 1) (Reps.length r)
theorem Reps.append : ∀ {vs ws : List V} {ds es : List D}, Reps K H vs ds → Reps K H ws es → Reps K H (vs ++ ws) (ds ++ es)
  | _, _, _, _, .nil, s => s
  | _, _, _, _, .cons h r, s => .cons h (Reps.append r s)
theorem Reps.get : ∀ {vs : List V} {ds : List D}, Reps K H vs ds → ∀ {i : Nat} {d : D}, ds[i]? = some d → ∃ v, vs[i]? = some v ∧ Rep K H v d
  | _, _, .nil, i, d, e => by simp at e
  | _, _, .cons h r, 0, d, e => by simp at e; subst e; exact ⟨_, rfl, h⟩
  | _, _, .cons h r, i + 1, d, e => by
    obtain ⟨v, e1, r1⟩ := Reps.get r (i := i) (d := d) (by simpa using e)
    exact ⟨v, by simpa using e1, r1⟩
theorem Reps.get' : ∀ {vs : List V} {ds : List D}, Reps K H vs ds → ∀ {i : Nat} {v : V}, vs[i]? = some v → ∃ d, ds[i]? = some d ∧ Rep K H v d
  | _, _, .nil, i, d, e => by simp at e
  | _, _, .cons h r, 0, d, e => by simp at e; subst e; exact ⟨_, rfl, h⟩
  | _, _, .cons h r, i + 1, d, e => by
    obtain ⟨v, e1, r1⟩ := Reps.get' r (i := i) (v := d) (by simpa using e)
    exact ⟨v, by simpa using e1, r1⟩
theorem Reps.take : ∀ {vs : List V} {ds : List D} (n : Nat), Reps K H vs ds → Reps K H (vs.take n) (ds.take n)
  | _, _, 0, _ => .nil
  | _, _, _ + 1, .nil => .nil
  | _, _, n + 1, .cons h r => .cons h (Reps.take n r)
theorem Reps.drop : ∀ {vs : List V} {ds : List D} (n : Nat), Reps K H vs ds → Reps K H (vs.drop n) (ds.drop n)
  | _, _, 0, h => h
  | _, _, _ + 1, .nil => .nil
  | _, _, n + 1, .cons h r => Reps.drop n r
theorem Reps.set : ∀ {vs : List V} {ds : List D} (i : Nat) {v : V} {d : D}, Rep K H v d → Reps K H vs ds → Reps K H (vs.set i v) (ds.set i d)
  | _, _, _, _, _, _, .nil => .nil
  | _, _, 0, _, _, q, .cons _ r => .cons q r
  | _, _, i + 1, _, _, q, .cons h r => .cons h (Reps.set i q r)
theorem Reps.reverse {vs : List V} {ds : List D} (h : Reps K H vs ds) : Reps K H vs.reverse ds.reverse := by
  induction vs generalizing ds with
  | nil => cases h; exact .nil
  | cons v vs ih =>
    cases h with
    | cons h r => rw [List.reverse_cons, List.reverse_cons]; exact (ih r).append (.cons h .nil)
theorem Reps.eraseIdx : ∀ {vs : List V} {ds : List D} (i : Nat), Reps K H vs ds → Reps K H (vs.eraseIdx i) (ds.eraseIdx i)
  | _, _, _, .nil => .nil
  | _, _, 0, .cons _ r => r
  | _, _, i + 1, .cons h r => .cons h (Reps.eraseIdx i r)
theorem Reps.dropLast {vs : List V} {ds : List D} (h : Reps K H vs ds) : Reps K H vs.dropLast ds.dropLast := by
  rw [List.dropLast_eq_take, List.dropLast_eq_take, h.length]; exact h.take _
theorem Reps.ints : ∀ {vs : List V} {ns : List Int}, Reps K H vs (ns.map D.int) → vs = ns.map V.int
  | vs, [], h => by cases h; rfl
  | vs, n :: ns, h => by
    cases h with
    | cons h r => cases h; rw [Reps.ints r]; rfl
theorem Reps.of_ints : ∀ ns : List Int, Reps K H (ns.map V.int) (ns.map D.int)
  | [] => .nil
  | n :: ns => .cons (.int n) (Reps.of_ints ns)
theorem Reps.strs : ∀ {vs : List V} {ns : List Str}, Reps K H vs (ns.map D.str) → vs = ns.map V.str
  | vs, [], h => by cases h; rfl
  | vs, n :: ns, h => by
    cases h with
    | cons h r => cases h; rw [Reps.strs r]; rfl
theorem Reps.of_strs : ∀ ns : List Str, Reps K H (ns.map V.str) (ns.map D.str)
  | [] => .nil
  | n :: ns => .cons (.str n) (Reps.of_strs ns)
theorem Reps.bls : ∀ {vs : List V} {ns : List Bool}, Reps K H vs (ns.map D.bl) → vs = ns.map V.bl
  | vs, [], h => by cases h; rfl
  | vs, n :: ns, h => by
    cases h with
    | cons h r => cases h; rw [Reps.bls r]; rfl
end

/-! ### the store of what changes -/
inductive MO where
  | lst (ds : List D)
  | dK (kvs : List (Key × D))
  | dT (kvs : List (List Key × D))
  | ins (C dx : Addr) (fs : List (Str × D))
abbrev Mem := Addr → Option MO
def mupd (M : Mem) (a : Addr) (o : MO) : Mem := fun b => if b = a then some o else M b
theorem mupd_same {M : Mem} {a : Addr} {o : MO} : mupd M a o a = some o := by unfold mupd; rw [if_pos rfl]
theorem mupd_ne {M : Mem} {a b : Addr} {o : MO} (h : b ≠ a) : mupd M a o b = M b := by unfold mupd; rw [if_neg h]
theorem mupd_mupd {M : Mem} {a : Addr} {o u : MO} : mupd (mupd M a o) a u = mupd M a u := by
  funext b; unfold mupd; split <;> rfl
theorem mupd_self {M : Mem} {a : Addr} {o : MO} (h : M a = some o) : mupd M a o = M := by
  funext b; unfold mupd; split
  · rename_i e; subst e; exact h.symm
  · rfl
theorem mupd_comm {M : Mem} {a b : Addr} {o u : MO} (h : a ≠ b) : mupd (mupd M a o) b u = mupd (mupd M b u) a o := by
  funext c; unfold mupd; split
  · rename_i e; subst e; rw [if_neg (Ne.symm h)]
  · rfl
def Sub (M M' : Mem) : Prop := ∀ a o, M a = some o → M' a = some o
theorem Sub.refl (M : Mem) : Sub M M := fun _ _ h => h
theorem Sub.trans {M M1 M2 : Mem} (a : Sub M M1) (b : Sub M1 M2) : Sub M M2 := fun p o h => b p o (a p o h)
theorem Sub.new {M : Mem} {p : Addr} {o : MO} (h : M p = none) : Sub M (mupd M p o) := fun a u e => by
  rw [mupd_ne (fun z => by subst z; rw [e] at h; cases h)]; exact e
theorem Sub.upd {M M' : Mem} {p : Addr} {o : MO} (h : Sub M M') : Sub (mupd M p o) (mupd M' p o) := fun a u e => by
  by_cases z : a = p
  · subst z; rw [mupd_same] at e ⊢; exact e
  · rw [mupd_ne z] at e ⊢; exact h _ _ e
theorem Sub.new' {M M' : Mem} {p : Addr} {o : MO} (s : Sub M M') (h : M p = none) : Sub M (mupd M' p o) := fun a u e => by
  rw [mupd_ne (fun z => by subst z; rw [e] at h; cases h)]; exact s _ _ e
theorem Sub.free {M M' : Mem} {p : Addr} (s : Sub M M') (h : M' p = none) : M p = none := by
  cases e : M p with
  | none => rfl
  | some o => rw [s p o e] at h; cases h

section
variable {K : PySem.W.Frag} {H H' : Hp}
def RKV {κ : Type} (K : PySem.W.Frag) (H : Hp) (kvs : List (κ × V)) (kds : List (κ × D)) : Prop := kvs.map (·.1) = kds.map (·.1) ∧ Reps K H (kvs.map (·.2)) (kds.map (·.2))
theorem RKV.keep {κ : Type} {kvs : List (κ × V)} {kds : List (κ × D)} (k : Keep H H') (h : RKV K H kvs kds) : RKV K H' kvs kds := ⟨h.1, h.2.keep k⟩
def RO (K : PySem.W.Frag) (H : Hp) (o : Option HO) : MO → Prop
  | .lst ds => ∃ xs, o = some (.lst xs) ∧ Reps K H xs ds
  | .dK kds => ∃ kvs, o = some (.dK kvs) ∧ RKV K H kvs kds
  | .dT kds => ∃ kvs, o = some (.dT kvs) ∧ RKV K H kvs kds
  | .ins C dx fs => ∃ fvs, o = some (.ins C dx fvs) ∧ RKV K H fvs fs
theorem RO.keep {o : Option HO} {m : MO} (k : Keep H H') (h : RO K H o m) : RO K H' o m := by
  cases m with
  | lst ds => obtain ⟨xs, e, r⟩ := h; exact ⟨xs, e, r.keep k⟩
  | dK ds => obtain ⟨xs, e, r⟩ := h; exact ⟨xs, e, r.keep k⟩
  | dT ds => obtain ⟨xs, e, r⟩ := h; exact ⟨xs, e, r.keep k⟩
  | ins C dx fs => obtain ⟨xs, e, r⟩ := h; exact ⟨xs, e, r.keep k⟩
theorem RO.some {o : Option HO} {m : MO} (h : RO K H o m) : ∃ u, o = some u := by
  cases m with
  | lst ds => obtain ⟨xs, e, r⟩ := h; exact ⟨_, e⟩
  | dK ds => obtain ⟨xs, e, r⟩ := h; exact ⟨_, e⟩
  | dT ds => obtain ⟨xs, e, r⟩ := h; exact ⟨_, e⟩
  | ins C dx fs => obtain ⟨xs, e, r⟩ := h; exact ⟨_, e⟩
/-- the store tells what the heap holds -/
def RM (K : PySem.W.Frag) (H : Hp) (M : Mem) : Prop := ∀ a m, M a = some m → RO K H (H a) m
theorem RM.sub {M M' : Mem} (s : Sub M M') (h : RM K H M') : RM K H M := fun a m e => h a m (s a m e)
theorem RM.free {M : Mem} {p : Addr} (h : RM K H M) (e : H p = none) : M p = none := by
  cases q : M p with
  | none => rfl
  | some m => obtain ⟨u, z⟩ := (h p m q).some; rw [e] at z; cases z
theorem RM.new {M : Mem} {p : Addr} {o : HO} {m : MO} (h : RM K H M) (e : H p = none) (n : RO K (upd H p o) (some o) m) : RM K (upd H p o) (mupd M p m) := fun a u q => by
  by_cases z : a = p
  · subst z; rw [mupd_same] at q; cases q; rw [upd_same]; exact n
  · rw [mupd_ne z] at q; rw [upd_ne z]; exact (h a u q).keep (Keep.new e)
theorem RM.fresh {M : Mem} {p : Addr} {o : HO} (h : RM K H M) (e : H p = none) : RM K (upd H p o) M := fun a u q => by
  have z : a ≠ p := fun z => by subst z; rw [h.free e] at q; cases q
  rw [upd_ne z]; exact (h a u q).keep (Keep.new e)
theorem RM.write {M : Mem} {p : Addr} {o : HO} {m : MO} (h : RM K H M) (e : Mut (H p)) (n : RO K (upd H p o) (some o) m) : RM K (upd H p o) (mupd M p m) := fun a u q => by
  by_cases z : a = p
  · subst z; rw [mupd_same] at q; cases q; rw [upd_same]; exact n
  · rw [mupd_ne z] at q; rw [upd_ne z]; exact (h a u q).keep (Keep.mut e)
theorem RM.lst {M : Mem} {a : Addr} {ds : List D} (h : RM K H M) (e : M a = some (.lst ds)) : ∃ xs, H a = some (.lst xs) ∧ Reps K H xs ds := h a _ e
end

/-! ### readings over data -/
abbrev DS := List (Option D)
abbrev DQ := D → Mem → Prop
abbrev DTE := DS → Mem → DQ → Prop
abbrev DTT := DS → Mem → (Bool → Mem → Prop) → Prop
abbrev DTA := DS → Mem → (List D → Mem → Prop) → Prop
structure DEnds where
  nx : DS → Mem → Prop
  rt : DQ
  bk : DS → Mem → Prop := fun _ _ => False
  ct : DS → Mem → Prop := fun _ _ => False
abbrev DTS := DEnds → DS → Mem → Prop
abbrev DTG := D → DS → Mem → (DS → Mem → Prop) → Prop
abbrev DTGs := List D → DS → Mem → (DS → Mem → Prop) → Prop

structure RS (K : PySem.W.Frag) (H : Hp) (σ : L2.St) (τ : DS) : Prop where
  len : σ.length = τ.length
  get : ∀ (i : Nat) (d : D), τ[i]? = some (some d) → ∃ v, σ[i]? = some (some v) ∧ Rep K H v d
theorem RS.keep {K : PySem.W.Frag} {H H' : Hp} {σ : L2.St} {τ : DS} (k : Keep H H') (h : RS K H σ τ) : RS K H' σ τ :=
  ⟨h.len, fun i d e => let ⟨v, e1, r⟩ := h.get i d e; ⟨v, e1, r.keep k⟩⟩
theorem RS.set {K : PySem.W.Frag} {H : Hp} {σ : L2.St} {τ : DS} {v : V} {d : D} (i : Nat) (h : RS K H σ τ) (r : Rep K H v d) : RS K H (σ.set i (some v)) (τ.set i (some d)) := by
  refine ⟨by rw [List.length_set, List.length_set]; exact h.len, fun j e q => ?_⟩
  by_cases z : i = j
  · subst z
    by_cases hl : i < τ.length
    · rw [List.getElem?_set_self hl] at q
      cases q
      exact ⟨v, by rw [List.getElem?_set_self (by rw [h.len]; exact hl)], r⟩
    · rw [List.getElem?_eq_none (by rw [List.length_set]; omega)] at q; cases q
  · rw [List.getElem?_set_ne z] at q
    obtain ⟨w, e1, r1⟩ := h.get j e q
    exact ⟨w, by rw [List.getElem?_set_ne z]; exact e1, r1⟩
theorem RS.forget {K : PySem.W.Frag} {H : Hp} {σ : L2.St} {τ : DS} (i : Nat) (h : RS K H σ τ) : RS K H (σ.set i none) (τ.set i none) := by
  refine ⟨by rw [List.length_set, List.length_set]; exact h.len, fun j e q => ?_⟩
  by_cases z : i = j
  · subst z
    by_cases hl : i < τ.length
    · rw [List.getElem?_set_self hl] at q; cases q
    · rw [List.getElem?_eq_none (by rw [List.length_set]; omega)] at q; cases q
  · rw [List.getElem?_set_ne z] at q
    obtain ⟨w, e1, r1⟩ := h.get j e q
    exact ⟨w, by rw [List.getElem?_set_ne z]; exact e1, r1⟩
def dwipe (τ : DS) : List Nat → DS
  | [] => τ
  | v :: vs => (dwipe τ vs).set v none
theorem RS.wipe {K : PySem.W.Frag} {H : Hp} {σ : L2.St} {τ : DS} (h : RS K H σ τ) : ∀ vs : List Nat, RS K H (wipe σ vs) (dwipe τ vs)
  | [] => h
  | v :: vs => (RS.wipe h vs).forget v

structure MonoE (t : DTE) : Prop where
  go : ∀ {τ : DS} {M : Mem} {Q Q' : DQ}, (∀ d M', Q d M' → Q' d M') → t τ M Q → t τ M Q'
structure MonoT (t : DTT) : Prop where
  go : ∀ {τ : DS} {M : Mem} {Q Q' : Bool → Mem → Prop}, (∀ d M', Q d M' → Q' d M') → t τ M Q → t τ M Q'
structure MonoA (t : DTA) : Prop where
  go : ∀ {τ : DS} {M : Mem} {Q Q' : List D → Mem → Prop}, (∀ d M', Q d M' → Q' d M') → t τ M Q → t τ M Q'
structure DEnds.Imp (E E' : DEnds) : Prop where
  nx : ∀ τ M, E.nx τ M → E'.nx τ M
  rt : ∀ d M, E.rt d M → E'.rt d M
  bk : ∀ τ M, E.bk τ M → E'.bk τ M
  ct : ∀ τ M, E.ct τ M → E'.ct τ M
structure MonoS (t : DTS) : Prop where
  go : ∀ {E E' : DEnds} {τ : DS} {M : Mem}, E.Imp E' → t E τ M → t E' τ M
structure MonoG (t : DTG) : Prop where
  go : ∀ {d : D} {τ : DS} {M : Mem} {Q Q' : DS → Mem → Prop}, (∀ τ M, Q τ M → Q' τ M) → t d τ M Q → t d τ M Q'
structure MonoGs (t : DTGs) : Prop where
  go : ∀ {ds : List D} {τ : DS} {M : Mem} {Q Q' : DS → Mem → Prop}, (∀ τ M, Q τ M → Q' τ M) → t ds τ M Q → t ds τ M Q'

/-- the reading over the heap -/
def upE (K : PySem.W.Frag) (t : DTE) : TE := fun σ H Q => ∃ τ M, RS K H σ τ ∧ RM K H M ∧ t τ M (fun d M' => ∀ v H', Keep H H' → Rep K H' v d → RM K H' M' → Q v H')
def upT (K : PySem.W.Frag) (t : DTT) : TT := fun σ H Q => ∃ τ M, RS K H σ τ ∧ RM K H M ∧ t τ M (fun b M' => ∀ H', Keep H H' → RM K H' M' → Q b H')
def upA (K : PySem.W.Frag) (t : DTA) : TA := fun σ H Q => ∃ τ M, RS K H σ τ ∧ RM K H M ∧ t τ M (fun ds M' => ∀ vs H', Keep H H' → Reps K H' vs ds → RM K H' M' → Q vs H')
/-- data ends under heap ends -/
structure EndR (K : PySem.W.Frag) (H : Hp) (E : DEnds) (D : Ends) : Prop where
  nx : ∀ τ M σ H', E.nx τ M → Keep H H' → RS K H' σ τ → RM K H' M → D.nx σ H'
  rt : ∀ d M v H', E.rt d M → Keep H H' → Rep K H' v d → RM K H' M → D.rt v H'
  bk : ∀ τ M σ H', E.bk τ M → Keep H H' → RS K H' σ τ → RM K H' M → D.bk σ H'
  ct : ∀ τ M σ H', E.ct τ M → Keep H H' → RS K H' σ τ → RM K H' M → D.ct σ H'
theorem EndR.keep {K : PySem.W.Frag} {H H' : Hp} {E : DEnds} {D : Ends} (k : Keep H H') (h : EndR K H E D) : EndR K H' E D :=
  ⟨fun τ M σ H2 q k2 => h.nx τ M σ H2 q (k.trans k2), fun d M v H2 q k2 => h.rt d M v H2 q (k.trans k2), fun τ M σ H2 q k2 => h.bk τ M σ H2 q (k.trans k2), fun τ M σ H2 q k2 => h.ct τ M σ H2 q (k.trans k2)⟩
def upS (K : PySem.W.Frag) (t : DTS) : TS := fun D σ H => ∃ τ M E, RS K H σ τ ∧ RM K H M ∧ EndR K H E D ∧ t E τ M
def upG (K : PySem.W.Frag) (t : DTG) : TG := fun v σ H Q => ∃ d τ M, Rep K H v d ∧ RS K H σ τ ∧ RM K H M ∧ t d τ M (fun τ' M' => ∀ σ' H', Keep H H' → RS K H' σ' τ' → RM K H' M' → Q σ' H')
def upGs (K : PySem.W.Frag) (t : DTGs) : TGs := fun vs σ H Q => ∃ ds τ M, Reps K H vs ds ∧ RS K H σ τ ∧ RM K H M ∧ t ds τ M (fun τ' M' => ∀ σ' H', Keep H H' → RS K H' σ' τ' → RM K H' M' → Q σ' H')

structure DE (X : Cx) (e : Expr) (t : DTE) : Prop where
  pe : PE X e (upE X.K t)
  mono : MonoE t
structure DT (X : Cx) (e : Expr) (t : DTT) : Prop where
  pt : PT X e (upT X.K t)
  mono : MonoT t
structure DW (X : Cx) (e : Expr) (t : DTT) : Prop where
  pw : PW X e (upT X.K t)
  mono : MonoT t
structure DA (X : Cx) (es : List Expr) (t : DTA) : Prop where
  pa : PA X es (upA X.K t)
  mono : MonoA t
structure DSt (X : Cx) (s : Stmt) (t : DTS) : Prop where
  ps : PS X s (upS X.K t)
  mono : MonoS t
structure DSs (X : Cx) (s : List Stmt) (t : DTS) : Prop where
  pss : PSs X s (upS X.K t)
  mono : MonoS t
structure DG (X : Cx) (e : Expr) (t : DTG) : Prop where
  pg : PG X e (upG X.K t)
  mono : MonoG t
structure DGs (X : Cx) (es : List Expr) (t : DTGs) : Prop where
  pgs : PGs X es (upGs X.K t)
  mono : MonoGs t

section
variable {X : Cx}
theorem PEimp {e : Expr} {t t' : TE} (h : PE X e t) (i : ∀ σ H Q, t' σ H Q → t σ H Q) : PE X e t' := ⟨fun pins s σ H Q I q => h.run pins s σ H Q I (i _ _ _ q)⟩
theorem PTimp {e : Expr} {t t' : TT} (h : PT X e t) (i : ∀ σ H Q, t' σ H Q → t σ H Q) : PT X e t' := ⟨fun pins s σ H Q I q => h.run pins s σ H Q I (i _ _ _ q)⟩
theorem PWimp {e : Expr} {t t' : TT} (h : PW X e t) (i : ∀ σ H Q, t' σ H Q → t σ H Q) : PW X e t' := ⟨fun wh pins s σ H Q I q => h.run wh pins s σ H Q I (i _ _ _ q)⟩
theorem PAimp {e : List Expr} {t t' : TA} (h : PA X e t) (i : ∀ σ H Q, t' σ H Q → t σ H Q) : PA X e t' := ⟨fun pos pins s σ H Q I q => h.run pos pins s σ H Q I (i _ _ _ q)⟩
theorem PSimp {e : Stmt} {t t' : TS} (h : PS X e t) (i : ∀ D σ H, t' D σ H → t D σ H) : PS X e t' := ⟨fun pins s σ H D I q => h.run pins s σ H D I (i _ _ _ q)⟩
theorem PSsimp {e : List Stmt} {t t' : TS} (h : PSs X e t) (i : ∀ D σ H, t' D σ H → t D σ H) : PSs X e t' := ⟨fun pins s σ H D I q => h.run pins s σ H D I (i _ _ _ q)⟩
theorem PGimp {e : Expr} {t t' : TG} (h : PG X e t) (i : ∀ v σ H Q, t' v σ H Q → t v σ H Q) : PG X e t' := ⟨fun pins s σ H v u Q I r q => h.run pins s σ H v u Q I r (i _ _ _ _ q)⟩
theorem PGsimp {e : List Expr} {t t' : TGs} (h : PGs X e t) (i : ∀ v σ H Q, t' v σ H Q → t v σ H Q) : PGs X e t' := ⟨fun pins s σ H v u Q I r q => h.run pins s σ H v u Q I r (i _ _ _ _ q)⟩
end
end DL

namespace DL
open PySem PySem.Spec PyProof.Rows L2

def dget : DS → Nat → Option D
  | [], _ => none
  | x :: _, 0 => x
  | _ :: r, n + 1 => dget r n
theorem dget_eq : ∀ (τ : DS) (i : Nat) (d : D), dget τ i = some d → τ[i]? = some (some d)
  | [], _, _, h => by cases h
  | x :: _, 0, d, h => by simp [dget] at h; simp [h]
  | _ :: r, n + 1, d, h => by simpa using dget_eq r n d h
def dset : DS → Nat → D → DS
  | [], _, _ => []
  | _ :: r, 0, d => some d :: r
  | x :: r, n + 1, d => x :: dset r n d
theorem dset_eq : ∀ (τ : DS) (i : Nat) (d : D), dset τ i d = τ.set i (some d)
  | [], _, _ => rfl
  | _ :: _, 0, _ => rfl
  | x :: r, n + 1, d => by rw [dset, dset_eq r n d]; rfl
def dclr : DS → Nat → DS
  | [], _ => []
  | _ :: r, 0 => none :: r
  | x :: r, n + 1 => x :: dclr r n
theorem dclr_eq : ∀ (τ : DS) (i : Nat), dclr τ i = τ.set i none
  | [], _ => rfl
  | _ :: _, 0 => rfl
  | x :: r, n + 1 => by rw [dclr, dclr_eq r n]; rfl
/-- the slots of a comprehension's own names forgotten -/
def dwp (τ : DS) : List Nat → DS
  | [] => τ
  | v :: vs => dclr (dwp τ vs) v
theorem dwp_eq (τ : DS) : ∀ vs, dwp τ vs = dwipe τ vs
  | [] => rfl
  | v :: vs => by rw [dwp, dclr_eq, dwp_eq τ vs]; rfl

section
variable {X : Cx}
/-! ### names, constants -/
def dVar (i : Nat) : DTE := fun τ M Q => match dget τ i with
  | some d => Q d M
  | none => False
def dC (d : D) : DTE := fun _ M Q => Q d M
theorem de_of {e : Expr} {t : TE} {td : DTE} (h : PE X e t) (mono : ∀ {τ : DS} {M : Mem} {Q Q' : DQ}, (∀ d M', Q d M' → Q' d M') → td τ M Q → td τ M Q') (i : ∀ (σ : L2.St) (H : Hp) (Q : VK) (τ : DS) (M : Mem), RS X.K H σ τ → RM X.K H M → td τ M (fun d M' => ∀ v H', Keep H H' → Rep X.K H' v d → RM X.K H' M' → Q v H') → t σ H Q) : DE X e td :=
  ⟨PEimp h fun σ H Q ⟨τ, M, a, b, c⟩ => i σ H Q τ M a b c, ⟨mono⟩⟩
theorem de_var {i : Nat} {x : Str} {pos : Pos} (hN : X.N[i]? = some x) (hv : Vis X.env.scope x) (hd : (x == ("__debug__" : Str)) = false := by decide) (hcd : (x == ("__classdict__" : Str)) = false := by decide) : DE X (.Name x pos) (dVar i) := by
  refine de_of (pe_var hN hv hd hcd) (fun {τ M Q Q'} h q => ?_) fun σ H Q τ M a b q => ?_
  · unfold dVar at q ⊢
    split at q
    · exact h _ _ q
    · exact q.elim
  · unfold dVar at q
    split at q
    · rename_i d e
      obtain ⟨v, e1, r⟩ := a.get i d (dget_eq τ i d e)
      exact ⟨v, e1, q v H (Keep.refl H) r b⟩
    · exact q.elim
theorem de_c {e : Expr} {v : V} {d : D} (h : PE X e (tC v)) (r : ∀ H, Rep X.K H v d) : DE X e (dC d) :=
  de_of h (fun h q => h _ _ q) fun σ H Q τ M a b q => q v H (Keep.refl H) (r H) b
theorem de_int {i j pos} : DE X (.Constant (.int i) j pos) (dC (.int i)) := de_c pe_int fun _ => .int i
theorem de_bl {b j pos} : DE X (.Constant (.bool b) j pos) (dC (.bl b)) := de_c pe_bl fun _ => .bl b
theorem de_non {j pos} : DE X (.Constant .none j pos) (dC .non) := de_c pe_non fun _ => .non
theorem de_str {x j pos} : DE X (.Constant (.str x) j pos) (dC (.str x)) := de_c pe_str fun _ => .str x
/-- a module's constant -/
structure GC (K : PySem.W.Frag) (mg : Str → Option Value) (x : Str) (d : D) : Prop where
  ex : ∃ u v, mg x = some u ∧ RelV v u ∧ ∀ H, Rep K H v d
theorem de_glob {x : Str} {d : D} {pos : Pos} (hg : Gl X x) (h : GC X.K X.mg x d) (hd : (x == ("__debug__" : Str)) = false := by decide) : DE X (.Name x pos) (dC d) := by
  obtain ⟨u, v, hm, r, rd⟩ := h.ex
  exact de_c (pe_glob hg hm r hd) rd
theorem de_bltn {x : Str} {n : String} {pos : Pos} (hg : Gl X x) (hm : X.mg x = none) (hv : bootBuiltins x = some (.type n)) (hn : x ≠ "__name__" := by decide) (hd : (x == ("__debug__" : Str)) = false := by decide) : DE X (.Name x pos) (dC (.ty n)) :=
  de_c (pe_bltn (v := .ty n) hg hm hv rfl hn hd) fun _ => .ty n

/-! ### operators -/
abbrev DR2 := D → D → Mem → DQ → Prop
abbrev DR1 := D → Mem → DQ → Prop
structure MonoR2 (rd : DR2) : Prop where
  go : ∀ {dx dy : D} {M : Mem} {Q Q' : DQ}, (∀ d M', Q d M' → Q' d M') → rd dx dy M Q → rd dx dy M Q'
structure MonoR1 (rd : DR1) : Prop where
  go : ∀ {dx : D} {M : Mem} {Q Q' : DQ}, (∀ d M', Q d M' → Q' d M') → rd dx M Q → rd dx M Q'
def dOp (rd : DR2) (ta tb : DTE) : DTE := fun τ M Q => ta τ M fun x M1 => tb τ M1 fun y M2 => rd x y M2 Q
def dUn (rd : DR1) (ta : DTE) : DTE := fun τ M Q => ta τ M fun x M1 => rd x M1 Q
/-- what comes out over the heap -/
def Out (K : PySem.W.Frag) (H : Hp) (Q : VK) (Qd : DQ) : Prop := ∀ d M' v H', Qd d M' → Keep H H' → Rep K H' v d → RM K H' M' → Q v H'
structure OpD (K : PySem.W.Frag) (r : R2) (rd : DR2) : Prop where
  to : ∀ {x y : V} {dx dy : D} {H : Hp} {M : Mem} {Qd : DQ} {Q : VK}, Rep K H x dx → Rep K H y dy → RM K H M → rd dx dy M Qd → Out K H Q Qd → r x y H Q
  mono : MonoR2 rd
structure UnD (K : PySem.W.Frag) (r : V → Hp → VK → Prop) (rd : DR1) : Prop where
  to : ∀ {x : V} {dx : D} {H : Hp} {M : Mem} {Qd : DQ} {Q : VK}, Rep K H x dx → RM K H M → rd dx M Qd → Out K H Q Qd → r x H Q
  mono : MonoR1 rd
theorem up2 {K : PySem.W.Frag} {ta tb : DTE} {rd : DR2} {r : R2} (o : OpD K r rd) (ma : MonoE ta) (mb : MonoE tb) {σ : L2.St} {H : Hp} {Q : VK} {τ : DS} {M : Mem} (hs : RS K H σ τ) (hm : RM K H M)
    (q : dOp rd ta tb τ M (fun d M' => ∀ v H', Keep H H' → Rep K H' v d → RM K H' M' → Q v H')) : tOp r (upE K ta) (upE K tb) σ H Q := by
  refine ⟨τ, M, hs, hm, ma.go (fun x M1 q v H1 k1 r1 m1 => ⟨τ, M1, hs.keep k1, m1, mb.go (fun y M2 q w H2 k2 r2 m2 => ?_) q⟩) q⟩
  exact o.to (r1.keep k2) r2 m2 q fun d M' u H' qq k3 r3 m3 => qq u H' (k1.trans (k2.trans k3)) r3 m3
theorem dOp_mono {ta tb : DTE} {rd : DR2} (ma : MonoE ta) (mb : MonoE tb) (mo : MonoR2 rd) : MonoE (dOp rd ta tb) :=
  ⟨fun h q => ma.go (fun _ _ q => mb.go (fun _ _ q => mo.go h q) q) q⟩
theorem de_op {a b : Expr} {ta tb : DTE} {pos : Pos} {op : Operator} {r : R2} {rd : DR2} (ho : OpR X (binaryOp op) r) (o : OpD X.K r rd) (ha : DE X a ta) (hb : DE X b tb) : DE X (.BinOp a op b pos) (dOp rd ta tb) :=
  de_of (pe_op ho ha.pe hb.pe) (dOp_mono ha.mono hb.mono o.mono).go fun σ H Q τ M hs hm q => up2 o ha.mono hb.mono hs hm q
theorem de_un {a : Expr} {ta : DTE} {pos : Pos} {op : UnaryOp} {r : V → Hp → VK → Prop} {rd : DR1} (ho : UnR X (unaryOp op) r) (o : UnD X.K r rd) (ha : DE X a ta) : DE X (.UnaryOp op a pos) (dUn rd ta) :=
  de_of (pe_un ho ha.pe) (fun h q => ha.mono.go (fun _ _ q => o.mono.go h q) q) fun σ H Q τ M hs hm q =>
    ⟨τ, M, hs, hm, ha.mono.go (fun x M1 q v H1 k1 r1 m1 => o.to r1 m1 q fun d M' u H' qq k3 r3 m3 => qq u H' (k1.trans k3) r3 m3) q⟩
theorem de_cmp {a b : Expr} {ta tb : DTE} {pos : Pos} {op : CmpOp} {r : R2} {rd : DR2} (ho : OpR X (compareOp op) r) (o : OpD X.K r rd) (ha : DE X a ta) (hb : DE X b tb) (hm : behindInMarks op b = false) : DE X (.Compare a [op] [b] pos) (dOp rd ta tb) :=
  de_of (pe_cmpR ho ha.pe hb.pe hm) (dOp_mono ha.mono hb.mono o.mono).go fun σ H Q τ M hs hm q => up2 o ha.mono hb.mono hs hm q
/-- as a test -/
def asB (d : D) (M : Mem) (Q : Bool → Mem → Prop) : Prop := match d with
  | .bl k => Q k M
  | _ => False
theorem asB_mono {d : D} {M : Mem} {Q Q' : Bool → Mem → Prop} (h : ∀ b M', Q b M' → Q' b M') (q : asB d M Q) : asB d M Q' := by
  unfold asB at q ⊢
  split at q
  · exact h _ _ q
  · exact q.elim
def dTest (t : DTE) : DTT := fun τ M Q => t τ M fun d M1 => asB d M1 Q
theorem asB_to {K : PySem.W.Frag} {H : Hp} {v : V} {d : D} {M : Mem} {Q : Bool → Mem → Prop} (r : Rep K H v d) (q : asB d M Q) : ∃ k, v = .bl k ∧ Q k M := by
  unfold asB at q
  split at q
  · cases r; exact ⟨_, rfl, q⟩
  · exact q.elim
theorem dt_of {e : Expr} {t : TT} {td : DTT} (h : PT X e t) (mono : ∀ {τ : DS} {M : Mem} {Q Q' : Bool → Mem → Prop}, (∀ d M', Q d M' → Q' d M') → td τ M Q → td τ M Q') (i : ∀ (σ : L2.St) (H : Hp) (Q : Bool → Hp → Prop) (τ : DS) (M : Mem), RS X.K H σ τ → RM X.K H M → td τ M (fun d M' => ∀ H', Keep H H' → RM X.K H' M' → Q d H') → t σ H Q) : DT X e td :=
  ⟨PTimp h fun σ H Q ⟨τ, M, a, b, c⟩ => i σ H Q τ M a b c, ⟨mono⟩⟩
theorem dw_of {e : Expr} {t : TT} {td : DTT} (h : PW X e t) (mono : ∀ {τ : DS} {M : Mem} {Q Q' : Bool → Mem → Prop}, (∀ d M', Q d M' → Q' d M') → td τ M Q → td τ M Q') (i : ∀ (σ : L2.St) (H : Hp) (Q : Bool → Hp → Prop) (τ : DS) (M : Mem), RS X.K H σ τ → RM X.K H M → td τ M (fun d M' => ∀ H', Keep H H' → RM X.K H' M' → Q d H') → t σ H Q) : DW X e td :=
  ⟨PWimp h fun σ H Q ⟨τ, M, a, b, c⟩ => i σ H Q τ M a b c, ⟨mono⟩⟩
theorem dTest_mono {t : DTE} (m : MonoE t) : MonoT (dTest t) := ⟨fun h q => m.go (fun _ _ q => asB_mono h q) q⟩
theorem dt_cmp {a b : Expr} {ta tb : DTE} {pos : Pos} {op : CmpOp} {r : R2} {rd : DR2} (ho : OpR X (compareOp op) r) (o : OpD X.K r rd) (ha : DE X a ta) (hb : DE X b tb) (hm : behindInMarks op b = false) : DT X (.Compare a [op] [b] pos) (dTest (dOp rd ta tb)) := by
  refine dt_of (pt_cmpR ho ha.pe hb.pe hm) (dTest_mono (dOp_mono ha.mono hb.mono o.mono)).go fun σ H Q τ M hs hm q => ?_
  refine up2 o ha.mono hb.mono hs hm ((dOp_mono ha.mono hb.mono o.mono).go (fun d M' q v H' k1 r1 m1 => ?_) q)
  obtain ⟨k, e, q⟩ := asB_to r1 q
  exact ⟨k, e, q H' k1 m1⟩
theorem dt_val {e : Expr} {t : DTE} (h : DE X e t) (he : ∀ whole, isTrue e X.env whole = (do let v ← whole; standAt e.pos; holding [v] (truthy v)) := by intro _; rfl) : DT X e (dTest t) :=
  dt_of (pt_val h.pe he) (dTest_mono h.mono).go fun σ H Q τ M hs hm q => ⟨τ, M, hs, hm, h.mono.go (fun d M' q v H' k1 r1 m1 => let ⟨k, e, q⟩ := asB_to r1 q; ⟨k, e, q H' k1 m1⟩) q⟩
/-! ### and, or, not -/
def dAnd (t u : DTT) : DTT := fun τ M Q => t τ M fun c M1 => if c = true then u τ M1 Q else Q false M1
def dOr (t u : DTT) : DTT := fun τ M Q => t τ M fun c M1 => if c = true then Q true M1 else u τ M1 Q
def dNot (t : DTT) : DTT := fun τ M Q => t τ M fun c M1 => Q (!c) M1
variable {a b : Expr} {tA tB : DTT} {rest : List Expr} {pos : Pos}
theorem dAnd_mono {t u : DTT} (m : MonoT t) (n : MonoT u) : MonoT (dAnd t u) := ⟨fun h q => m.go (fun c M1 q => by
  cases c with
  | true => exact n.go h q
  | false => exact h _ _ q) q⟩
theorem dOr_mono {t u : DTT} (m : MonoT t) (n : MonoT u) : MonoT (dOr t u) := ⟨fun h q => m.go (fun c M1 q => by
  cases c with
  | true => exact h _ _ q
  | false => exact n.go h q) q⟩
theorem dw_and1 (ha : DT X a tA) : DW X (.BoolOp .And [a] pos) tA := ⟨pw_and1 ha.pt, ha.mono⟩
theorem dw_or1 (ha : DT X a tA) : DW X (.BoolOp .Or [a] pos) tA := ⟨pw_or1 ha.pt, ha.mono⟩
theorem dw_and (ha : DT X a tA) (hb : DW X (.BoolOp .And (b :: rest) pos) tB) : DW X (.BoolOp .And (a :: b :: rest) pos) (dAnd tA tB) := by
  refine dw_of (pw_and ha.pt hb.pw) (dAnd_mono ha.mono hb.mono).go fun σ H Q τ M hs hm q => ?_
  refine ⟨τ, M, hs, hm, ha.mono.go (fun c M1 q H1 k1 m1 => ?_) q⟩
  cases c with
  | true => exact iteT ⟨τ, M1, hs.keep k1, m1, hb.mono.go (fun c M2 q H2 k2 m2 => q H2 (k1.trans k2) m2) q⟩
  | false => exact iteF (q H1 k1 m1)
theorem dw_or (ha : DT X a tA) (hb : DW X (.BoolOp .Or (b :: rest) pos) tB) : DW X (.BoolOp .Or (a :: b :: rest) pos) (dOr tA tB) := by
  refine dw_of (pw_or ha.pt hb.pw) (dOr_mono ha.mono hb.mono).go fun σ H Q τ M hs hm q => ?_
  refine ⟨τ, M, hs, hm, ha.mono.go (fun c M1 q H1 k1 m1 => ?_) q⟩
  cases c with
  | true => exact iteT (q H1 k1 m1)
  | false => exact iteF ⟨τ, M1, hs.keep k1, m1, hb.mono.go (fun c M2 q H2 k2 m2 => q H2 (k1.trans k2) m2) q⟩
theorem DW.dt {t : DTT} (h : DW X a t) : DT X a t := ⟨h.pw.pt, h.mono⟩
theorem dt_not (ha : DT X a tA) : DT X (.UnaryOp .Not a pos) (dNot tA) :=
  dt_of (pt_not ha.pt) (fun h q => ha.mono.go (fun _ _ q => h _ _ q) q) fun σ H Q τ M hs hm q => ⟨τ, M, hs, hm, ha.mono.go (fun c M1 q H1 k1 m1 => q H1 k1 m1) q⟩
/-! as values (bools) -/
def dAndV (ta tb : DTE) : DTE := fun τ M Q => ta τ M fun x M1 => asB x M1 fun c M1 => if c = true then tb τ M1 Q else Q (.bl false) M1
def dOrV (ta tb : DTE) : DTE := fun τ M Q => ta τ M fun x M1 => asB x M1 fun c M1 => if c = true then Q (.bl true) M1 else tb τ M1 Q
def dNotV (ta : DTE) : DTE := fun τ M Q => ta τ M fun x M1 => asB x M1 fun c M1 => Q (.bl (!c)) M1
variable {ta tb : DTE}
theorem de_one {op} {t : DTE} (h : DE X a t) : DE X (.BoolOp op [a] pos) t := ⟨pe_one h.pe, h.mono⟩
theorem de_and (ha : DE X a ta) (hb : DE X (.BoolOp .And (b :: rest) pos) tb) : DE X (.BoolOp .And (a :: b :: rest) pos) (dAndV ta tb) := by
  refine de_of (pe_and ha.pe hb.pe) (fun h q => ha.mono.go (fun _ _ q => asB_mono (fun c M1 q => ?_) q) q) fun σ H Q τ M hs hm q => ?_
  · cases c with
    | true => exact hb.mono.go h q
    | false => exact h _ _ q
  · refine ⟨τ, M, hs, hm, ha.mono.go (fun d M1 q v H1 k1 r1 m1 => ?_) q⟩
    obtain ⟨c, e, q⟩ := asB_to r1 q
    refine ⟨c, e, ?_⟩
    cases c with
    | true => exact iteT ⟨τ, M1, hs.keep k1, m1, hb.mono.go (fun d M2 q v H2 k2 r2 m2 => q v H2 (k1.trans k2) r2 m2) q⟩
    | false => exact iteF (q _ H1 k1 (.bl false) m1)
theorem de_or (ha : DE X a ta) (hb : DE X (.BoolOp .Or (b :: rest) pos) tb) : DE X (.BoolOp .Or (a :: b :: rest) pos) (dOrV ta tb) := by
  refine de_of (pe_or ha.pe hb.pe) (fun h q => ha.mono.go (fun _ _ q => asB_mono (fun c M1 q => ?_) q) q) fun σ H Q τ M hs hm q => ?_
  · cases c with
    | true => exact h _ _ q
    | false => exact hb.mono.go h q
  · refine ⟨τ, M, hs, hm, ha.mono.go (fun d M1 q v H1 k1 r1 m1 => ?_) q⟩
    obtain ⟨c, e, q⟩ := asB_to r1 q
    refine ⟨c, e, ?_⟩
    cases c with
    | true => exact iteT (q _ H1 k1 (.bl true) m1)
    | false => exact iteF ⟨τ, M1, hs.keep k1, m1, hb.mono.go (fun d M2 q v H2 k2 r2 m2 => q v H2 (k1.trans k2) r2 m2) q⟩
theorem de_not (ha : DE X a ta) : DE X (.UnaryOp .Not a pos) (dNotV ta) := by
  refine de_of (pe_not ha.pe) (fun h q => ha.mono.go (fun _ _ q => asB_mono (fun c M1 q => h _ _ q) q) q) fun σ H Q τ M hs hm q => ?_
  refine ⟨τ, M, hs, hm, ha.mono.go (fun d M1 q v H1 k1 r1 m1 => ?_) q⟩
  obtain ⟨c, e, q⟩ := asB_to r1 q
  exact ⟨c, e, q _ H1 k1 (.bl _) m1⟩
def dIfE (t : DTT) (ta tb : DTE) : DTE := fun τ M Q => t τ M fun c M1 => if c = true then ta τ M1 Q else tb τ M1 Q
theorem de_ifExp {c : Expr} (hc : DT X c tA) (ha : DE X a ta) (hb : DE X b tb) : DE X (.IfExp c a b pos) (dIfE tA ta tb) := by
  refine de_of (pe_ifExp hc.pt ha.pe hb.pe) (fun h q => hc.mono.go (fun c M1 q => ?_) q) fun σ H Q τ M hs hm q => ?_
  · cases c with
    | true => exact ha.mono.go h q
    | false => exact hb.mono.go h q
  · refine ⟨τ, M, hs, hm, hc.mono.go (fun c M1 q H1 k1 m1 => ?_) q⟩
    cases c with
    | true => exact iteT ⟨τ, M1, hs.keep k1, m1, ha.mono.go (fun d M2 q v H2 k2 r2 m2 => q v H2 (k1.trans k2) r2 m2) q⟩
    | false => exact iteF ⟨τ, M1, hs.keep k1, m1, hb.mono.go (fun d M2 q v H2 k2 r2 m2 => q v H2 (k1.trans k2) r2 m2) q⟩
/-- what is made and thrown away within an expression is forgotten -/
def dPure (t : DTE) : DTE := fun τ M Q => t τ M fun d M1 => Sub M M1 ∧ Q d M
theorem de_pure {e : Expr} {t : DTE} (h : DE X e t) : DE X e (dPure t) :=
  de_of h.pe (fun h2 q => h.mono.go (fun _ _ ⟨s, q⟩ => ⟨s, h2 _ _ q⟩) q) fun σ H Q τ M hs hm q => ⟨τ, M, hs, hm, h.mono.go (fun d M1 ⟨s, q⟩ v H1 k r m => q v H1 k r (m.sub s)) q⟩
def dPureT (t : DTT) : DTT := fun τ M Q => t τ M fun d M1 => Sub M M1 ∧ Q d M
theorem dt_pure {e : Expr} {t : DTT} (h : DT X e t) : DT X e (dPureT t) :=
  dt_of h.pt (fun h2 q => h.mono.go (fun _ _ ⟨s, q⟩ => ⟨s, h2 _ _ q⟩) q) fun σ H Q τ M hs hm q => ⟨τ, M, hs, hm, h.mono.go (fun d M1 ⟨s, q⟩ H1 k m => q H1 k (m.sub s)) q⟩

/-! ### arguments, tuples, lists -/
def dNil : DTA := fun _ M Q => Q [] M
def dCons (ta : DTE) (tr : DTA) : DTA := fun τ M Q => ta τ M fun x M1 => tr τ M1 fun xs M2 => Q (x :: xs) M2
theorem da_of {es : List Expr} {t : TA} {td : DTA} (h : PA X es t) (mono : ∀ {τ : DS} {M : Mem} {Q Q' : List D → Mem → Prop}, (∀ d M', Q d M' → Q' d M') → td τ M Q → td τ M Q') (i : ∀ (σ : L2.St) (H : Hp) (Q : List V → Hp → Prop) (τ : DS) (M : Mem), RS X.K H σ τ → RM X.K H M → td τ M (fun d M' => ∀ v H', Keep H H' → Reps X.K H' v d → RM X.K H' M' → Q v H') → t σ H Q) : DA X es td :=
  ⟨PAimp h fun σ H Q ⟨τ, M, a, b, c⟩ => i σ H Q τ M a b c, ⟨mono⟩⟩
theorem da_nil : DA X [] dNil := da_of pa_nil (fun h q => h _ _ q) fun σ H Q τ M hs hm q => q [] H (Keep.refl H) .nil hm
theorem da_cons {e : Expr} {es : List Expr} {te : DTE} {t : DTA} (ha : DE X e te) (hr : DA X es t) (hs : starEach (e :: es) X.env = (false, eval e X.env) :: starEach es X.env := by rfl) : DA X (e :: es) (dCons te t) := by
  refine da_of (pa_cons ha.pe hr.pa hs) (fun h q => ha.mono.go (fun _ _ q => hr.mono.go (fun _ _ q => h _ _ q) q) q) fun σ H Q τ M hs hm q => ?_
  exact ⟨τ, M, hs, hm, ha.mono.go (fun d M1 q v H1 k1 r1 m1 => ⟨τ, M1, hs.keep k1, m1, hr.mono.go (fun ds M2 q vs H2 k2 r2 m2 => q (v :: vs) H2 (k1.trans k2) (.cons (r1.keep k2) r2) m2) q⟩) q⟩
def dTup (t : DTA) : DTE := fun τ M Q => t τ M fun ds M1 => ds.length ≤ sizeLine ∧ Q (.tup ds) M1
def dLst (t : DTA) : DTE := fun τ M Q => t τ M fun ds M1 => ds.length ≤ sizeLine ∧ ∀ p, M1 p = none → Q (.ref p) (mupd M1 p (.lst ds))
theorem de_tup {es : List Expr} {t : DTA} {x1} (h : DA X es t) : DE X (.Tuple es x1 pos) (dTup t) := by
  refine de_of (pe_tup h.pa) (fun h2 q => h.mono.go (fun _ _ ⟨l, q⟩ => ⟨l, h2 _ _ q⟩) q) fun σ H Q τ M hs hm q => ?_
  refine ⟨τ, M, hs, hm, h.mono.go (fun ds M1 ⟨l, q⟩ vs H1 k1 r1 m1 => ⟨by rw [r1.length]; exact l, fun p np => ?_⟩) q⟩
  exact q _ _ (k1.trans (Keep.new np)) (.tup (SqT.of upd_same) (r1.keep (Keep.new np))) (m1.fresh np)
theorem de_lst {es : List Expr} {t : DTA} (h : DA X es t) : DE X (.List es pos) (dLst t) := by
  refine de_of (pe_lst h.pa) (fun h2 q => h.mono.go (fun _ _ ⟨l, q⟩ => ⟨l, fun p np => h2 _ _ (q p np)⟩) q) fun σ H Q τ M hs hm q => ?_
  refine ⟨τ, M, hs, hm, h.mono.go (fun ds M1 ⟨l, q⟩ vs H1 k1 r1 m1 => ⟨by rw [r1.length]; exact l, fun p np => ?_⟩) q⟩
  exact q p (m1.free np) _ _ (k1.trans (Keep.new np)) (.ref p) (m1.new np ⟨vs, rfl, r1.keep (Keep.new np)⟩)

/-! ### calls -/
abbrev DRL := List D → Mem → DQ → Prop
structure MonoRL (rd : DRL) : Prop where
  go : ∀ {ds : List D} {M : Mem} {Q Q' : DQ}, (∀ d M', Q d M' → Q' d M') → rd ds M Q → rd ds M Q'
structure CallD (K : PySem.W.Frag) (r : List V → Hp → VK → Prop) (rd : DRL) : Prop where
  to : ∀ {xs : List V} {ds : List D} {H : Hp} {M : Mem} {Qd : DQ} {Q : VK}, Reps K H xs ds → RM K H M → rd ds M Qd → Out K H Q Qd → r xs H Q
  mono : MonoRL rd
def dCB (rd : DRL) (t : DTA) : DTE := fun τ M Q => t τ M fun ds M1 => rd ds M1 Q
theorem upCB {K : PySem.W.Frag} {t : DTA} {rd : DRL} {r : List V → Hp → VK → Prop} (o : CallD K r rd) (m : MonoA t) {σ : L2.St} {H : Hp} {Q : VK} {τ : DS} {M : Mem} (hs : RS K H σ τ) (hm : RM K H M)
    (q : dCB rd t τ M (fun d M' => ∀ v H', Keep H H' → Rep K H' v d → RM K H' M' → Q v H')) : tCB r (upA K t) σ H Q :=
  ⟨τ, M, hs, hm, m.go (fun ds M1 q vs H1 k1 r1 m1 => o.to r1 m1 q fun d M' u H' qq k3 r3 m3 => qq u H' (k1.trans k3) r3 m3) q⟩
theorem dCB_mono {t : DTA} {rd : DRL} (m : MonoA t) (mo : MonoRL rd) : MonoE (dCB rd t) := ⟨fun h q => m.go (fun _ _ q => mo.go h q) q⟩
variable {e : Expr} {es : List Expr} {t : DTA} {x : Str} {p : Pos}
theorem de_callB {id : String} {r : List V → Hp → VK → Prop} {rd : DRL} (hc : CallR X (.builtin id) r) (o : CallD X.K r rd) (hg : Gl X x) (hm : X.mg x = none) (hv : bootBuiltins x = some (.builtin id)) (ha : DA X (e :: es) t) (hn : x ≠ "__name__" := by decide) (hdb : (x == ("__debug__" : Str)) = false := by decide)
    (he : starEach (e :: es) X.env = (false, eval e X.env) :: starEach es X.env := by rfl) (hpl : (backTo pos (starEach es X.env)).any (·.1) = false := by rfl) : DE X (.Call (.Name x p) (e :: es) [] pos) (dCB rd t) :=
  de_of (pe_callB hc hg hm hv ha.pa hn hdb he hpl) (dCB_mono ha.mono o.mono).go fun σ H Q τ M hs hm q => upCB o ha.mono hs hm q
theorem de_callTy {T : String} {r : List V → Hp → VK → Prop} {rd : DRL} (hc : CallR X (.type T) r) (o : CallD X.K r rd) (hg : Gl X x) (hm : X.mg x = none) (hv : bootBuiltins x = some (.type T)) (ha : DA X (e :: es) t) (hn : x ≠ "__name__" := by decide) (hdb : (x == ("__debug__" : Str)) = false := by decide)
    (he : starEach (e :: es) X.env = (false, eval e X.env) :: starEach es X.env := by rfl) (hpl : (backTo pos (starEach es X.env)).any (·.1) = false := by rfl) : DE X (.Call (.Name x p) (e :: es) [] pos) (dCB rd t) :=
  de_of (pe_callTy hc hg hm hv ha.pa hn hdb he hpl) (dCB_mono ha.mono o.mono).go fun σ H Q τ M hs hm q => upCB o ha.mono hs hm q
/-! defs of the text -/
abbrev DSp := List D → Mem → DQ → Prop
structure MonoSp (sp : DSp) : Prop where
  go : ∀ {ds : List D} {M : Mem} {Q Q' : DQ}, (∀ d M', Q d M' → Q' d M') → sp ds M Q → sp ds M Q'
def upSp (K : PySem.W.Frag) (sp : DSp) : Sp := fun vs H Q _ => ∃ ds M, Reps K H vs ds ∧ RM K H M ∧ sp ds M (fun d M' => ∀ v H', Keep H H' → Rep K H' v d → RM K H' M' → Q v H')
/-- a def that may be called here: its name, its promise, the defaults that fill up -/
structure Can (P : Program) (w : World) (K : PySem.W.Frag) (mg : Str → Option Value) (base : Heap) (A : Around) (x : Str) (dds : List D) (sp : DSp) : Prop where
  ex : ∃ (f : Addr) (fd : FuncData) (ps : List Str) (k : Nat) (us : List Value) (dvs : List V), FnOk P w K mg base CX0 k f fd ps (upSp K sp) ∧ Room k A ∧ mg x = some (.ref f) ∧ PySem.W.keepIn K (.ref f) = true ∧ Binds K fd ps us ∧ Vals dvs us ∧ ∀ H, Reps K H dvs dds
  mono : MonoSp sp
def dCall (sp : DSp) (dds : List D) (t : DTA) : DTE := fun τ M Q => t τ M fun ds M1 => sp (ds ++ dds) M1 Q
theorem upCall {sp : DSp} {dds : List D} {dvs : List V} {K : PySem.W.Frag} {t : DTA} (hsp : MonoSp sp) (m : MonoA t) (rd : ∀ H, Reps K H dvs dds) {σ : L2.St} {H : Hp} {Q : VK} {τ : DS} {M : Mem} (hs : RS K H σ τ) (hm : RM K H M)
    (q : dCall sp dds t τ M (fun d M' => ∀ v H', Keep H H' → Rep K H' v d → RM K H' M' → Q v H')) : tCall (upSp K sp) dvs E0 (upA K t) σ H Q :=
  ⟨τ, M, hs, hm, m.go (fun ds M1 q vs H1 k1 r1 m1 => ⟨ds ++ dds, M1, r1.append (rd H1), m1, hsp.go (fun d M' q v H' k2 => q v H' (k1.trans k2)) q⟩) q⟩
theorem de_call {sp : DSp} {dds : List D} (c : Can X.prog X.w X.K X.mg X.base X.A x dds sp) (hg : Gl X x) (ha : DA X (e :: es) t) (hdb : (x == ("__debug__" : Str)) = false := by decide)
    (he : starEach (e :: es) X.env = (false, eval e X.env) :: starEach es X.env := by rfl) (hpl : (backTo pos (starEach es X.env)).any (·.1) = false := by rfl) : DE X (.Call (.Name x p) (e :: es) [] pos) (dCall sp dds t) := by
  obtain ⟨f, fd, ps, k, us, dvs, F, hr, hm, hk, hb, hd, rd⟩ := c.ex
  exact de_of (pe_call F hr hg hm hk hb hd pass0 ha.pa hdb he hpl) (fun h q => ha.mono.go (fun _ _ q => c.mono.go h q) q) fun σ H Q τ M hs hm q => upCall c.mono ha.mono rd hs hm q
theorem de_call0 {sp : DSp} {dds : List D} (c : Can X.prog X.w X.K X.mg X.base X.A x dds sp) (hg : Gl X x) (hdb : (x == ("__debug__" : Str)) = false := by decide) : DE X (.Call (.Name x p) [] [] pos) (dCall sp dds dNil) := by
  obtain ⟨f, fd, ps, k, us, dvs, F, hr, hm, hk, hb, hd, rd⟩ := c.ex
  refine de_of (pe_call0 F hr hg hm hk hb hd pass0 hdb) (fun h q => c.mono.go h q) fun σ H Q τ M hs hm q => ?_
  exact ⟨dds, M, rd H, hm, q⟩

/-! ### statements -/
theorem ds_of {st : Stmt} {t : TS} {td : DTS} (h : PS X st t) (mono : ∀ {E E' : DEnds} {τ : DS} {M : Mem}, E.Imp E' → td E τ M → td E' τ M) (i : ∀ (D : Ends) (σ : L2.St) (H : Hp) (τ : DS) (M : Mem) (E : DEnds), RS X.K H σ τ → RM X.K H M → EndR X.K H E D → td E τ M → t D σ H) : DSt X st td :=
  ⟨PSimp h fun D σ H ⟨τ, M, E, a, b, c, d⟩ => i D σ H τ M E a b c d, ⟨mono⟩⟩
theorem dss_of {st : List Stmt} {t : TS} {td : DTS} (h : PSs X st t) (mono : ∀ {E E' : DEnds} {τ : DS} {M : Mem}, E.Imp E' → td E τ M → td E' τ M) (i : ∀ (D : Ends) (σ : L2.St) (H : Hp) (τ : DS) (M : Mem) (E : DEnds), RS X.K H σ τ → RM X.K H M → EndR X.K H E D → td E τ M → t D σ H) : DSs X st td :=
  ⟨PSsimp h fun D σ H ⟨τ, M, E, a, b, c, d⟩ => i D σ H τ M E a b c d, ⟨mono⟩⟩
def dNext : DTS := fun E τ M => E.nx τ M
def dSeq (t u : DTS) : DTS := fun E τ M => t { E with nx := u E } τ M
variable {st : Stmt} {sts : List Stmt} {t1 t2 : DTS} {te : DTE}
theorem dNext_mono : MonoS dNext := ⟨fun h q => h.nx _ _ q⟩
theorem dss_nil : DSs X [] dNext := dss_of pss_nil dNext_mono.go fun D σ H τ M E a b c d => c.nx _ _ _ _ d (Keep.refl H) a b
theorem dSeq_mono {t u : DTS} (m : MonoS t) (n : MonoS u) : MonoS (dSeq t u) := ⟨fun {E E' τ M} h q => m.go (E := { E with nx := u E }) (E' := { E' with nx := u E' }) ⟨fun _ _ q => n.go h q, h.rt, h.bk, h.ct⟩ q⟩
theorem dss_cons (h1 : DSt X st t1) (h2 : DSs X sts t2) : DSs X (st :: sts) (dSeq t1 t2) := by
  refine dss_of (pss_cons h1.ps h2.pss) (dSeq_mono h1.mono h2.mono).go fun D σ H τ M E a b c d => ?_
  exact ⟨τ, M, { E with nx := t2 E }, a, b, ⟨fun τ' M' σ' H' q k s m => ⟨τ', M', E, s, m, c.keep k, q⟩, c.rt, c.bk, c.ct⟩, d⟩
theorem dss_one (h1 : DSt X st t1) : DSs X [st] t1 := ⟨pss_one h1.ps, h1.mono⟩
def dBreak : DTS := fun E τ M => E.bk τ M
def dCont : DTS := fun E τ M => E.ct τ M
theorem ds_pass : DSt X (.Pass pos) dNext := ds_of ps_pass dNext_mono.go fun D σ H τ M E a b c d => c.nx _ _ _ _ d (Keep.refl H) a b
theorem ds_break : DSt X (.Break pos) dBreak := ds_of ps_break (fun h q => h.bk _ _ q) fun D σ H τ M E a b c d => c.bk _ _ _ _ d (Keep.refl H) a b
theorem ds_continue : DSt X (.Continue pos) dCont := ds_of ps_continue (fun h q => h.ct _ _ q) fun D σ H τ M E a b c d => c.ct _ _ _ _ d (Keep.refl H) a b
theorem ds_doc {x j pos pos'} : DSt X (.Expr (.Constant (.str x) j pos) pos') dNext := ds_of ps_doc dNext_mono.go fun D σ H τ M E a b c d => c.nx _ _ _ _ d (Keep.refl H) a b
def dDrop (te : DTE) : DTS := fun E τ M => te τ M fun _ M1 => E.nx τ M1
theorem ds_expr (he : DE X e te) (hs : swapsWith e none pos.line X.env = pure false := by rfl) : DSt X (.Expr e pos) (dDrop te) :=
  ds_of (ps_expr he.pe hs) (fun h q => he.mono.go (fun _ _ q => h.nx _ _ q) q) fun D σ H τ M E a b c d => ⟨τ, M, a, b, he.mono.go (fun d M1 q v H1 k r m => c.nx _ _ _ _ q k (a.keep k) m) d⟩
def dRet (te : DTE) : DTS := fun E τ M => te τ M E.rt
theorem ds_ret (he : DE X e te) : DSt X (.Return (some e) pos) (dRet te) :=
  ds_of (ps_ret he.pe) (fun h q => he.mono.go (fun _ _ q => h.rt _ _ q) q) fun D σ H τ M E a b c d => ⟨τ, M, a, b, he.mono.go (fun d M1 q v H1 k r m => c.rt _ _ _ _ q k r m) d⟩
def dRetN : DTS := fun E _ M => E.rt .non M
theorem ds_retN : DSt X (.Return none pos) dRetN := ds_of ps_retN (fun h q => h.rt _ _ q) fun D σ H τ M E a b c d => c.rt _ _ _ _ d (Keep.refl H) .non b
def dIf (c : DTT) (t u : DTS) : DTS := fun E τ M => c τ M fun b M1 => if b = true then t E τ M1 else u E τ M1
theorem ds_if {c : Expr} {p q : List Stmt} {tc : DTT} (hc : DT X c tc) (ha : DSs X p t1) (hb : DSs X q t2) : DSt X (.If c p q pos) (dIf tc t1 t2) := by
  refine ds_of (ps_if hc.pt ha.pss hb.pss) (fun h q => hc.mono.go (fun b M1 q => ?_) q) fun D σ H τ M E a b c d => ?_
  · cases b with
    | true => exact ha.mono.go h q
    | false => exact hb.mono.go h q
  · refine ⟨τ, M, a, b, hc.mono.go (fun b M1 q H1 k m => ?_) d⟩
    cases b with
    | true => exact iteT ⟨τ, M1, E, a.keep k, m, c.keep k, q⟩
    | false => exact iteF ⟨τ, M1, E, a.keep k, m, c.keep k, q⟩
/-! targets -/
theorem dg_of {t : TG} {td : DTG} (h : PG X e t) (mono : ∀ {d : D} {τ : DS} {M : Mem} {Q Q' : DS → Mem → Prop}, (∀ τ M, Q τ M → Q' τ M) → td d τ M Q → td d τ M Q') (i : ∀ (v : V) (σ : L2.St) (H : Hp) (Q : L2.St → Hp → Prop) (d : D) (τ : DS) (M : Mem), Rep X.K H v d → RS X.K H σ τ → RM X.K H M → td d τ M (fun τ' M' => ∀ σ' H', Keep H H' → RS X.K H' σ' τ' → RM X.K H' M' → Q σ' H') → t v σ H Q) : DG X e td :=
  ⟨PGimp h fun v σ H Q ⟨d, τ, M, r, a, b, c⟩ => i v σ H Q d τ M r a b c, ⟨mono⟩⟩
def gN (i : Nat) : DTG := fun d τ M Q => Q (dset τ i d) M
theorem gN_mono (i : Nat) : MonoG (gN i) := ⟨fun h q => h _ _ q⟩
theorem dg_name {i : Nat} {x : Str} (hN : X.N.Nodup) (hi : X.N[i]? = some x) (hx : Loc X.env.scope x) (hf : X.fn x = true ∨ X.env.scope.names.lookup x = some .local := by first | exact .inl rfl | exact .inr rfl | assumption) : DG X (.Name x pos) (gN i) :=
  dg_of (pg_name hN hi hx hf) (fun h q => h _ _ q) fun v σ H Q d τ M r a b q => by
    have q' : ∀ σ' H', Keep H H' → RS X.K H' σ' (dset τ i d) → RM X.K H' M → Q σ' H' := q
    rw [dset_eq] at q'
    exact q' _ H (Keep.refl H) (a.set i r) b
def gN0 : DTGs := fun ds τ M Q => match ds with
  | [] => Q τ M
  | _ => False
def gNc (t : DTG) (u : DTGs) : DTGs := fun ds τ M Q => match ds with
  | d :: r => t d τ M fun τ' M' => u r τ' M' Q
  | _ => False
theorem dgs_nil : DGs X [] gN0 := by
  refine ⟨PGsimp pgs_nil fun vs σ H Q ⟨ds, τ, M, r, a, b, c⟩ => ?_, ⟨fun {ds τ M Q Q'} h q => ?_⟩⟩
  · cases r with
    | nil => exact ⟨rfl, c _ _ (Keep.refl H) a b⟩
    | cons => exact False.elim c
  · cases ds with
    | nil => exact h _ _ q
    | cons => exact False.elim q
theorem dgs_cons {g : DTG} {gs : DTGs} (h1 : DG X e g) (h2 : DGs X es gs) (hs : (assignEach (e :: es) X.env).map (·.2) = assign e X.env :: (assignEach es X.env).map (·.2) := by rfl) : DGs X (e :: es) (gNc g gs) := by
  refine ⟨PGsimp (pgs_cons h1.pg h2.pgs hs) fun vs σ H Q ⟨ds, τ, M, r, a, b, c⟩ => ?_, ⟨fun {ds τ M Q Q'} h q => ?_⟩⟩
  · cases r with
    | nil => exact False.elim c
    | cons rv rr => exact ⟨_, _, rfl, _, τ, M, rv, a, b, h1.mono.go (fun τ' M' q σ' H' k s m => ⟨_, τ', M', rr.keep k, s, m, h2.mono.go (fun τ2 M2 q σ2 H2 k2 s2 m2 => q σ2 H2 (k.trans k2) s2 m2) q⟩) c⟩
  · cases ds with
    | nil => exact False.elim q
    | cons => exact h1.mono.go (fun _ _ q => h2.mono.go (fun _ _ q => h _ _ q) q) q
def gTp (n : Nat) (t : DTGs) : DTG := fun d τ M Q => match d with
  | .tup ds => ds.length = n ∧ t ds τ M Q
  | _ => False
theorem dg_tup {k : Nat} {gs : DTGs} {n : Nat} (hc : X.calm = true) (h : DGs X es gs) (hn : (assignEach es X.env).length = n := by rfl) (hst : (assignEach es X.env).findIdx? (·.1) = none := by rfl) : DG X (.Tuple es k pos) (gTp n gs) :=
  dg_of (pg_tup hc h.pgs hn hst) (fun {d τ M Q Q'} h2 q => by
    unfold gTp at q ⊢
    split at q
    · exact ⟨q.1, h.mono.go h2 q.2⟩
    · exact q.elim) fun v σ H Q d τ M r a b q => by
    unfold gTp at q
    split at q
    · cases r with
      | tup hs hr => exact ⟨_, _, rfl, hs, by rw [hr.length]; exact q.1, _, τ, M, hr, a, b, q.2⟩
    · exact q.elim
def dAsg (te : DTE) (g : DTG) : DTS := fun E τ M => te τ M fun d M1 => g d τ M1 E.nx
theorem dAsg_mono {te : DTE} {g : DTG} (m : MonoE te) (n : MonoG g) : MonoS (dAsg te g) := ⟨fun h q => m.go (fun _ _ q => n.go (fun _ _ q => h.nx _ _ q) q) q⟩
theorem upAsg {K : PySem.W.Frag} {te : DTE} {g : DTG} (m : MonoE te) (n : MonoG g) {D : Ends} {σ : L2.St} {H : Hp} {τ : DS} {M : Mem} {E : DEnds} (a : RS K H σ τ) (b : RM K H M) (c : EndR K H E D) (d : dAsg te g E τ M) : tAsg (upE K te) (upG K g) D σ H :=
  ⟨τ, M, a, b, m.go (fun d M1 q v H1 k r m1 => ⟨d, τ, M1, r, a.keep k, m1, n.go (fun τ' M' q σ' H' k2 s m2 => c.nx _ _ _ _ q (k.trans k2) s m2) q⟩) d⟩
theorem ds_asg {tg : Expr} {g : DTG} (he : DE X e te) (hg : DG X tg g) (hs : swapsWithSole [tg] e pos.line X.env = pure false := by rfl) (hw : swappedStores [tg] e X.env = pure none := by rfl)
    (h1 : (assignEach [tg] X.env).map (·.2) = [assign tg X.env] := by rfl) : DSt X (.Assign [tg] e pos) (dAsg te g) :=
  ds_of (ps_asg he.pe hg.pg hs hw h1) (dAsg_mono he.mono hg.mono).go fun D σ H τ M E a b c d => upAsg he.mono hg.mono a b c d
theorem ds_set {i : Nat} {x : Str} {pos' : Pos} (hN : X.N.Nodup) (hi : X.N[i]? = some x) (hx : Loc X.env.scope x) (he : DE X e te) (hs : swapsWith e (some (.Name x pos')) pos.line X.env = pure false := by rfl) (hf : X.fn x = true ∨ X.env.scope.names.lookup x = some .local := by first | exact .inl rfl | exact .inr rfl | assumption) :
    DSt X (.Assign [.Name x pos'] e pos) (dAsg te (gN i)) :=
  ds_of (ps_set hN hi hx he.pe hs hf) (dAsg_mono he.mono (gN_mono i)).go fun D σ H τ M E a b c d => ⟨τ, M, a, b, he.mono.go (fun d M1 q v H1 k r m1 => by
    have q' : E.nx (dset τ i d) M1 := q
    rw [dset_eq] at q'
    exact c.nx _ _ _ _ q' k ((a.keep k).set i r) m1) d⟩
def dPar (i j : Nat) (ta : DTA) : DTS := fun E τ M => ta τ M fun ds M1 => match ds with
  | [v, w] => E.nx (dset (dset τ i v) j w) M1
  | _ => False
theorem ds_par {i j : Nat} {x y : Str} {ta : DTA} {px py pt : Pos} {kt k2 pt2} (hc : X.calm = true) (hN : X.N.Nodup) (hi : X.N[i]? = some x) (hj : X.N[j]? = some y) (hij : i ≠ j)
    (hx : X.env.scope.names.lookup x = some .local) (hy : X.env.scope.names.lookup y = some .local) (ha : DA X [a, b] ta)
    (hw : swappedStores [.Tuple [.Name x px, .Name y py] kt pt] (.Tuple [a, b] k2 pt2) X.env = pure (some [x, y]))
    (hs : swapsWithSole [.Tuple [.Name x px, .Name y py] kt pt] (.Tuple [a, b] k2 pt2) pos.line X.env = pure false := by rfl) :
    DSt X (.Assign [.Tuple [.Name x px, .Name y py] kt pt] (.Tuple [a, b] k2 pt2) pos) (dPar i j ta) := by
  refine ds_of (ps_par hc hN hi hj hij hx hy ha.pa hw hs) (fun h q => ha.mono.go (fun ds M1 q => ?_) q) fun D σ H τ M E a b c d => ?_
  · split at q
    · exact h.nx _ _ q
    · exact q.elim
  · refine ⟨τ, M, a, b, ha.mono.go (fun ds M1 q vs H1 k r m1 => ?_) d⟩
    split at q
    · cases r with
      | cons r1 r =>
        cases r with
        | cons r2 r =>
          cases r
          rw [dset_eq, dset_eq] at q
          exact ⟨_, _, rfl, c.nx _ _ _ _ q k (((a.keep k).set i r1).set j r2) m1⟩
    · exact q.elim
def dPar3 (i j l : Nat) (ta : DTA) : DTS := fun E τ M => ta τ M fun ds M1 => match ds with
  | [u, v, w] => E.nx (dset (dset (dset τ i u) j v) l w) M1
  | _ => False
def dAug (i : Nat) (te : DTE) (rd : DR2) : DTS := fun E τ M => match dget τ i with
  | some x => te τ M fun y M1 => rd x y M1 fun z M2 => E.nx (dset τ i z) M2
  | none => False
theorem ds_aug {i : Nat} {x : Str} {op : Operator} {r : R2} {rd : DR2} {pos' : Pos} (hN : X.N.Nodup) (hi : X.N[i]? = some x) (hx : Loc X.env.scope x) (he : DE X e te) (ho : OpR X (inplaceOp op) r) (o : OpD X.K r rd) (hf : X.fn x = true ∨ X.env.scope.names.lookup x = some .local := by first | exact .inl rfl | exact .inr rfl | assumption) :
    DSt X (.AugAssign (.Name x pos') op e pos) (dAug i te rd) := by
  refine ds_of (ps_aug (ti := r) hN hi hx he.pe (fun pins s σ H x y v u Q I rx ry q => ho pins s σ H x y v u Q I rx ry q) hf) (fun {E E' τ M} h q => ?_) fun D σ H τ M E a b c d => ?_
  · unfold dAug at q ⊢
    split at q
    · rename_i e1; exact he.mono.go (fun _ _ q => o.mono.go (fun _ _ q => h.nx _ _ q) q) q
    · exact q.elim
  · unfold dAug at d
    split at d
    · rename_i z e1
      obtain ⟨v, e2, r1⟩ := a.get i z (dget_eq τ i z e1)
      refine ⟨v, e2, τ, M, a, b, he.mono.go (fun y M1 q w H1 k r2 m1 => o.to (r1.keep k) r2 m1 q fun u M2 v2 H2 q k2 r3 m2 => ?_) d⟩
      rw [dset_eq] at q
      exact c.nx _ _ _ _ q (k.trans k2) ((a.keep (k.trans k2)).set i r3) m2
    · exact d.elim
end
end DL

namespace DL
open PySem PySem.Spec PyProof.Rows L2

/-! ### what is walked -/
structure DIt where
  items : List D
  live : Mem → Prop
structure ItR (K : PySem.W.Frag) (H0 : Hp) (J : It) (I : DIt) : Prop where
  go : ∀ (i : Nat) (d : D) (H : Hp) (M : Mem), Keep H0 H → RM K H M → I.live M → I.items[i]? = some d → J.go i H
  yld : ∀ (i : Nat) (d : D) (H : Hp) (M : Mem) (x : V) (H' : Hp), Keep H0 H → RM K H M → I.live M → I.items[i]? = some d → J.yld i H x H' → Keep H H' ∧ Rep K H' x d ∧ RM K H' M
  stop : ∀ (i : Nat) (H : Hp) (M : Mem), Keep H0 H → RM K H M → I.live M → I.items.length ≤ i → J.stop i H
abbrev DTI := DS → Mem → (DIt → Mem → Prop) → Prop
structure MonoI (t : DTI) : Prop where
  go : ∀ {τ : DS} {M : Mem} {Q Q' : DIt → Mem → Prop}, (∀ I M', Q I M' → Q' I M') → t τ M Q → t τ M Q'
def upI (K : PySem.W.Frag) (t : DTI) : TI := fun σ H R => ∃ τ M, RS K H σ τ ∧ RM K H M ∧ t τ M (fun I M1 => ∀ J H1, Keep H H1 → RM K H1 M1 → ItR K H1 J I → R J H1)
structure DI (X : Cx) (tg iter : Expr) (t : DTI) : Prop where
  pi : PI X tg iter (upI X.K t)
  mono : MonoI t
section
variable {X : Cx} {tg e : Expr}
theorem PIimp {t t' : TI} (h : PI X tg e t) (i : ∀ σ H Q, t' σ H Q → t σ H Q) : PI X tg e t' := ⟨fun pins s σ H Q I q => h.run pins s σ H Q I (i _ _ _ q)⟩
theorem di_of {t : TI} {td : DTI} (h : PI X tg e t) (mono : ∀ {τ : DS} {M : Mem} {Q Q' : DIt → Mem → Prop}, (∀ I M', Q I M' → Q' I M') → td τ M Q → td τ M Q')
    (i : ∀ (σ : L2.St) (H : Hp) (R : It → Hp → Prop) (τ : DS) (M : Mem), RS X.K H σ τ → RM X.K H M → td τ M (fun I M1 => ∀ J H1, Keep H H1 → RM X.K H1 M1 → ItR X.K H1 J I → R J H1) → t σ H R) : DI X tg e td :=
  ⟨PIimp h fun σ H Q ⟨τ, M, a, b, c⟩ => i σ H Q τ M a b c, ⟨mono⟩⟩
/-- a list that stands at a -/
def isL (a : Addr) (ds : List D) (M : Mem) : Prop := M a = some (.lst ds)
def lsOf (M : Mem) (d : D) (Q : (Mem → Prop) → List D → Prop) : Prop := match d with
  | .ref a => match M a with
    | some (.lst ds) => Q (isL a ds) ds
    | _ => False
  | .kl ds => Q (fun _ => True) ds
  | _ => False
theorem lsOf_mono {M : Mem} {d : D} {Q Q' : (Mem → Prop) → List D → Prop} (h : ∀ a ds, Q a ds → Q' a ds) (q : lsOf M d Q) : lsOf M d Q' := by
  unfold lsOf at q ⊢
  split at q
  · split at q
    · exact h _ _ q
    · exact q.elim
  · exact h _ _ q
  · exact q.elim
theorem lsOf_to {K : PySem.W.Frag} {H : Hp} {M : Mem} {v : V} {d : D} {Q : (Mem → Prop) → List D → Prop} (r : Rep K H v d) (m : RM K H M) (q : lsOf M d Q) :
    ∃ a live ds, v = .ref a ∧ Q live ds ∧ live M ∧ ∀ H' M', Keep H H' → RM K H' M' → live M' → ∃ xs, SqL K H' a xs ∧ Reps K H' xs ds := by
  unfold lsOf at q
  split at q
  · split at q
    · rename_i e
      cases r
      refine ⟨_, _, _, rfl, q, e, fun H' M' k m' l => ?_⟩
      obtain ⟨xs, e', r'⟩ := m'.lst l
      exact ⟨xs, .inl (.inl e'), r'⟩
    · exact q.elim
  · cases r with
    | kl h rr => exact ⟨_, _, _, rfl, q, trivial, fun H' M' k m' _ => ⟨_, (SqK.keep k h).sq, rr.keep k⟩⟩
  · exact q.elim
theorem lsOf_at {K : PySem.W.Frag} {H : Hp} {M : Mem} {v : V} {d : D} {Q : (Mem → Prop) → List D → Prop} (r : Rep K H v d) (m : RM K H M) (q : lsOf M d Q) :
    ∃ a live ds xs, v = .ref a ∧ Q live ds ∧ SqL K H a xs ∧ Reps K H xs ds := by
  obtain ⟨a, live, ds, e, q, l, f⟩ := lsOf_to r m q
  obtain ⟨xs, h, rr⟩ := f H M (Keep.refl H) m l
  exact ⟨a, live, ds, xs, e, q, h, rr⟩
def iTupD (te : DTE) : DTI := fun τ M Q => te τ M fun d M1 => match d with
  | .tup ds => Q ⟨ds, fun _ => True⟩ M1
  | _ => False
def iLstD (te : DTE) : DTI := fun τ M Q => te τ M fun d M1 => lsOf M1 d fun live ds => Q ⟨ds, live⟩ M1
theorem itr_tup {K : PySem.W.Frag} {H : Hp} {a : Addr} {xs : List V} {ds : List D} (h : SqT K H a xs) (r : Reps K H xs ds) : ItR K H (Itt K a) ⟨ds, fun _ => True⟩ where
  go := fun i d H' M k m _ e => let ⟨v, e1, _⟩ := r.get e; ⟨xs, v, SqT.keep k h, e1⟩
  yld := fun i d H' M x H2 k m _ e y => by
    obtain ⟨rfl, y⟩ := y
    obtain ⟨v, e1, rv⟩ := r.get e
    have := y xs (SqT.keep k h)
    rw [e1] at this; cases this
    exact ⟨Keep.refl _, rv.keep k, m⟩
  stop := fun i H' M k m _ l => ⟨xs, SqT.keep k h, by rw [r.length]; exact l⟩
theorem itr_lst {K : PySem.W.Frag} {H : Hp} {a : Addr} {live : Mem → Prop} {ds : List D} (f : ∀ H' M', Keep H H' → RM K H' M' → live M' → ∃ xs, SqL K H' a xs ∧ Reps K H' xs ds) : ItR K H (Itl K a) ⟨ds, live⟩ where
  go := fun i d H' M k m l e => let ⟨xs, h, r⟩ := f H' M k m l; let ⟨v, e1, _⟩ := r.get e; ⟨xs, v, h, e1⟩
  yld := fun i d H' M x H2 k m l e y => by
    obtain ⟨rfl, y⟩ := y
    obtain ⟨xs, h, r⟩ := f _ M k m l
    obtain ⟨v, e1, rv⟩ := r.get e
    have := y xs h
    rw [e1] at this; cases this
    exact ⟨Keep.refl _, rv, m⟩
  stop := fun i H' M k m l q => let ⟨xs, h, r⟩ := f H' M k m l; ⟨xs, h, by rw [r.length]; exact q⟩
variable {te : DTE}
theorem di_tup (he : DE X e te) : DI X tg e (iTupD te) := by
  refine di_of (pi_tup he.pe) (fun h q => he.mono.go (fun d M1 q => ?_) q) fun σ H R τ M hs hm q => ?_
  · split at q
    · exact h _ _ q
    · exact q.elim
  · refine ⟨τ, M, hs, hm, he.mono.go (fun d M1 q v H1 k r m => ?_) q⟩
    split at q
    · cases r with
      | tup h rr => exact ⟨_, rfl, ⟨_, h⟩, q _ _ k m (itr_tup h rr)⟩
    · exact q.elim
theorem di_lst (he : DE X e te) : DI X tg e (iLstD te) := by
  refine di_of (pi_list he.pe) (fun h q => he.mono.go (fun d M1 q => lsOf_mono (fun a ds q => h _ _ q) q) q) fun σ H R τ M hs hm q => ?_
  refine ⟨τ, M, hs, hm, he.mono.go (fun d M1 q v H1 k r m => ?_) q⟩
  obtain ⟨a, live, ds, rfl, q, l, f⟩ := lsOf_to r m q
  obtain ⟨xs, h, _⟩ := f H1 M1 (Keep.refl _) m l
  exact ⟨a, rfl, ⟨xs, h⟩, q _ _ k m (itr_lst f)⟩
/-- range -/
def rngD (lo hi : Int) : List D := (List.range (hi - lo).toNat).map fun i => D.int (lo + (i : Nat))
def small62 (i : Int) : Prop := -(2 ^ 62) ≤ i ∧ i < 2 ^ 62
def iRng (ta : DTA) : DTI := fun τ M Q => ta τ M fun ds M1 => match ds with
  | [.int j] => small62 j ∧ Q ⟨rngD 0 j, fun _ => True⟩ M1
  | [.int i, .int j] => (small62 i ∧ small62 j) ∧ Q ⟨rngD i j, fun _ => True⟩ M1
  | _ => False
theorem rngD_get {lo hi : Int} {i : Nat} {d : D} (e : (rngD lo hi)[i]? = some d) : i < (hi - lo).toNat ∧ d = .int (lo + (i : Nat)) := by
  unfold rngD at e
  rw [List.getElem?_map] at e
  by_cases h : i < (hi - lo).toNat
  · rw [List.getElem?_range h] at e; cases e; exact ⟨h, rfl⟩
  · rw [List.getElem?_eq_none (by rw [List.length_range]; omega)] at e; cases e
theorem itr_rng {K : PySem.W.Frag} {H : Hp} {lo hi : Int} : ItR K H (Itr lo (hi - lo).toNat) ⟨rngD lo hi, fun _ => True⟩ where
  go := fun i d H' M k m _ e => (rngD_get e).1
  yld := fun i d H' M x H2 k m _ e y => by
    obtain ⟨rfl, rfl⟩ := y
    obtain ⟨_, rfl⟩ := rngD_get e
    exact ⟨Keep.refl _, .int _, m⟩
  stop := fun i H' M k m _ q => by
    have : (rngD lo hi).length ≤ i := q
    unfold rngD at this
    rw [List.length_map, List.length_range] at this
    exact this
theorem di_rng1 {a : Expr} {ta : DTA} {p pos : Pos} (hg : Gl X "range") (hm : X.mg "range" = none) (ha : DA X [a] ta) (hl : ∀ τ M Q, ta τ M Q → ta τ M fun ds M1 => ds.length = 1 ∧ Q ds M1) (hs : starEach [a] X.env = [(false, eval a X.env)] := by rfl) : DI X tg (.Call (.Name "range" p) [a] [] pos) (iRng ta) := by
  refine di_of (pi_range1 hg hm ha.pa hs) (fun h q => ha.mono.go (fun ds M1 q => ?_) q) fun σ H R τ M hs hm q => ?_
  · split at q
    · exact ⟨q.1, h _ _ q.2⟩
    · exact ⟨q.1, h _ _ q.2⟩
    · exact q.elim
  · refine ⟨τ, M, hs, hm, ha.mono.go (fun ds M1 q vs H1 k r m => ?_) (hl _ _ _ q)⟩
    obtain ⟨ln, q⟩ := q
    split at q
    · cases r with
      | cons r1 r => cases r; cases r1; exact ⟨_, rfl, q.1.1, q.1.2, q.2 _ _ k m (by have := @itr_rng X.K H1 0; simpa using this)⟩
    · simp at ln
    · exact q.elim
theorem di_rng2 {a b : Expr} {ta : DTA} {p pos : Pos} (hg : Gl X "range") (hm : X.mg "range" = none) (ha : DA X [a, b] ta) (hl : ∀ τ M Q, ta τ M Q → ta τ M fun ds M1 => ds.length = 2 ∧ Q ds M1) (hs : starEach [a, b] X.env = [(false, eval a X.env), (false, eval b X.env)] := by rfl) (hs2 : starEach [b] X.env = [(false, eval b X.env)] := by rfl) : DI X tg (.Call (.Name "range" p) [a, b] [] pos) (iRng ta) := by
  refine di_of (pi_range2 hg hm ha.pa hs hs2) (fun h q => ha.mono.go (fun ds M1 q => ?_) q) fun σ H R τ M hs hm q => ?_
  · split at q
    · exact ⟨q.1, h _ _ q.2⟩
    · exact ⟨q.1, h _ _ q.2⟩
    · exact q.elim
  · refine ⟨τ, M, hs, hm, ha.mono.go (fun ds M1 q vs H1 k r m => ?_) (hl _ _ _ q)⟩
    obtain ⟨ln, q⟩ := q
    split at q
    · simp at ln
    · cases r with
      | cons r1 r =>
        cases r with
        | cons r2 r => cases r; cases r1; cases r2; exact ⟨_, _, rfl, ⟨q.1.1.1, q.1.1.2, q.1.2.1, q.1.2.2⟩, q.2 _ _ k m itr_rng⟩
    · exact q.elim
theorem da_len1 {e1 : DTE} (m : MonoE e1) : ∀ τ M Q, dCons e1 dNil τ M Q → dCons e1 dNil τ M fun ds M1 => ds.length = 1 ∧ Q ds M1 := fun τ M Q q => m.go (fun _ _ q => ⟨rfl, q⟩) q
theorem da_len2 {e1 e2 : DTE} (m : MonoE e1) (n : MonoE e2) : ∀ τ M Q, dCons e1 (dCons e2 dNil) τ M Q → dCons e1 (dCons e2 dNil) τ M fun ds M1 => ds.length = 2 ∧ Q ds M1 := fun τ M Q q => m.go (fun _ _ q => n.go (fun _ _ q => ⟨rfl, q⟩) q) q
theorem di_range1 {a : Expr} {ta : DTE} {p pos : Pos} (hg : Gl X "range") (hm : X.mg "range" = none) (ha : DE X a ta) (hst : starEach [a] X.env = (false, eval a X.env) :: starEach [] X.env := by rfl) (hs : starEach [a] X.env = [(false, eval a X.env)] := by rfl) : DI X tg (.Call (.Name "range" p) [a] [] pos) (iRng (dCons ta dNil)) :=
  di_rng1 hg hm (da_cons ha da_nil hst) (da_len1 ha.mono) hs
theorem di_range2 {a b : Expr} {ta tb : DTE} {p pos : Pos} (hg : Gl X "range") (hm : X.mg "range" = none) (ha : DE X a ta) (hb : DE X b tb) (hst : starEach [a, b] X.env = (false, eval a X.env) :: starEach [b] X.env := by rfl) (hst2 : starEach [b] X.env = (false, eval b X.env) :: starEach [] X.env := by rfl) (hs : starEach [a, b] X.env = [(false, eval a X.env), (false, eval b X.env)] := by rfl) (hs2 : starEach [b] X.env = [(false, eval b X.env)] := by rfl) : DI X tg (.Call (.Name "range" p) [a, b] [] pos) (iRng (dCons ta (dCons tb dNil))) :=
  di_rng2 hg hm (da_cons ha (da_cons hb da_nil hst2) hst) (da_len2 ha.mono hb.mono) hs hs2
/-- the signs of a text -/
def strD (x : Str) : List D := x.cps.toList.map fun c => D.str ⟨#[c]⟩
def iStrD (te : DTE) : DTI := fun τ M Q => te τ M fun d M1 => match d with
  | .str x => Q ⟨strD x, fun _ => True⟩ M1
  | _ => False
theorem itr_str {K : PySem.W.Frag} {H : Hp} {x : Str} : ItR K H (Its x) ⟨strD x, fun _ => True⟩ where
  go := fun i d H' M k m _ e => by
    have h := (List.getElem?_eq_some_iff.mp e).1
    unfold strD at h
    show i < x.cps.size
    simpa using h
  yld := fun i d H' M v H2 k m _ e y => by
    obtain ⟨rfl, c, hc, rfl⟩ := y
    unfold strD at e
    rw [List.getElem?_map, Array.getElem?_toList, hc] at e
    cases e
    exact ⟨Keep.refl _, .str _, m⟩
  stop := fun i H' M k m _ q => by
    have : (strD x).length ≤ i := q
    unfold strD at this
    show x.cps.size ≤ i
    simpa using this
theorem di_str (he : DE X e te) : DI X tg e (iStrD te) := by
  refine di_of (pi_str he.pe) (fun h q => he.mono.go (fun d M1 q => ?_) q) fun σ H R τ M hs hm q => ?_
  · split at q
    · exact h _ _ q
    · exact q.elim
  · refine ⟨τ, M, hs, hm, he.mono.go (fun d M1 q v H1 k r m => ?_) q⟩
    split at q
    · cases r
      exact ⟨_, rfl, q _ _ k m itr_str⟩
    · exact q.elim
end

/-! ### for, while -/
def dLoop (live : Mem → Prop) (g : DTG) (tb : DTS) : List D → DEnds → DS → Mem → Prop
  | [], E, τ, M => live M ∧ E.nx τ M
  | d :: r, E, τ, M => live M ∧ g d τ M fun τ2 M2 => tb { nx := dLoop live g tb r E, rt := E.rt, bk := E.nx, ct := dLoop live g tb r E } τ2 M2
def dFor (wi : DTI) (g : DTG) (tb : DTS) : DTS := fun E τ M => wi τ M fun I M1 => dLoop I.live g tb I.items E τ M1
theorem dLoop_mono {live : Mem → Prop} {g : DTG} {tb : DTS} (mg : MonoG g) (mb : MonoS tb) : ∀ (r : List D) {E E' : DEnds} {τ : DS} {M : Mem}, E.Imp E' → dLoop live g tb r E τ M → dLoop live g tb r E' τ M
  | [], _, _, _, _, h, q => ⟨q.1, h.nx _ _ q.2⟩
  | _ :: r, E, E', _, _, h, q => ⟨q.1, mg.go (fun _ _ q => mb.go (E := { nx := dLoop live g tb r E, rt := E.rt, bk := E.nx, ct := dLoop live g tb r E }) (E' := { nx := dLoop live g tb r E', rt := E'.rt, bk := E'.nx, ct := dLoop live g tb r E' }) ⟨fun _ _ q => dLoop_mono mg mb r h q, h.rt, h.nx, fun _ _ q => dLoop_mono mg mb r h q⟩ q) q.2⟩
section
variable {X : Cx} {tg iter : Expr} {body : List Stmt} {wi : DTI} {g : DTG} {tb : DTS} {pos : Pos}
theorem ds_for (hp : PassesOwn (model X.prog X.w) X.A X.env X.xe) (hc : X.calm = true) (hi : DI X tg iter wi) (hg : DG X tg g) (hb : DSs X body tb) (hs : ∀ x, foldedSetIterable iter X.env x = pure x := by intro _; rfl) : DSt X (.For tg iter body [] pos) (dFor wi g tb) := by
  refine ds_of (ps_for hp hc hi.pi hg.pg hb.pss hs) (fun h q => hi.mono.go (fun I M1 q => dLoop_mono hg.mono hb.mono _ h q) q) fun D σ H τ M E a b c d => ?_
  refine ⟨τ, M, a, b, hi.mono.go (fun I M1 q J H1 k1 m1 it => ?_) d⟩
  refine ⟨fun i m σ' H' => m = I.items.length - i ∧ i ≤ I.items.length ∧ Keep H1 H' ∧ ∃ τ' M', RS X.K H' σ' τ' ∧ RM X.K H' M' ∧ dLoop I.live g tb (I.items.drop i) E τ' M', ⟨_, rfl, Nat.zero_le _, Keep.refl _, τ, M1, a.keep k1, m1, q⟩, ?_⟩
  rintro i m σ' H' ⟨rfl, hi', k2, τ', M', a', b', q⟩
  by_cases hl : i < I.items.length
  · have hd : I.items.drop i = I.items[i] :: I.items.drop (i + 1) := List.drop_eq_getElem_cons hl
    rw [hd] at q
    have ge : I.items[i]? = some I.items[i] := List.getElem?_eq_getElem hl
    refine .inr ⟨it.go i _ H' M' k2 b' q.1 ge, fun σ2 H2 => Keep H1 H2 ∧ ∃ τ' M', RS X.K H2 σ2 τ' ∧ RM X.K H2 M' ∧ dLoop I.live g tb (I.items.drop (i + 1)) E τ' M', fun σ2 H2 ⟨k, r⟩ => ⟨_, by omega, rfl, hl, k, r⟩, fun x H2 y => ?_⟩
    obtain ⟨k3, rx, m2⟩ := it.yld i _ H' M' x H2 k2 b' q.1 ge y
    refine ⟨_, τ', M', rx, a'.keep k3, m2, hg.mono.go (fun τ3 M3 q3 σ3 H3 k4 a3 m3 => ?_) q.2⟩
    refine ⟨τ3, M3, _, a3, m3, ⟨fun τ4 M4 σ4 H4 q k5 a4 m4 => ?_, fun d M4 v H4 q k5 => ?_, fun τ4 M4 σ4 H4 q k5 a4 m4 => ?_, fun τ4 M4 σ4 H4 q k5 a4 m4 => ?_⟩, q3⟩
    · exact ⟨k2.trans (k3.trans (k4.trans k5)), τ4, M4, a4, m4, q⟩
    · exact c.rt d M4 v H4 q (k1.trans (k2.trans (k3.trans (k4.trans k5))))
    · exact c.nx τ4 M4 σ4 H4 q (k1.trans (k2.trans (k3.trans (k4.trans k5)))) a4 m4
    · exact ⟨k2.trans (k3.trans (k4.trans k5)), τ4, M4, a4, m4, q⟩
  · have hd : I.items.drop i = [] := List.drop_eq_nil_of_le (by omega)
    rw [hd] at q
    exact .inl ⟨it.stop i H' M' k2 b' q.1 (by omega), c.nx _ _ _ _ q.2 (k1.trans k2) a' b'⟩
def dWhN (c : DTT) (tb : DTS) (E : DEnds) : Nat → DS → Mem → Prop
  | 0, _, _ => False
  | n + 1, τ, M => c τ M fun b M1 => if b = true then tb { nx := dWhN c tb E n, rt := E.rt, bk := E.nx, ct := dWhN c tb E n } τ M1 else E.nx τ M1
def dWhile (c : DTT) (tb : DTS) : DTS := fun E τ M => ∃ n, dWhN c tb E n τ M
theorem dWhN_mono {c : DTT} {tb : DTS} (mc : MonoT c) (mb : MonoS tb) {E E' : DEnds} (h : E.Imp E') : ∀ (n : Nat) {τ : DS} {M : Mem}, dWhN c tb E n τ M → dWhN c tb E' n τ M
  | 0, _, _, q => q
  | n + 1, _, _, q => mc.go (fun b M1 q => by
      cases b with
      | true => exact mb.go (E := { nx := dWhN c tb E n, rt := E.rt, bk := E.nx, ct := dWhN c tb E n }) (E' := { nx := dWhN c tb E' n, rt := E'.rt, bk := E'.nx, ct := dWhN c tb E' n }) ⟨fun _ _ q => dWhN_mono mc mb h n q, h.rt, h.nx, fun _ _ q => dWhN_mono mc mb h n q⟩ q
      | false => exact h.nx _ _ q) q
variable {c : Expr} {tc : DTT}
theorem ds_while (hp : PassesOwn (model X.prog X.w) X.A X.env X.xe) (hc : DT X c tc) (hb : DSs X body tb) : DSt X (.While c body [] pos) (dWhile tc tb) := by
  refine ds_of (ps_while hp hc.pt hb.pss) (fun h ⟨n, q⟩ => ⟨n, dWhN_mono hc.mono hb.mono h n q⟩) fun D σ H τ M E a b cc d => ?_
  obtain ⟨n, d⟩ := d
  refine ⟨fun m σ' H' => Keep H H' ∧ ∃ τ' M', RS X.K H' σ' τ' ∧ RM X.K H' M' ∧ dWhN tc tb E m τ' M', ⟨n, Keep.refl _, τ, M, a, b, d⟩, ?_⟩
  rintro m σ' H' ⟨k, τ', M', a', b', q⟩
  cases m with
  | zero => exact q.elim
  | succ m =>
    refine ⟨τ', M', a', b', hc.mono.go (fun z M1 q H2 k2 m2 => ?_) q⟩
    cases z with
    | true =>
      refine iteT ⟨fun σ2 H2 => Keep H H2 ∧ ∃ τ' M', RS X.K H2 σ2 τ' ∧ RM X.K H2 M' ∧ dWhN tc tb E m τ' M', fun σ2 H2 r => ⟨m, Nat.lt_succ_self m, r⟩, τ', M1, _, a'.keep k2, m2, ⟨fun τ4 M4 σ4 H4 q k5 a4 m4 => ?_, fun d M4 v H4 q k5 => ?_, fun τ4 M4 σ4 H4 q k5 a4 m4 => ?_, fun τ4 M4 σ4 H4 q k5 a4 m4 => ?_⟩, q⟩
      · exact ⟨k.trans (k2.trans k5), τ4, M4, a4, m4, q⟩
      · exact cc.rt d M4 v H4 q (k.trans (k2.trans k5))
      · exact cc.nx τ4 M4 σ4 H4 q (k.trans (k2.trans k5)) a4 m4
      · exact ⟨k.trans (k2.trans k5), τ4, M4, a4, m4, q⟩
    | false => exact iteF (cc.nx _ _ _ _ q (k.trans k2) (a'.keep k2) m2)
end

/-! ### list comprehensions -/
theorem wipe_get {σ : L2.St} : ∀ {vs : List Nat} {j : Nat}, (wipe σ vs)[j]? = if j ∈ vs ∧ j < σ.length then some none else σ[j]?
  | [], j => by simp [wipe]
  | v :: vs, j => by
    unfold wipe
    by_cases h : v = j
    · subst h
      by_cases hl : v < σ.length
      · rw [List.getElem?_set_self (by rw [wipe_length]; exact hl), if_pos ⟨List.mem_cons_self, hl⟩]
      · rw [List.getElem?_eq_none (by rw [List.length_set, wipe_length]; omega), if_neg (fun z => hl z.2), List.getElem?_eq_none (by omega)]
    · rw [List.getElem?_set_ne h, wipe_get]
      by_cases z : j ∈ vs ∧ j < σ.length
      · rw [if_pos z, if_pos ⟨List.mem_cons_of_mem _ z.1, z.2⟩]
      · rw [if_neg z, if_neg fun y => z ⟨by rcases List.mem_cons.mp y.1 with e | e; exact absurd e.symm h; exact e, y.2⟩]
theorem wipe_wipe (σ : L2.St) (vs : List Nat) : wipe (wipe σ vs) vs = wipe σ vs := by
  apply List.ext_getElem?
  intro j
  rw [wipe_get, wipe_length]
  split
  · rename_i h; rw [wipe_get, if_pos h]
  · rfl
theorem wipe_set {σ : L2.St} {i : Nat} {x : Option V} {vs : List Nat} (h : i ∈ vs) : wipe (σ.set i x) vs = wipe σ vs := by
  apply List.ext_getElem?
  intro j
  rw [wipe_get, wipe_get, List.length_set]
  by_cases z : j ∈ vs ∧ j < σ.length
  · rw [if_pos z, if_pos z]
  · rw [if_neg z, if_neg z]
    by_cases e : i = j
    · subst e
      have : ¬ i < σ.length := fun l => z ⟨h, l⟩
      rw [List.getElem?_eq_none (by rw [List.length_set]; omega), List.getElem?_eq_none (by omega)]
    · rw [List.getElem?_set_ne e]
/-- a target within a block: it stores its own names alone -/
def upGc (K : PySem.W.Frag) (vs : List Nat) (t : DTG) : TG := fun v σ H Q => ∃ d τ M, Rep K H v d ∧ RS K H σ τ ∧ RM K H M ∧ t d τ M (fun τ' M' => ∀ σ' H', Keep H H' → RS K H' σ' τ' → RM K H' M' → wipe σ' vs = wipe σ vs → Q σ' H')
def upGcs (K : PySem.W.Frag) (vs : List Nat) (t : DTGs) : TGs := fun v σ H Q => ∃ d τ M, Reps K H v d ∧ RS K H σ τ ∧ RM K H M ∧ t d τ M (fun τ' M' => ∀ σ' H', Keep H H' → RS K H' σ' τ' → RM K H' M' → wipe σ' vs = wipe σ vs → Q σ' H')
structure DGc (X : Cx) (e : Expr) (vs : List Nat) (t : DTG) : Prop where
  pg : PG X e (upGc X.K vs t)
  mono : MonoG t
structure DGcs (X : Cx) (e : List Expr) (vs : List Nat) (t : DTGs) : Prop where
  pgs : PGs X e (upGcs X.K vs t)
  mono : MonoGs t
section
variable {X : Cx} {vs : List Nat} {e : Expr} {es : List Expr} {pos : Pos}
theorem dgc_name {i : Nat} {x : Str} (hv : i ∈ vs) (hN : X.N.Nodup) (hi : X.N[i]? = some x) (hx : Loc X.env.scope x) (hf : X.fn x = true ∨ X.env.scope.names.lookup x = some .local := by first | exact .inl rfl | exact .inr rfl | assumption) : DGc X (.Name x pos) vs (gN i) := by
  refine ⟨PGimp (pg_name hN hi hx hf) fun v σ H Q ⟨d, τ, M, r, a, b, q⟩ => ?_, gN_mono i⟩
  have q' : ∀ σ' H', Keep H H' → RS X.K H' σ' (dset τ i d) → RM X.K H' M → wipe σ' vs = wipe σ vs → Q σ' H' := q
  rw [dset_eq] at q'
  exact q' _ H (Keep.refl H) (a.set i r) b (wipe_set hv)
theorem dgcs_nil : DGcs X [] vs gN0 := by
  refine ⟨PGsimp pgs_nil fun vs' σ H Q ⟨ds, τ, M, r, a, b, c⟩ => ?_, dgs_nil (X := X).mono⟩
  cases r with
  | nil => exact ⟨rfl, c _ _ (Keep.refl H) a b rfl⟩
  | cons => exact False.elim c
theorem gNc_mono {g : DTG} {gs : DTGs} (h1 : MonoG g) (h2 : MonoGs gs) : MonoGs (gNc g gs) := ⟨fun {ds τ M Q Q'} h q => by
  cases ds with
  | nil => exact False.elim q
  | cons => exact h1.go (fun _ _ q => h2.go (fun _ _ q => h _ _ q) q) q⟩
theorem dgcs_cons {g : DTG} {gs : DTGs} (h1 : DGc X e vs g) (h2 : DGcs X es vs gs) (hs : (assignEach (e :: es) X.env).map (·.2) = assign e X.env :: (assignEach es X.env).map (·.2) := by rfl) : DGcs X (e :: es) vs (gNc g gs) := by
  refine ⟨PGsimp (pgs_cons h1.pg h2.pgs hs) fun vs' σ H Q ⟨ds, τ, M, r, a, b, c⟩ => ?_, gNc_mono h1.mono h2.mono⟩
  cases r with
  | nil => exact False.elim c
  | cons rv rr => exact ⟨_, _, rfl, _, τ, M, rv, a, b, h1.mono.go (fun τ' M' q σ' H' k s m w => ⟨_, τ', M', rr.keep k, s, m, h2.mono.go (fun τ2 M2 q σ2 H2 k2 s2 m2 w2 => q σ2 H2 (k.trans k2) s2 m2 (w2.trans w)) q⟩) c⟩
theorem gTp_mono {n : Nat} {gs : DTGs} (h : MonoGs gs) : MonoG (gTp n gs) := ⟨fun {d τ M Q Q'} h2 q => by
  unfold gTp at q ⊢
  split at q
  · exact ⟨q.1, h.go h2 q.2⟩
  · exact q.elim⟩
theorem dgc_tup {k : Nat} {gs : DTGs} {n : Nat} (hc : X.calm = true) (h : DGcs X es vs gs) (hn : (assignEach es X.env).length = n := by rfl) (hst : (assignEach es X.env).findIdx? (·.1) = none := by rfl) : DGc X (.Tuple es k pos) vs (gTp n gs) := by
  refine ⟨PGimp (pg_tup hc h.pgs hn hst) fun v σ H Q ⟨d, τ, M, r, a, b, q⟩ => ?_, gTp_mono h.mono⟩
  unfold gTp at q
  split at q
  · cases r with
    | tup hs hr => exact ⟨_, _, rfl, hs, by rw [hr.length]; exact q.1, _, τ, M, hr, a, b, q.2⟩
  · exact q.elim
/-- the tests of a clause -/
structure DTs (X : Cx) (ifs : List Expr) (t : DTT) : Prop where
  pts : PTs X ifs (upT X.K t)
  mono : MonoT t
def dYes : DTT := fun _ M Q => Q true M
theorem dts_nil : DTs X [] dYes := ⟨⟨fun pins s σ H Q I ⟨τ, M, a, b, q⟩ => pts_nil.run pins s σ H Q I (q H (Keep.refl H) b)⟩, ⟨fun h q => h _ _ q⟩⟩
theorem dts_one {c : Expr} {t : DTT} (h : DT X c t) : DTs X [c] t := ⟨pts_one h.pt, h.mono⟩
def dLcL (live : Mem → Prop) (g : DTG) (tt : DTT) (te : DTE) (p : Addr) (τ : DS) : List D → List D → Mem → (Mem → Prop) → Prop
  | [], _, M, Q => live M ∧ Q M
  | d :: r, acc, M, Q => live M ∧ g d τ M fun τ2 M2 => tt τ2 M2 fun b M3 => if b = true then
      te τ2 M3 fun y M4 => M4 p = some (.lst acc) ∧ acc.length < sizeLine ∧ dLcL live g tt te p τ r (acc ++ [y]) (mupd M4 p (.lst (acc ++ [y]))) Q
    else dLcL live g tt te p τ r acc M3 Q
def dLc (wi : DTI) (g : DTG) (tt : DTT) (te : DTE) (vs : List Nat) : DTE := fun τ M Q => wi τ M fun I M1 => ∀ p, M1 p = none → dLcL I.live g tt te p (dwp τ vs) I.items [] (mupd M1 p (.lst [])) fun M2 => Q (.ref p) M2
theorem dLcL_mono {live : Mem → Prop} {g : DTG} {tt : DTT} {te : DTE} {p : Addr} {τ : DS} (mg : MonoG g) (mt : MonoT tt) (me : MonoE te) : ∀ (r acc : List D) {M : Mem} {Q Q' : Mem → Prop}, (∀ M, Q M → Q' M) → dLcL live g tt te p τ r acc M Q → dLcL live g tt te p τ r acc M Q'
  | [], _, _, _, _, h, q => ⟨q.1, h _ q.2⟩
  | _ :: r, _, _, _, _, h, q => ⟨q.1, mg.go (fun _ _ q => mt.go (fun b _ q => by
      cases b with
      | true => exact me.go (fun _ _ ⟨a, b, q⟩ => ⟨a, b, dLcL_mono mg mt me r _ h q⟩) q
      | false => exact dLcL_mono mg mt me r _ h q) q) q.2⟩
variable {elt tg iter : Expr} {ifs : List Expr} {scope : Scope} {own : List (Str × Nat)} {wi : DTI} {g : DTG} {tt : DTT} {te : DTE}
theorem lc_up (hi : MonoI wi) (mg : MonoG g) (mt : MonoT tt) (me : MonoE te) {vs : List Nat} {σ : L2.St} {H : Hp} {Q : VK} {τ : DS} {M : Mem} {K : PySem.W.Frag} (a : RS K H σ τ) (b : RM K H M)
    (q : dLc wi g tt te vs τ M (fun d M' => ∀ v H', Keep H H' → Rep K H' v d → RM K H' M' → Q v H')) : tLc (upI K wi) (upGc K vs g) (upT K tt) (upE K te) vs σ H Q := by
  refine ⟨τ, M, a, b, hi.go (fun I M1 q J H1 k1 m1 it => ?_) q⟩
  intro D hD
  have q := q D (m1.free hD)
  have kD : Keep H1 (upd H1 D (.lst [])) := Keep.new hD
  refine ⟨fun i m H' => m = I.items.length - i ∧ i ≤ I.items.length ∧ Keep H1 H' ∧ ∃ acc M', RM K H' M' ∧ dLcL I.live g tt te D (dwp τ vs) (I.items.drop i) acc M' fun M2 => ∀ v H', Keep H H' → Rep K H' v (.ref D) → RM K H' M2 → Q v H',
    ⟨_, rfl, Nat.zero_le _, kD, [], _, m1.new (m := .lst []) hD ⟨[], rfl, .nil⟩, q⟩, ?_⟩
  rintro i m H' ⟨rfl, hi', k2, acc, M', m', q⟩
  by_cases hl : i < I.items.length
  · have hd : I.items.drop i = I.items[i] :: I.items.drop (i + 1) := List.drop_eq_getElem_cons hl
    rw [hd] at q
    have ge : I.items[i]? = some I.items[i] := List.getElem?_eq_getElem hl
    refine .inr ⟨it.go i _ H' M' k2 m' q.1 ge, fun H2 => Keep H1 H2 ∧ ∃ acc M', RM K H2 M' ∧ dLcL I.live g tt te D (dwp τ vs) (I.items.drop (i + 1)) acc M' fun M2 => ∀ v H', Keep H H' → Rep K H' v (.ref D) → RM K H' M2 → Q v H',
      fun H2 r => ⟨_, by omega, rfl, hl, r⟩, fun x H2 y => ?_⟩
    obtain ⟨k3, rx, m2⟩ := it.yld i _ H' M' x H2 k2 m' q.1 ge y
    have aw : RS K H2 (wipe σ vs) (dwp τ vs) := by rw [dwp_eq]; exact (a.keep (k1.trans (k2.trans k3))).wipe vs
    refine ⟨_, dwp τ vs, M', rx, aw, m2, mg.go (fun τ3 M3 q3 σ3 H3 k4 a3 m3 w3 => ⟨by rw [w3, wipe_wipe], ?_⟩) q.2⟩
    refine ⟨τ3, M3, a3, m3, mt.go (fun b M4 q4 H4 k5 m4 => ?_) q3⟩
    cases b with
    | true =>
      refine iteT ⟨τ3, M4, a3.keep k5, m4, me.go (fun y M5 ⟨e5, z5, q5⟩ v H5 k6 r5 m5 => ?_) q4⟩
      obtain ⟨ys, f5, g5⟩ := m5.lst e5
      have km : Keep H5 (upd H5 D (.lst (ys ++ [v]))) := Keep.mut (by rw [f5]; trivial)
      refine ⟨ys, f5, by rw [g5.length]; exact z5, (k2.trans (k3.trans (k4.trans (k5.trans k6)))).trans km, acc ++ [y], _, m5.write (m := .lst (acc ++ [y])) (by rw [f5]; trivial) ⟨_, rfl, (g5.append (.cons r5 .nil)).keep km⟩, q5⟩
    | false => exact iteF ⟨k2.trans (k3.trans (k4.trans k5)), acc, M4, m4, q4⟩
  · have hd : I.items.drop i = [] := List.drop_eq_nil_of_le (by omega)
    rw [hd] at q
    exact .inl ⟨it.stop i H' M' k2 m' q.1 (by omega), q.2 _ _ (k1.trans k2) (.ref D) m'⟩
theorem dLc_mono (hi : MonoI wi) (mg : MonoG g) (mt : MonoT tt) (me : MonoE te) {vs : List Nat} : MonoE (dLc wi g tt te vs) :=
  ⟨fun h q => hi.go (fun _ _ q p np => dLcL_mono mg mt me _ _ (fun _ q => h _ _ q) (q p np)) q⟩
theorem de_lc (hc : X.calm = true) (hN : X.N.Nodup) (hi : DI X tg iter wi) (ok : BlkOk X.N X.env.scope scope own)
    (hg : ∀ (s : Shared) (H : Hp) (C : Addr) (cl : List (Str × Addr)) (fp : List Addr), DGc (X.blk s H scope (compEnvC scope cl C X.env) fp) tg (own.map (·.2)) g) (ht : ∀ (s : Shared) (H : Hp) (C : Addr) (cl : List (Str × Addr)) (fp : List Addr), DTs (X.blk s H scope (compEnvC scope cl C X.env) fp) ifs tt)
    (he : ∀ (s : Shared) (H : Hp) (C : Addr) (cl : List (Str × Addr)) (fp : List Addr), DE (X.blk s H scope (compEnvC scope cl C X.env) fp) elt te) (hs : ∀ x, foldedSetIterable iter X.env x = pure x := by intro _; rfl) :
    DE X (.ListComp elt [⟨tg, iter, ifs, 0⟩] scope pos) (dLc wi g tt te (own.map (·.2))) := by
  have s0 : Shared := X.s_0
  refine de_of (pe_lc (g := upGc X.K (own.map (·.2)) g) (tt := upT X.K tt) (te := upE X.K te) hc hN hi.pi ok (fun s H C cl fp => (hg s H C cl fp).pg) (fun s H C cl fp => (ht s H C cl fp).pts) (fun s H C cl fp => (he s H C cl fp).pe) hs) (dLc_mono hi.mono (hg X.s_0 X.H_0 0 [] []).mono (ht X.s_0 X.H_0 0 [] []).mono (he X.s_0 X.H_0 0 [] []).mono).go fun σ H Q τ M a b q => ?_
  exact lc_up hi.mono (hg X.s_0 X.H_0 0 [] []).mono (ht X.s_0 X.H_0 0 [] []).mono (he X.s_0 X.H_0 0 [] []).mono a b q
theorem ds_setLc {i : Nat} {y : Str} {py spos : Pos} (hc : X.calm = true) (hN : X.N.Nodup) (hy : X.N[i]? = some y) (hyl : X.env.scope.names.lookup y = some .local)
    (hsw : swapsWith (.ListComp elt [⟨tg, iter, ifs, 0⟩] scope pos) (some (.Name y py)) spos.line X.env = pure true) (hi : DI X tg iter wi) (ok : BlkOk X.N X.env.scope scope own)
    (hg : ∀ (s : Shared) (H : Hp) (C : Addr) (cl : List (Str × Addr)) (fp : List Addr), DGc (X.blk s H scope (compEnvC scope cl C X.env) fp) tg (own.map (·.2)) g) (ht : ∀ (s : Shared) (H : Hp) (C : Addr) (cl : List (Str × Addr)) (fp : List Addr), DTs (X.blk s H scope (compEnvC scope cl C X.env) fp) ifs tt)
    (he : ∀ (s : Shared) (H : Hp) (C : Addr) (cl : List (Str × Addr)) (fp : List Addr), DE (X.blk s H scope (compEnvC scope cl C X.env) fp) elt te) (hs : ∀ x, foldedSetIterable iter X.env x = pure x := by intro _; rfl) :
    DSt X (.Assign [.Name y py] (.ListComp elt [⟨tg, iter, ifs, 0⟩] scope pos) spos) (dAsg (dLc wi g tt te (own.map (·.2))) (gN i)) := by
  have mm : MonoE (dLc wi g tt te (own.map (·.2))) := dLc_mono hi.mono (hg X.s_0 X.H_0 0 [] []).mono (ht X.s_0 X.H_0 0 [] []).mono (he X.s_0 X.H_0 0 [] []).mono
  refine ds_of (ps_setLc (g := upGc X.K (own.map (·.2)) g) (tt := upT X.K tt) (te := upE X.K te) hc hN hy hyl hsw hi.pi ok (fun s H C cl fp => (hg s H C cl fp).pg) (fun s H C cl fp => (ht s H C cl fp).pts) (fun s H C cl fp => (he s H C cl fp).pe) hs) (dAsg_mono mm (gN_mono i)).go fun D σ H τ M E a b c d => ?_
  refine lc_up hi.mono (hg X.s_0 X.H_0 0 [] []).mono (ht X.s_0 X.H_0 0 [] []).mono (he X.s_0 X.H_0 0 [] []).mono a b (mm.go (fun d M1 q v H1 k r m => ?_) d)
  have q' : E.nx (dset τ i d) M1 := q
  rw [dset_eq] at q'
  exact c.nx _ _ _ _ q' k ((a.keep k).set i r) m
end
end DL

namespace DL
open PySem PySem.Spec PyProof.Rows L2

section
variable {X : Cx} {K : PySem.W.Frag}
/-! ### numbers -/
def pI0 (g : Int → Int → D) : DR2 := fun x y M Q => match x, y with
  | .int i, .int j => Q (g i j) M
  | _, _ => False
def pI (C : Int → Int → Prop) (g : Int → Int → D) : DR2 := fun x y M Q => match x, y with
  | .int i, .int j => C i j ∧ Q (g i j) M
  | _, _ => False
theorem pI0_mono {g : Int → Int → D} : MonoR2 (pI0 g) := ⟨fun {x y M Q Q'} h q => by
  unfold pI0 at q ⊢
  split at q
  · exact h _ _ q
  · exact q.elim⟩
theorem pI_mono {C : Int → Int → Prop} {g : Int → Int → D} : MonoR2 (pI C g) := ⟨fun {x y M Q Q'} h q => by
  unfold pI at q ⊢
  split at q
  · exact ⟨q.1, h _ _ q.2⟩
  · exact q.elim⟩
theorem opd_I0 {gv : Int → Int → V} {g : Int → Int → D} (r : ∀ i j H, Rep K H (gv i j) (g i j)) : OpD K (rI0 gv) (pI0 g) := ⟨fun {x y dx dy H M Qd Q} rx ry m q o => by
  unfold pI0 at q
  split at q
  · cases rx; cases ry; exact ⟨_, _, rfl, rfl, o _ _ _ _ q (Keep.refl H) (r _ _ _) m⟩
  · exact q.elim, pI0_mono⟩
theorem opd_I {C : Int → Int → Prop} {gv : Int → Int → V} {g : Int → Int → D} (r : ∀ i j H, Rep K H (gv i j) (g i j)) : OpD K (rI C gv) (pI C g) := ⟨fun {x y dx dy H M Qd Q} rx ry m q o => by
  unfold pI at q
  split at q
  · cases rx; cases ry; exact ⟨_, _, rfl, rfl, q.1, o _ _ _ _ q.2 (Keep.refl H) (r _ _ _) m⟩
  · exact q.elim, pI_mono⟩
def CDv (i j : Int) : Prop := j ≠ 0 ∧ Builtin.divisionGoesByPylong i j = false
theorem op_fdivV : OpR X (binaryOp .FloorDiv) (rI CDv fun i j => .int (i.fdiv j)) := opI fun i j _ _ _ _ _ hc q => floordiv_int hc.1 q (.inl hc.2)
theorem cdv_log {i j : Int} (h : j ≠ 0) (hb : j.natAbs.log2 < 9000) : CDv i j := ⟨h, PyProof.noPylong_of_log2 hb⟩
theorem cdv_small {i j : Int} (h : j ≠ 0) {b : Nat} (hb : j.natAbs < 2 ^ b) (h9 : b ≤ 9000) : CDv i j := by
  refine cdv_log h ?_
  rw [Nat.log2_lt (by omega)]
  exact Nat.lt_of_lt_of_le hb (Nat.pow_le_pow_right (by decide) h9)
abbrev pSub : DR2 := pI0 fun i j => .int (i - j)
abbrev pFdiv : DR2 := pI CDv fun i j => .int (i.fdiv j)
abbrev pMod : DR2 := pI (fun _ j => j ≠ 0) fun i j => .int (i.fmod j)
abbrev pPow : DR2 := pI CPow fun i j => .int (i ^ j.toNat)
theorem opd_sub : OpD K (rI0 fun i j => .int (i - j)) pSub := opd_I0 fun _ _ _ => .int _
theorem opd_fdiv : OpD K (rI CDv fun i j => .int (i.fdiv j)) pFdiv := opd_I fun _ _ _ => .int _
theorem opd_mod : OpD K (rI (fun _ j => j ≠ 0) fun i j => .int (i.fmod j)) pMod := opd_I fun _ _ _ => .int _
theorem opd_pow : OpD K (rI CPow fun i j => .int (i ^ j.toNat)) pPow := opd_I fun _ _ _ => .int _
/-! ### + of numbers, texts, tuples, lists -/
def pAdd : DR2 := fun x y M Q => match x, y with
  | .int i, .int j => Q (.int (i + j)) M
  | .str x, .str y => x.length + y.length ≤ sizeLine ∧ Q (.str (x ++ y)) M
  | .tup xs, .tup ys => xs.length + ys.length ≤ sizeLine ∧ Q (.tup (xs ++ ys)) M
  | .ref a, .ref b => match M a, M b with
    | some (.lst xs), some (.lst ys) => xs.length + ys.length ≤ sizeLine ∧ ∀ p, M p = none → Q (.ref p) (mupd M p (.lst (xs ++ ys)))
    | _, _ => False
  | _, _ => False
theorem pAdd_mono : MonoR2 pAdd := ⟨fun {x y M Q Q'} h q => by
  unfold pAdd at q ⊢
  split at q
  · exact h _ _ q
  · exact ⟨q.1, h _ _ q.2⟩
  · exact ⟨q.1, h _ _ q.2⟩
  · split at q
    · exact ⟨q.1, fun p np => h _ _ (q.2 p np)⟩
    · exact q.elim
  · exact q.elim⟩
abbrev rAddS : R2 := fun x y H Q => ∃ i j, x = .str i ∧ y = .str j ∧ i.length + j.length ≤ sizeLine ∧ Q (.str (i ++ j)) H
def rAddAll (K : PySem.W.Frag) : R2 := fun x y H Q => rI0 (fun i j => .int (i + j)) x y H Q ∨ (rAddS x y H Q ∨ (rCatA K x y H Q ∨ rCat x y H Q))
theorem op_addAll : OpR X (binaryOp .Add) (rAddAll X.K) := op_add.or (op_add_str.or (op_catA.or op_cat))
theorem opd_add : OpD K (rAddAll K) pAdd := ⟨fun {x y dx dy H M Qd Q} rx ry m q o => by
  unfold pAdd at q
  split at q
  · cases rx; cases ry; exact .inl ⟨_, _, rfl, rfl, o _ _ _ _ q (Keep.refl H) (.int _) m⟩
  · cases rx; cases ry; exact .inr (.inl ⟨_, _, rfl, rfl, q.1, o _ _ _ _ q.2 (Keep.refl H) (.str _) m⟩)
  · cases rx with
    | tup h1 r1 =>
      cases ry with
      | tup h2 r2 =>
        refine .inr (.inr (.inl ⟨_, _, _, _, rfl, rfl, h1, h2, by rw [r1.length, r2.length]; exact q.1, fun e => ?_, fun _ e => ?_, fun _ _ p np => ?_⟩))
        · subst e; cases r1; exact o _ _ _ _ q.2 (Keep.refl H) (.tup h2 r2) m
        · subst e; cases r2
          have q2 := q.2
          rw [List.append_nil] at q2
          exact o _ _ _ _ q2 (Keep.refl H) (.tup h1 r1) m
        · exact o _ _ _ _ q.2 (Keep.new np) (.tup (SqT.of upd_same) ((r1.append r2).keep (Keep.new np))) (m.fresh np)
  · split at q
    · rename_i e1 e2
      cases rx; cases ry
      obtain ⟨xs, h1, r1⟩ := m.lst e1
      obtain ⟨ys, h2, r2⟩ := m.lst e2
      exact .inr (.inr (.inr ⟨_, _, _, _, rfl, rfl, h1, h2, by rw [r1.length, r2.length]; exact q.1, fun p np => o _ _ _ _ (q.2 p (m.free np)) (Keep.new np) (.ref p) (m.new (m := .lst _) np ⟨_, rfl, (r1.append r2).keep (Keep.new np)⟩)⟩))
    · exact q.elim
  · exact q.elim, pAdd_mono⟩
/-! ### * -/
def pMul : DR2 := fun x y M Q => match x, y with
  | .int i, .int j => CMulX i j ∧ Q (.int (i * j)) M
  | .ref a, .int k => match M a with
    | some (.lst xs) => -(2 ^ 63) ≤ k ∧ k < 2 ^ 63 ∧ xs.length * k.toNat ≤ sizeLine ∧ ∀ p, M p = none → Q (.ref p) (mupd M p (.lst (List.replicate k.toNat xs).flatten))
    | _ => False
  | _, _ => False
theorem pMul_mono : MonoR2 pMul := ⟨fun {x y M Q Q'} h q => by
  unfold pMul at q ⊢
  split at q
  · exact ⟨q.1, h _ _ q.2⟩
  · split at q
    · exact ⟨q.1, q.2.1, q.2.2.1, fun p np => h _ _ (q.2.2.2 p np)⟩
    · exact q.elim
  · exact q.elim⟩
def rMulAll : R2 := fun x y H Q => rI CMulX (fun i j => .int (i * j)) x y H Q ∨ rRep x y H Q
theorem op_mulAll : OpR X (binaryOp .Mult) rMulAll := op_mulX.or op_rep
theorem Reps.flat {H : Hp} {xs : List V} {ds : List D} (h : Reps K H xs ds) : ∀ n : Nat, Reps K H (List.replicate n xs).flatten (List.replicate n ds).flatten
  | 0 => .nil
  | n + 1 => by
    rw [List.replicate_succ, List.replicate_succ, List.flatten_cons, List.flatten_cons]
    exact h.append (Reps.flat h n)
theorem opd_mul : OpD K rMulAll pMul := ⟨fun {x y dx dy H M Qd Q} rx ry m q o => by
  unfold pMul at q
  split at q
  · cases rx; cases ry; exact .inl ⟨_, _, rfl, rfl, q.1, o _ _ _ _ q.2 (Keep.refl H) (.int _) m⟩
  · split at q
    · rename_i e1
      cases rx; cases ry
      obtain ⟨xs, h1, r1⟩ := m.lst e1
      exact .inr ⟨_, _, _, rfl, rfl, h1, q.1, q.2.1, by rw [r1.length]; exact q.2.2.1, fun p np => o _ _ _ _ (q.2.2.2 p (m.free np)) (Keep.new np) (.ref p) (m.new (m := .lst _) np ⟨_, rfl, (r1.flat _).keep (Keep.new np)⟩)⟩
    · exact q.elim
  · exact q.elim, pMul_mono⟩
/-! ### unary -/
def pU (g : Int → D) : DR1 := fun x M Q => match x with
  | .int i => Q (g i) M
  | _ => False
theorem und_U {gv : Int → V} {g : Int → D} (r : ∀ i H, Rep K H (gv i) (g i)) : UnD K (rU gv) (pU g) := ⟨fun {x dx H M Qd Q} rx m q o => by
  unfold pU at q
  split at q
  · cases rx; exact ⟨_, rfl, o _ _ _ _ q (Keep.refl H) (r _ _) m⟩
  · exact q.elim, ⟨fun {x M Q Q'} h q => by
  unfold pU at q ⊢
  split at q
  · exact h _ _ q
  · exact q.elim⟩⟩
abbrev pNeg : DR1 := pU fun i => .int (-i)
theorem und_neg : UnD K (rU fun i => .int (-i)) pNeg := und_U fun _ _ => .int _

/-! ### comparisons of data -/
mutual
/-- a value as data, none where something that changes stands within -/
def toP : D → Option PyData
  | .non => some .none
  | .bl b => some (.bool b)
  | .int i => some (.int i)
  | .str x => some (.str x)
  | .tup ds => (toPs ds).map .tuple
  | .ref _ => none
  | .ty _ => none
  | .kl ds => (toPs ds).map .list
def toPs : List D → Option (List PyData)
  | [] => some []
  | d :: ds => match toP d, toPs ds with
    | some p, some ps => some (p :: ps)
    | _, _ => none
end
def toPM (M : Mem) (d : D) : Option PyData := match d with
  | .ref a => match M a with
    | some (.lst ds) => (toPs ds).map .list
    | _ => none
  | d => toP d
mutual
theorem toP_dp {H : Hp} : ∀ {d : D} {v : V} {p : PyData}, Rep K H v d → toP d = some p → Dp K H v p
  | .non, _, _, r, e => by cases r; cases e; exact .non
  | .bl _, _, _, r, e => by cases r; cases e; exact .bl _
  | .int _, _, _, r, e => by cases r; cases e; exact .int _
  | .str _, _, _, r, e => by cases r; cases e; exact .str _
  | .tup ds, _, _, r, e => by
    cases r with
    | tup h r =>
      unfold toP at e
      cases q : toPs ds with
      | none => rw [q] at e; cases e
      | some ps => rw [q] at e; cases e; exact .tup h (toPs_dp r q)
  | .kl ds, _, _, r, e => by
    cases r with
    | kl h r =>
      unfold toP at e
      cases q : toPs ds with
      | none => rw [q] at e; cases e
      | some ps => rw [q] at e; cases e; exact .lst h.sq (toPs_dp r q)
  | .ref _, _, _, _, e => by cases e
  | .ty _, _, _, _, e => by cases e
theorem toPs_dp {H : Hp} : ∀ {ds : List D} {vs : List V} {ps : List PyData}, Reps K H vs ds → toPs ds = some ps → DpAll K H vs ps
  | [], _, _, r, e => by cases r; cases e; exact .nil
  | d :: ds, _, _, r, e => by
    cases r with
    | cons h r =>
      unfold toPs at e
      cases q : toP d with
      | none => rw [q] at e; cases e
      | some p =>
        cases q2 : toPs ds with
        | none => rw [q, q2] at e; cases e
        | some ps => rw [q, q2] at e; cases e; exact .cons (toP_dp h q) (toPs_dp r q2)
end
theorem toPM_dp {H : Hp} {M : Mem} {d : D} {v : V} {p : PyData} (m : RM K H M) (r : Rep K H v d) (e : toPM M d = some p) : Dp K H v p := by
  unfold toPM at e
  split at e
  · cases r
    split at e
    · rename_i ds q
      obtain ⟨xs, h, rr⟩ := m _ _ q
      cases q2 : toPs ds with
      | none => rw [q2] at e; cases e
      | some ps => rw [q2] at e; cases e; exact .lst (.inl (.inl h)) (toPs_dp rr q2)
    · cases e
  · exact toP_dp r e
def eqG (M : Mem) (x y : D) (Q : Bool → Prop) : Prop := match toPM M x, toPM M y with
  | some p, some q => SeqAt.shaped p = true ∧ SeqAt.shaped q = true ∧ Q (PyData.eqv p q)
  | _, _ => False
def pEqB (k : Bool → Bool) : DR2 := fun x y M Q => match x, y with
  | .int i, .int j => Q (.bl (k (decide (i = j)))) M
  | .str i, .str j => Q (.bl (k (decide (i = j)))) M
  | .bl i, .bl j => Q (.bl (k (decide (i = j)))) M
  | x, y => eqG M x y fun b => Q (.bl (k b)) M
abbrev pEq : DR2 := pEqB id
abbrev pNe : DR2 := pEqB not
theorem eqG_mono {M : Mem} {x y : D} {Q Q' : Bool → Prop} (h : ∀ b, Q b → Q' b) (q : eqG M x y Q) : eqG M x y Q' := by
  unfold eqG at q ⊢
  split at q
  · exact ⟨q.1, q.2.1, h _ q.2.2⟩
  · exact q.elim
theorem pEqB_mono {k : Bool → Bool} : MonoR2 (pEqB k) := ⟨fun {x y M Q Q'} h q => by
  unfold pEqB at q ⊢
  split at q
  · exact h _ _ q
  · exact h _ _ q
  · exact h _ _ q
  · exact eqG_mono (fun b q => h _ _ q) q⟩
def rEqAll (K : PySem.W.Frag) : R2 := fun x y H Q => rEq x y H Q ∨ rEqD K x y H Q
def rNeAll (K : PySem.W.Frag) : R2 := fun x y H Q => rNe x y H Q ∨ rNeD K x y H Q
theorem op_eqAll (hu : X.A.units + 64 < cLine) : OpR X (compareOp .Eq) (rEqAll X.K) := op_eq.or (op_eqD hu)
theorem op_neAll (hu : X.A.units + 64 < cLine) : OpR X (compareOp .NotEq) (rNeAll X.K) := op_ne.or (op_neD hu)
theorem opd_eq : OpD K (rEqAll K) pEq := ⟨fun {x y dx dy H M Qd Q} rx ry m q o => by
  unfold pEq pEqB at q
  split at q
  · cases rx; cases ry; exact .inl ⟨rfl, o _ _ _ _ q (Keep.refl H) (by rw [dec_int, ← Bool.beq_eq_decide_eq]; exact .bl _) m⟩
  · cases rx; cases ry; exact .inl ⟨rfl, o _ _ _ _ q (Keep.refl H) (by rw [dec_str, ← Bool.beq_eq_decide_eq]; exact .bl _) m⟩
  · cases rx; cases ry; exact .inl ⟨rfl, o _ _ _ _ q (Keep.refl H) (by rw [dec_bl, ← Bool.beq_eq_decide_eq]; exact .bl _) m⟩
  · unfold eqG at q
    split at q
    · rename_i e1 e2
      exact .inr ⟨_, _, toPM_dp m rx e1, toPM_dp m ry e2, q.1, q.2.1, o _ _ _ _ q.2.2 (Keep.refl H) (.bl _) m⟩
    · exact q.elim, pEqB_mono⟩
theorem opd_ne : OpD K (rNeAll K) pNe := ⟨fun {x y dx dy H M Qd Q} rx ry m q o => by
  unfold pNe pEqB at q
  split at q
  · cases rx; cases ry; exact .inl ⟨rfl, o _ _ _ _ q (Keep.refl H) (by rw [dec_int, ← Bool.beq_eq_decide_eq]; exact .bl _) m⟩
  · cases rx; cases ry; exact .inl ⟨rfl, o _ _ _ _ q (Keep.refl H) (by rw [dec_str, ← Bool.beq_eq_decide_eq]; exact .bl _) m⟩
  · cases rx; cases ry; exact .inl ⟨rfl, o _ _ _ _ q (Keep.refl H) (by rw [dec_bl, ← Bool.beq_eq_decide_eq]; exact .bl _) m⟩
  · unfold eqG at q
    split at q
    · rename_i e1 e2
      exact .inr ⟨_, _, toPM_dp m rx e1, toPM_dp m ry e2, q.1, q.2.1, o _ _ _ _ q.2.2 (Keep.refl H) (.bl _) m⟩
    · exact q.elim, pEqB_mono⟩
abbrev pLt : DR2 := pI0 fun i j => .bl (decide (i < j))
abbrev pLe : DR2 := pI0 fun i j => .bl (decide (i ≤ j))
abbrev pGt : DR2 := pI0 fun i j => .bl (decide (j < i))
abbrev pGe : DR2 := pI0 fun i j => .bl (decide (j ≤ i))
theorem opd_lt : OpD K (rI0 fun i j => .bl (decide (i < j))) pLt := opd_I0 fun _ _ _ => .bl _
theorem opd_le : OpD K (rI0 fun i j => .bl (decide (i ≤ j))) pLe := opd_I0 fun _ _ _ => .bl _
theorem opd_gt : OpD K (rI0 fun i j => .bl (decide (j < i))) pGt := opd_I0 fun _ _ _ => .bl _
theorem opd_ge : OpD K (rI0 fun i j => .bl (decide (j ≤ i))) pGe := opd_I0 fun _ _ _ => .bl _
/-- is, is not: None, and truth values -/
def pIsB (k : Bool → Bool) : DR2 := fun x y M Q => match x, y with
  | .non, .non => Q (.bl (k true)) M
  | .bl a, .bl b => Q (.bl (k (decide (a = b)))) M
  | _, .non => Q (.bl (k false)) M
  | _, _ => False
abbrev pIs : DR2 := pIsB id
abbrev pIsN : DR2 := pIsB not
theorem pIsB_mono {k : Bool → Bool} : MonoR2 (pIsB k) := ⟨fun {x y M Q Q'} h q => by
  unfold pIsB at q ⊢
  split at q
  · exact h _ _ q
  · exact h _ _ q
  · rename_i z; cases x <;> first | exact h _ _ q | exact (z rfl).elim
  · exact q.elim⟩
abbrev rIsNn : R2 := fun x y H Q => y = .non ∧ Q (.bl (decide (x = .non))) H
abbrev rIsNnN : R2 := fun x y H Q => y = .non ∧ Q (.bl (!decide (x = .non))) H
def rIsAll : R2 := fun x y H Q => rIsNn x y H Q ∨ rIsB x y H Q
def rIsnAll : R2 := fun x y H Q => rIsNnN x y H Q ∨ rNotB x y H Q
theorem op_isAll : OpR X (compareOp .Is) rIsAll := op_isN.or op_isBl
theorem op_isnAll : OpR X (compareOp .IsNot) rIsnAll := op_notN.or op_notBl
theorem opd_is : OpD K rIsAll pIs := ⟨fun {x y dx dy H M Qd Q} rx ry m q o => by
  unfold pIs pIsB at q
  split at q
  · cases rx; cases ry; exact .inl ⟨rfl, o _ _ _ _ q (Keep.refl H) (.bl _) m⟩
  · cases rx; cases ry; exact .inr ⟨_, _, rfl, rfl, o _ _ _ _ q (Keep.refl H) (.bl _) m⟩
  · rename_i z
    cases ry
    refine .inl ⟨rfl, o _ _ _ _ q (Keep.refl H) ?_ m⟩
    rw [decide_eq_false (by intro e; subst e; cases rx; exact z rfl)]
    exact .bl _
  · exact q.elim, pIsB_mono⟩
theorem opd_isn : OpD K rIsnAll pIsN := ⟨fun {x y dx dy H M Qd Q} rx ry m q o => by
  unfold pIsN pIsB at q
  split at q
  · cases rx; cases ry; exact .inl ⟨rfl, o _ _ _ _ q (Keep.refl H) (.bl _) m⟩
  · cases rx; cases ry; exact .inr ⟨_, _, rfl, rfl, o _ _ _ _ q (Keep.refl H) (.bl _) m⟩
  · rename_i z
    cases ry
    refine .inl ⟨rfl, o _ _ _ _ q (Keep.refl H) ?_ m⟩
    rw [decide_eq_false (by intro e; subst e; cases rx; exact z rfl)]
    exact .bl _
  · exact q.elim, pIsB_mono⟩
/-! ### a op b op c -/
def dChain (r r' : DR2) (ta tb tc : DTE) : DTE := fun τ M Q => ta τ M fun x M1 => tb τ M1 fun y M2 => r x y M2 fun z M3 => asB z M3 fun k M3 => if k = true then tc τ M3 fun w M4 => r' y w M4 Q else Q (.bl false) M3
theorem dChain_mono {r r' : DR2} {ta tb tc : DTE} (ma : MonoE ta) (mb : MonoE tb) (mc : MonoE tc) (mr : MonoR2 r) (mr' : MonoR2 r') : MonoE (dChain r r' ta tb tc) := ⟨fun h q => ma.go (fun _ _ q => mb.go (fun _ _ q => mr.go (fun _ _ q => asB_mono (fun k _ q => by
  cases k with
  | true => exact mc.go (fun _ _ q => mr'.go h q) q
  | false => exact h _ _ q) q) q) q) q⟩
theorem upChain {r r' : R2} {rd rd' : DR2} {ta tb tc : DTE} (o : OpD K r rd) (o' : OpD K r' rd') (ma : MonoE ta) (mb : MonoE tb) (mc : MonoE tc) {σ : L2.St} {H : Hp} {Q : VK} {τ : DS} {M : Mem} (hs : RS K H σ τ) (hm : RM K H M)
    (q : dChain rd rd' ta tb tc τ M (fun d M' => ∀ v H', Keep H H' → Rep K H' v d → RM K H' M' → Q v H')) : tChain r r' (upE K ta) (upE K tb) (upE K tc) σ H Q := by
  refine ⟨τ, M, hs, hm, ma.go (fun x M1 q v H1 k1 r1 m1 => ⟨τ, M1, hs.keep k1, m1, mb.go (fun y M2 q w H2 k2 r2 m2 => ?_) q⟩) q⟩
  refine o.to (r1.keep k2) r2 m2 q fun d M3 u H3 qq k3 r3 m3 => ?_
  obtain ⟨k, e, qq⟩ := asB_to r3 qq
  refine ⟨k, e, ?_⟩
  cases k with
  | true =>
    refine iteT ⟨τ, M3, hs.keep (k1.trans (k2.trans k3)), m3, mc.go (fun z M4 q v4 H4 k4 r4 m4 => ?_) qq⟩
    exact o'.to ((r2.keep k3).keep k4) r4 m4 q fun d M' u H' qq k5 r5 m5 => qq u H' (k1.trans (k2.trans (k3.trans (k4.trans k5)))) r5 m5
  | false => exact iteF (qq _ H3 (k1.trans (k2.trans k3)) (.bl false) m3)
variable {a b c : Expr} {ta tb tc : DTE} {pos : Pos}
theorem de_chain {op op' : CmpOp} {r r' : R2} {rd rd' : DR2} (ho : OpR X (compareOp op) r) (ho' : OpR X (compareOp op') r') (o : OpD X.K r rd) (o' : OpD X.K r' rd') (ha : DE X a ta) (hb : DE X b tb) (hc : DE X c tc)
    (hm : lastMarks [op, op'] [b, c] = false := by with_unfolding_all rfl) : DE X (.Compare a [op, op'] [b, c] pos) (dChain rd rd' ta tb tc) :=
  de_of (pe_chain ho ho' ha.pe hb.pe hc.pe hm) (dChain_mono ha.mono hb.mono hc.mono o.mono o'.mono).go fun σ H Q τ M hs hm q => upChain o o' ha.mono hb.mono hc.mono hs hm q
theorem dt_chain {op op' : CmpOp} {r r' : R2} {rd rd' : DR2} (ho : OpR X (compareOp op) r) (ho' : OpR X (compareOp op') r') (o : OpD X.K r rd) (o' : OpD X.K r' rd') (ha : DE X a ta) (hb : DE X b tb) (hc : DE X c tc)
    (hm : lastMarks [op, op'] [b, c] = false := by with_unfolding_all rfl) : DT X (.Compare a [op, op'] [b, c] pos) (dTest (dChain rd rd' ta tb tc)) := by
  have mm := dChain_mono ha.mono hb.mono hc.mono o.mono o'.mono
  refine dt_of (pt_chain ho ho' ha.pe hb.pe hc.pe hm) (dTest_mono mm).go fun σ H Q τ M hs hm q => ?_
  refine upChain o o' ha.mono hb.mono hc.mono hs hm (mm.go (fun d M' q v H' k1 r1 m1 => ?_) q)
  obtain ⟨k, e, q⟩ := asB_to r1 q
  exact ⟨k, e, q H' k1 m1⟩
/-! ### subscripts -/
def optQ {α : Type} (o : Option α) (k : α → Prop) : Prop := match o with
  | some d => k d
  | none => False
theorem optQ_mono {α : Type} {o : Option α} {k k' : α → Prop} (h : ∀ d, k d → k' d) (q : optQ o k) : optQ o k' := by
  cases o with
  | none => exact q
  | some d => exact h _ q
theorem optQ_to {α : Type} {o : Option α} {k : α → Prop} (q : optQ o k) : ∃ d, o = some d ∧ k d := by
  cases o with
  | none => exact q.elim
  | some d => exact ⟨d, rfl, q⟩
def pIx : DR2 := fun x y M Q => match x, y with
  | .tup ds, .int i => optQ (atI ds i) fun d => Q d M
  | .str z, .int i => z.length ≤ sizeLine ∧ optQ (atI z.cps.toList i) fun c => Q (.str ⟨#[c]⟩) M
  | d, .int i => lsOf M d fun _ ds => optQ (atI ds i) fun d => Q d M
  | _, _ => False
theorem pIx_mono : MonoR2 pIx := ⟨fun {x y M Q Q'} h q => by
  unfold pIx at q ⊢
  split at q
  · exact optQ_mono (fun _ q => h _ _ q) q
  · exact ⟨q.1, optQ_mono (fun _ q => h _ _ q) q.2⟩
  · exact lsOf_mono (fun _ _ q => optQ_mono (fun _ q => h _ _ q) q) q
  · exact q.elim⟩
theorem atI_reps {H : Hp} {xs : List V} {ds : List D} (r : Reps K H xs ds) {i : Int} {d : D} (e : atI ds i = some d) : ∃ v, atI xs i = some v ∧ Rep K H v d := by
  unfold atI at e ⊢
  rw [r.length]
  cases q : ixN ds.length i with
  | none => rw [q] at e; cases e
  | some j =>
    rw [q] at e
    obtain ⟨v, e1, r1⟩ := r.get (i := j) (d := d) e
    exact ⟨v, e1, r1⟩
theorem opd_ix : OpD K (rIx K) pIx := ⟨fun {x y dx dy H M Qd Q} rx ry m q o => by
  unfold pIx at q
  split at q
  · cases ry
    cases rx with
    | tup h r =>
      obtain ⟨d, e, q⟩ := optQ_to q
      obtain ⟨v, e1, r1⟩ := atI_reps r e
      exact .inr (.inl ⟨_, _, _, _, rfl, rfl, h, e1, o _ _ _ _ q (Keep.refl H) r1 m⟩)
  · cases ry; cases rx
    obtain ⟨hz, q⟩ := q
    obtain ⟨d, e, q⟩ := optQ_to q
    exact .inr (.inr ⟨_, _, _, rfl, rfl, hz, e, o _ _ _ _ q (Keep.refl H) (.str _) m⟩)
  · cases ry
    obtain ⟨a, live, ds, xs, rfl, q, h, r⟩ := lsOf_at rx m q
    obtain ⟨d, e, q⟩ := optQ_to q
    obtain ⟨v, e1, r1⟩ := atI_reps r e
    exact .inl ⟨_, _, _, _, rfl, rfl, h, e1, o _ _ _ _ q (Keep.refl H) r1 m⟩
  · exact q.elim, pIx_mono⟩
theorem de_ix (ha : DE X a ta) (hb : DE X b tb) (hs : PlainIx b) : DE X (.Subscript a b pos) (dOp pIx ta tb) :=
  de_of (pe_ix ix_seq ha.pe hb.pe hs) (dOp_mono ha.mono hb.mono pIx_mono).go fun σ H Q τ M h1 hm q => up2 opd_ix ha.mono hb.mono h1 hm q
/-! slices -/
def cutL {α : Type} (xs : List α) (lo hi : Option Int) : List α := (xs.drop (HT.sIx xs.length 0 lo)).take (HT.sIx xs.length xs.length hi - HT.sIx xs.length 0 lo)
abbrev DTO := DS → Mem → (Option Int → Mem → Prop) → Prop
def dNoPart : DTO := fun _ M Q => Q none M
def dPart (t : DTE) : DTO := fun τ M Q => t τ M fun d M1 => match d with
  | .int i => Q (some i) M1
  | _ => False
structure MonoO (t : DTO) : Prop where
  go : ∀ {τ : DS} {M : Mem} {Q Q' : Option Int → Mem → Prop}, (∀ d M', Q d M' → Q' d M') → t τ M Q → t τ M Q'
def upO (K : PySem.W.Frag) (t : DTO) : TO := fun σ H Q => ∃ τ M, RS K H σ τ ∧ RM K H M ∧ t τ M (fun b M' => ∀ H', Keep H H' → RM K H' M' → Q b H')
structure DO (X : Cx) (e : Option Expr) (t : DTO) : Prop where
  po : PO X e (upO X.K t)
  mono : MonoO t
theorem do_none : DO X none dNoPart := ⟨⟨fun pins s σ H Q I ⟨τ, M, a, b, q⟩ => po_none.run pins s σ H Q I (q H (Keep.refl H) b)⟩, ⟨fun h q => h _ _ q⟩⟩
theorem do_some (h : DE X a ta) : DO X (some a) (dPart ta) := by
  refine ⟨⟨fun pins s σ H Q I ⟨τ, M, hs, hm, q⟩ => (po_some h.pe).run pins s σ H Q I ⟨τ, M, hs, hm, h.mono.go (fun d M1 q v H1 k r m => ?_) q⟩⟩, ⟨fun h2 q => h.mono.go (fun d M1 q => ?_) q⟩⟩
  · split at q
    · cases r; exact ⟨_, rfl, q H1 k m⟩
    · exact q.elim
  · split at q
    · exact h2 _ _ q
    · exact q.elim
def pSl (x : D) (lo hi : Option Int) (M : Mem) (Q : DQ) : Prop := match x with
  | .tup ds => Q (.tup (cutL ds lo hi)) M
  | .str z => z.length ≤ sizeLine ∧ Q (.str (cutS z lo hi)) M
  | d => lsOf M d fun _ ds => ∀ p, M p = none → Q (.ref p) (mupd M p (.lst (cutL ds lo hi)))
theorem pSl_mono {x : D} {lo hi : Option Int} {M : Mem} {Q Q' : DQ} (h : ∀ d M', Q d M' → Q' d M') (q : pSl x lo hi M Q) : pSl x lo hi M Q' := by
  unfold pSl at q ⊢
  split at q
  · exact h _ _ q
  · exact ⟨q.1, h _ _ q.2⟩
  · exact lsOf_mono (fun _ _ q p np => h _ _ (q p np)) q
def dSl (te : DTE) (tl th : DTO) : DTE := fun τ M Q => te τ M fun x M1 => tl τ M1 fun l M2 => th τ M2 fun u M3 => pSl x l u M3 Q
def rSlAll (K : PySem.W.Frag) : V → Option Int → Option Int → Hp → VK → Prop := fun x lo hi H Q => rSlA K x lo hi H Q ∨ ((fun x lo hi H Q => ∃ z, x = .str z ∧ z.length ≤ sizeLine ∧ Q (.str (cutS z lo hi)) H) x lo hi H Q ∨ rSlL K x lo hi H Q)
theorem sl_all : SlR X (rSlAll X.K) := sl_tupA.or (sl_str.or sl_list)
theorem Reps.cut {H : Hp} {xs : List V} {ds : List D} (h : Reps K H xs ds) (lo hi : Option Int) : Reps K H (cutV xs lo hi) (cutL ds lo hi) := by
  unfold cutV cutL
  rw [h.length]
  exact (h.drop _).take _
theorem cutL_all {α : Type} {xs : List α} {lo hi : Option Int} (h : HT.sIx xs.length 0 lo = 0 ∧ HT.sIx xs.length xs.length hi = xs.length) : cutL xs lo hi = xs := by
  unfold cutL
  rw [h.1, h.2]
  simp
theorem sl_to {x : V} {dx : D} {lo hi : Option Int} {H : Hp} {M : Mem} {Qd : DQ} {Q : VK} (rx : Rep K H x dx) (m : RM K H M) (q : pSl dx lo hi M Qd) (o : Out K H Q Qd) : rSlAll K x lo hi H Q := by
  unfold pSl at q
  split at q
  · cases rx with
    | tup h r =>
      refine .inl ⟨_, _, rfl, h, fun e => ?_, fun e p np => ?_⟩
      · rw [r.length] at e
        rw [cutL_all e] at q
        exact o _ _ _ _ q (Keep.refl H) (.tup h r) m
      · exact o _ _ _ _ q (Keep.new np) (.tup (SqT.of upd_same) ((r.cut lo hi).keep (Keep.new np))) (m.fresh np)
  · cases rx
    exact .inr (.inl ⟨_, rfl, q.1, o _ _ _ _ q.2 (Keep.refl H) (.str _) m⟩)
  · obtain ⟨a, live, ds, xs, rfl, q, h, r⟩ := lsOf_at rx m q
    exact .inr (.inr ⟨_, _, rfl, h, fun p np => o _ _ _ _ (q p (m.free np)) (Keep.new np) (.ref p) (m.new (m := .lst _) np ⟨_, rfl, (r.cut lo hi).keep (Keep.new np)⟩)⟩)
theorem dSl_mono {te : DTE} {tl th : DTO} (me : MonoE te) (ml : MonoO tl) (mh : MonoO th) : MonoE (dSl te tl th) := ⟨fun h q => me.go (fun _ _ q => ml.go (fun _ _ q => mh.go (fun _ _ q => pSl_mono h q) q) q) q⟩
theorem de_slice {e : Expr} {lo hi : Option Expr} {te : DTE} {tl th : DTO} {p2 : Pos} (he : DE X e te) (hl : DO X lo tl) (hu : DO X hi th) : DE X (.Subscript e (.Slice lo hi none p2) pos) (dSl te tl th) := by
  refine de_of (pe_slice sl_all he.pe hl.po hu.po) (dSl_mono he.mono hl.mono hu.mono).go fun σ H Q τ M hs hm q => ?_
  refine ⟨τ, M, hs, hm, he.mono.go (fun d M1 q v H1 k1 r1 m1 => ⟨τ, M1, hs.keep k1, m1, hl.mono.go (fun l M2 q H2 k2 m2 => ⟨τ, M2, hs.keep (k1.trans k2), m2, hu.mono.go (fun u M3 q H3 k3 m3 => ?_) q⟩) q⟩) q⟩
  exact sl_to (r1.keep (k2.trans k3)) m3 q fun d M' v H' q k r m => q v H' (k1.trans (k2.trans (k3.trans k))) r m
end
end DL

namespace DL
open PySem PySem.Spec PyProof.Rows L2

section
variable {X : Cx} {K : PySem.W.Frag}
theorem reps1 {H : Hp} {xs : List V} {d : D} (r : Reps K H xs [d]) : ∃ v, xs = [v] ∧ Rep K H v d := by
  cases r with
  | cons h r => cases r; exact ⟨_, rfl, h⟩
theorem reps2 {H : Hp} {xs : List V} {d e : D} (r : Reps K H xs [d, e]) : ∃ v w, xs = [v, w] ∧ Rep K H v d ∧ Rep K H w e := by
  cases r with
  | cons h r =>
    cases r with
    | cons h2 r => cases r; exact ⟨_, _, rfl, h, h2⟩
/-! ### len -/
def pLen : DRL := fun ds M Q => match ds with
  | [.tup xs] => Q (.int (xs.length : Nat)) M
  | [.str x] => x.length ≤ sizeLine ∧ Q (.int (x.length : Nat)) M
  | [.kl xs] => Q (.int (xs.length : Nat)) M
  | [.ref a] => match M a with
    | some (.lst xs) => Q (.int (xs.length : Nat)) M
    | some (.dK kvs) => Q (.int (kvs.length : Nat)) M
    | _ => False
  | _ => False
abbrev rLenD : List V → Hp → VK → Prop := fun xs H Q => ∃ a kvs, xs = [V.ref a] ∧ H a = some (.dK kvs) ∧ Q (.int kvs.length) H
abbrev rLenL (K : PySem.W.Frag) : List V → Hp → VK → Prop := fun xs H Q => ∃ x n, xs = [x] ∧ LenV K x H n ∧ Q (.int n) H
def rLenAll (K : PySem.W.Frag) : List V → Hp → VK → Prop := fun xs H Q => rLenL K xs H Q ∨ rLenD xs H Q
theorem cr_len : CallR X (.builtin "len") (rLenAll X.K) := call_len.or call_lenD
theorem cd_len : CallD K (rLenAll K) pLen := ⟨fun {xs ds H M Qd Q} r m q o => by
  unfold pLen at q
  split at q
  · obtain ⟨v, rfl, rv⟩ := reps1 r
    cases rv with
    | tup h rr => exact .inl ⟨_, _, rfl, .inr ⟨_, h, rfl⟩, o _ _ _ _ q (Keep.refl H) (by rw [rr.length]; exact .int _) m⟩
  · obtain ⟨v, rfl, rv⟩ := reps1 r
    cases rv
    exact .inl ⟨_, _, rfl, ⟨q.1, rfl⟩, o _ _ _ _ q.2 (Keep.refl H) (.int _) m⟩
  · obtain ⟨v, rfl, rv⟩ := reps1 r
    cases rv with
    | kl h rr => exact .inl ⟨_, _, rfl, .inl ⟨_, h.sq, rfl⟩, o _ _ _ _ q (Keep.refl H) (by rw [rr.length]; exact .int _) m⟩
  · obtain ⟨v, rfl, rv⟩ := reps1 r
    cases rv
    split at q
    · rename_i e
      obtain ⟨ys, h, rr⟩ := m.lst e
      exact .inl ⟨_, _, rfl, .inl ⟨_, .inl (.inl h), rfl⟩, o _ _ _ _ q (Keep.refl H) (by rw [rr.length]; exact .int _) m⟩
    · rename_i kds e
      obtain ⟨kvs, h, rr⟩ := m _ _ e
      have hl : kvs.length = kds.length := by have := congrArg List.length rr.1; simpa using this
      exact .inr ⟨_, _, rfl, h, o _ _ _ _ q (Keep.refl H) (by rw [hl]; exact .int _) m⟩
    · exact q.elim
  · exact q.elim, ⟨fun {ds M Q Q'} h q => by
  unfold pLen at q ⊢
  split at q
  · exact h _ _ q
  · exact ⟨q.1, h _ _ q.2⟩
  · exact h _ _ q
  · split at q
    · exact h _ _ q
    · exact h _ _ q
    · exact q.elim
  · exact q.elim⟩⟩
/-! ### numbers -/
def pCI (g : Int → D) : DRL := fun ds M Q => match ds with
  | [.int i] => Q (g i) M
  | _ => False
theorem pCI_mono {g : Int → D} : MonoRL (pCI g) := ⟨fun {ds M Q Q'} h q => by
  unfold pCI at q ⊢
  split at q
  · exact h _ _ q
  · exact q.elim⟩
abbrev pAbs : DRL := pCI fun i => .int (i.natAbs : Nat)
theorem cd_abs : CallD K (fun xs H Q => ∃ i, xs = [.int i] ∧ Q (.int (if i < 0 then -i else i)) H) pAbs := ⟨fun {xs ds H M Qd Q} r m q o => by
  unfold pAbs pCI at q
  split at q
  · rename_i i
    obtain ⟨v, rfl, rv⟩ := reps1 r
    cases rv
    refine ⟨_, rfl, o _ _ _ _ q (Keep.refl H) ?_ m⟩
    have e : (if i < 0 then -i else i) = (i.natAbs : Int) := by split <;> omega
    rw [e]; exact .int _
  · exact q.elim, pCI_mono⟩
def pC2 (g : Int → Int → D) : DRL := fun ds M Q => match ds with
  | [.int i, .int j] => Q (g i j) M
  | _ => False
theorem pC2_mono {g : Int → Int → D} : MonoRL (pC2 g) := ⟨fun {ds M Q Q'} h q => by
  unfold pC2 at q ⊢
  split at q
  · exact h _ _ q
  · exact q.elim⟩
abbrev pMax2 : DRL := pC2 fun i j => .int (max i j)
abbrev pMin2 : DRL := pC2 fun i j => .int (min i j)
theorem cd_max2 : CallD K (fun xs H Q => ∃ i j, xs = [.int i, .int j] ∧ Q (.int (if j > i then j else i)) H) pMax2 := ⟨fun {xs ds H M Qd Q} r m q o => by
  unfold pMax2 pC2 at q
  split at q
  · rename_i i j
    obtain ⟨v, w, rfl, rv, rw'⟩ := reps2 r
    cases rv; cases rw'
    refine ⟨_, _, rfl, o _ _ _ _ q (Keep.refl H) ?_ m⟩
    have e : (if j > i then j else i) = max i j := by split <;> omega
    rw [e]; exact .int _
  · exact q.elim, pC2_mono⟩
theorem cd_min2 : CallD K (fun xs H Q => ∃ i j, xs = [.int i, .int j] ∧ Q (.int (if j < i then j else i)) H) pMin2 := ⟨fun {xs ds H M Qd Q} r m q o => by
  unfold pMin2 pC2 at q
  split at q
  · rename_i i j
    obtain ⟨v, w, rfl, rv, rw'⟩ := reps2 r
    cases rv; cases rw'
    refine ⟨_, _, rfl, o _ _ _ _ q (Keep.refl H) ?_ m⟩
    have e : (if j < i then j else i) = min i j := by split <;> omega
    rw [e]; exact .int _
  · exact q.elim, pC2_mono⟩
def pInt : DRL := fun ds M Q => match ds with
  | [.int i] => Q (.int i) M
  | [.bl k] => Q (.int (if k then 1 else 0)) M
  | _ => False
theorem cd_int : CallD K (fun xs H Q => (∃ i, xs = [.int i] ∧ Q (.int i) H) ∨ ∃ k, xs = [.bl k] ∧ Q (.int (if k then 1 else 0)) H) pInt := ⟨fun {xs ds H M Qd Q} r m q o => by
  unfold pInt at q
  split at q
  · obtain ⟨v, rfl, rv⟩ := reps1 r
    cases rv
    exact .inl ⟨_, rfl, o _ _ _ _ q (Keep.refl H) (.int _) m⟩
  · obtain ⟨v, rfl, rv⟩ := reps1 r
    cases rv
    exact .inr ⟨_, rfl, o _ _ _ _ q (Keep.refl H) (.int _) m⟩
  · exact q.elim, ⟨fun {ds M Q Q'} h q => by
  unfold pInt at q ⊢
  split at q
  · exact h _ _ q
  · exact h _ _ q
  · exact q.elim⟩⟩
def pStr : DRL := fun ds M Q => match ds with
  | [.int i] => i.natAbs.log2 < 1920 ∧ Q (.str (toString i)) M
  | _ => False
theorem cd_str : CallD K (fun xs H Q => ∃ i, xs = [.int i] ∧ i.natAbs.log2 < 1920 ∧ Q (.str (toString i)) H) pStr := ⟨fun {xs ds H M Qd Q} r m q o => by
  unfold pStr at q
  split at q
  · obtain ⟨v, rfl, rv⟩ := reps1 r
    cases rv
    exact ⟨_, rfl, q.1, o _ _ _ _ q.2 (Keep.refl H) (.str _) m⟩
  · exact q.elim, ⟨fun {ds M Q Q'} h q => by
  unfold pStr at q ⊢
  split at q
  · exact ⟨q.1, h _ _ q.2⟩
  · exact q.elim⟩⟩
/-! ### tuple(x), list(x) -/
def pTuple : DRL := fun ds M Q => match ds with
  | [.tup xs] => Q (.tup xs) M
  | [d] => lsOf M d fun _ xs => Q (.tup xs) M
  | _ => False
theorem cd_tuple : CallD K (fun xs H Q => ∃ p ys, xs = [.ref p] ∧ ((SqL K H p ys ∧ ∀ l, H l = none → Q (.ref l) (upd H l (.tup ys))) ∨ (SqT K H p ys ∧ Q (.ref p) H))) pTuple := ⟨fun {xs ds H M Qd Q} r m q o => by
  unfold pTuple at q
  split at q
  · obtain ⟨v, rfl, rv⟩ := reps1 r
    cases rv with
    | tup h rr => exact ⟨_, _, rfl, .inr ⟨h, o _ _ _ _ q (Keep.refl H) (.tup h rr) m⟩⟩
  · obtain ⟨v, rfl, rv⟩ := reps1 r
    obtain ⟨a, live, ds, ys, rfl, q, h, rr⟩ := lsOf_at rv m q
    exact ⟨_, _, rfl, .inl ⟨h, fun p np => o _ _ _ _ q (Keep.new np) (.tup (SqT.of upd_same) (rr.keep (Keep.new np))) (m.fresh np)⟩⟩
  · exact q.elim, ⟨fun {ds M Q Q'} h q => by
  unfold pTuple at q ⊢
  split at q
  · exact h _ _ q
  · exact lsOf_mono (fun _ _ q => h _ _ q) q
  · exact q.elim⟩⟩
def pList : DRL := fun ds M Q => match ds with
  | [.tup xs] => ∀ p, M p = none → Q (.ref p) (mupd M p (.lst xs))
  | [d] => lsOf M d fun _ xs => ∀ p, M p = none → Q (.ref p) (mupd M p (.lst xs))
  | _ => False
theorem cd_list : CallD K (fun xs H Q => ∃ p ys, xs = [.ref p] ∧ (SqL K H p ys ∨ SqT K H p ys) ∧ ∀ l, H l = none → Q (.ref l) (upd H l (.lst ys))) pList := ⟨fun {xs ds H M Qd Q} r m q o => by
  unfold pList at q
  split at q
  · obtain ⟨v, rfl, rv⟩ := reps1 r
    cases rv with
    | tup h rr => exact ⟨_, _, rfl, .inr h, fun p np => o _ _ _ _ (q p (m.free np)) (Keep.new np) (.ref p) (m.new (m := .lst _) np ⟨_, rfl, rr.keep (Keep.new np)⟩)⟩
  · obtain ⟨v, rfl, rv⟩ := reps1 r
    obtain ⟨a, live, ds, ys, rfl, q, h, rr⟩ := lsOf_at rv m q
    exact ⟨_, _, rfl, .inl h, fun p np => o _ _ _ _ (q p (m.free np)) (Keep.new np) (.ref p) (m.new (m := .lst _) np ⟨_, rfl, rr.keep (Keep.new np)⟩)⟩
  · exact q.elim, ⟨fun {ds M Q Q'} h q => by
  unfold pList at q ⊢
  split at q
  · exact fun p np => h _ _ (q p np)
  · exact lsOf_mono (fun _ _ q p np => h _ _ (q p np)) q
  · exact q.elim⟩⟩
/-! ### all, any, sum -/
def bsOf : List D → Option (List Bool)
  | [] => some []
  | .bl b :: ds => (bsOf ds).map (b :: ·)
  | _ => none
def nsOf : List D → Option (List Int)
  | [] => some []
  | .int b :: ds => (nsOf ds).map (b :: ·)
  | _ => none
theorem bsOf_eq : ∀ {ds : List D} {bs : List Bool}, bsOf ds = some bs → ds = bs.map D.bl
  | [], _, e => by cases e; rfl
  | .bl b :: ds, _, e => by
    unfold bsOf at e
    cases q : bsOf ds with
    | none => rw [q] at e; cases e
    | some cs => rw [q] at e; cases e; rw [bsOf_eq q]; rfl
theorem nsOf_eq : ∀ {ds : List D} {bs : List Int}, nsOf ds = some bs → ds = bs.map D.int
  | [], _, e => by cases e; rfl
  | .int b :: ds, _, e => by
    unfold nsOf at e
    cases q : nsOf ds with
    | none => rw [q] at e; cases e
    | some cs => rw [q] at e; cases e; rw [nsOf_eq q]; rfl
theorem bsOf_map {α : Type} (f : α → Bool) : ∀ xs : List α, bsOf (xs.map fun x => D.bl (f x)) = some (xs.map f)
  | [] => rfl
  | x :: xs => by rw [List.map_cons, bsOf, bsOf_map f xs]; rfl
theorem nsOf_map {α : Type} (f : α → Int) : ∀ xs : List α, nsOf (xs.map fun x => D.int (f x)) = some (xs.map f)
  | [] => rfl
  | x :: xs => by rw [List.map_cons, nsOf, nsOf_map f xs]; rfl
theorem nsOf_ints (xs : List Int) : nsOf (xs.map D.int) = some xs := by
  have := nsOf_map id xs
  simpa using this
def pBs (g : List Bool → D) : DRL := fun ds M Q => match ds with
  | [d] => lsOf M d fun _ xs => optQ (bsOf xs) fun bs => Q (g bs) M
  | _ => False
theorem pBs_mono {g : List Bool → D} : MonoRL (pBs g) := ⟨fun {ds M Q Q'} h q => by
  unfold pBs at q ⊢
  split at q
  · exact lsOf_mono (fun _ _ q => optQ_mono (fun _ q => h _ _ q) q) q
  · exact q.elim⟩
theorem cd_Bs {gv : List Bool → V} {g : List Bool → D} (hr : ∀ bs H, Rep K H (gv bs) (g bs)) : CallD K (fun vs H Q => ∃ (a : Addr) (bs : List Bool), vs = [V.ref a] ∧ SqL K H a (bs.map V.bl) ∧ Q (gv bs) H) (pBs g) := ⟨fun {xs ds H M Qd Q} r m q o => by
  unfold pBs at q
  split at q
  · obtain ⟨v, rfl, rv⟩ := reps1 r
    obtain ⟨a, live, ds, ys, rfl, q, h, rr⟩ := lsOf_at rv m q
    obtain ⟨bs, e, q⟩ := optQ_to q
    rw [bsOf_eq e] at rr
    rw [rr.bls] at h
    exact ⟨_, _, rfl, h, o _ _ _ _ q (Keep.refl H) (hr _ _) m⟩
  · exact q.elim, pBs_mono⟩
abbrev pAll : DRL := pBs fun bs => .bl (bs.all id)
abbrev pAny : DRL := pBs fun bs => .bl (bs.any id)
theorem cd_all : CallD K (rAll K) pAll := cd_Bs fun _ _ => .bl _
theorem cd_any : CallD K (rAny K) pAny := cd_Bs fun _ _ => .bl _
def pNs (g : List Int → D) : DRL := fun ds M Q => match ds with
  | [d] => lsOf M d fun _ xs => optQ (nsOf xs) fun bs => Q (g bs) M
  | _ => False
abbrev pSum : DRL := pNs fun ns => .int ns.sum
theorem cd_sum : CallD K (rSum K) pSum := ⟨fun {xs ds H M Qd Q} r m q o => by
  unfold pSum pNs at q
  split at q
  · obtain ⟨v, rfl, rv⟩ := reps1 r
    obtain ⟨a, live, ds, ys, rfl, q, h, rr⟩ := lsOf_at rv m q
    obtain ⟨bs, e, q⟩ := optQ_to q
    rw [nsOf_eq e] at rr
    rw [rr.ints] at h
    exact ⟨_, _, rfl, h, o _ _ _ _ q (Keep.refl H) (.int _) m⟩
  · exact q.elim, ⟨fun {ds M Q Q'} h q => by
  unfold pSum pNs at q ⊢
  split at q
  · exact lsOf_mono (fun _ _ q => optQ_mono (fun _ q => h _ _ q) q) q
  · exact q.elim⟩⟩
/-- sorted of a list of whole numbers -/
def pSortI : DRL := fun ds M Q => match ds with
  | [d] => lsOf M d fun _ xs => optQ (nsOf xs) fun ns => ∀ (ns' : List Int) (p : Addr), ns'.Perm ns → ns'.Pairwise (· ≤ ·) → M p = none → Q (.ref p) (mupd M p (.lst (ns'.map D.int)))
  | _ => False
theorem cd_sortI : CallD K (rSortedI K) pSortI := ⟨fun {xs ds H M Qd Q} r m q o => by
  unfold pSortI at q
  split at q
  · obtain ⟨v, rfl, rv⟩ := reps1 r
    obtain ⟨a, live, ds, ys, rfl, q, h, rr⟩ := lsOf_at rv m q
    obtain ⟨bs, e, q⟩ := optQ_to q
    rw [nsOf_eq e] at rr
    rw [rr.ints] at h
    exact ⟨_, _, rfl, h, fun ns' p hp hs np => o _ _ _ _ (q ns' p hp hs (m.free np)) (Keep.new np) (.ref p) (m.new (m := .lst _) np ⟨_, rfl, Reps.of_ints ns'⟩)⟩
  · exact q.elim, ⟨fun {ds M Q Q'} h q => by
  unfold pSortI at q ⊢
  split at q
  · exact lsOf_mono (fun _ _ q => optQ_mono (fun _ q ns' p a b c => h _ _ (q ns' p a b c)) q) q
  · exact q.elim⟩⟩
/-! ### isinstance -/
def kindD (M : Mem) (d : D) : Option String := match d with
  | .non => some "NoneType"
  | .bl _ => some "bool"
  | .int _ => some "int"
  | .str _ => some "str"
  | .tup _ => some "tuple"
  | .ref a => match M a with
    | some (.lst _) => some "list"
    | some (.dK _) => some "dict"
    | some (.dT _) => some "dict"
    | _ => none
  | .ty _ => none
  | .kl _ => some "list"
theorem kindD_ty {H : Hp} {M : Mem} {v : V} {d : D} {n : String} (m : RM K H M) (r : Rep K H v d) (e : kindD M d = some n) : TyX K H v (.type n) := by
  cases r with
  | non => cases e; exact .base .non
  | bl b => cases e; exact .base (.bl b)
  | int i => cases e; exact .base (.int i)
  | str x => cases e; exact .base (.str x)
  | ty n => cases e
  | tup h r =>
    cases e
    rcases h with (h | ⟨o, h⟩) | ⟨o, its, n, hk, hc, _⟩
    · exact .base (.tup h)
    · exact .fTuple h
    · exact .kTuple hk hc
  | kl h r =>
    cases e
    rcases h with ⟨o, h⟩ | ⟨o, its, n, hk, hc, _⟩
    · exact .base (.frz h)
    · exact .kList hk hc
  | ref a =>
    have e' : (match M a with
      | some (.lst _) => some "list"
      | some (.dK _) => some "dict"
      | some (.dT _) => some "dict"
      | _ => none) = some n := e
    split at e'
    · rename_i q
      cases e'
      obtain ⟨xs, h, _⟩ := m _ _ q
      exact .base (.lst h)
    · rename_i q
      cases e'
      obtain ⟨xs, h, _⟩ := m _ _ q
      exact .base (.dK h)
    · rename_i q
      cases e'
      obtain ⟨xs, h, _⟩ := m _ _ q
      exact .base (.dT h)
    · cases e'
def kinds : List String := ["NoneType", "bool", "int", "str", "tuple", "list", "dict"]
def isiB (a b : String) : Bool := decide (a = b) || (decide (a = "bool") && decide (b = "int"))
theorem isiB_kit : ∀ a ∈ kinds, ∀ b ∈ kinds, kitB a b = some (isiB a b) := by decide +kernel
def isiD (M : Mem) (d : D) (T : String) : Option Bool := match kindD M d with
  | some n => if n ∈ kinds ∧ T ∈ kinds then some (isiB n T) else none
  | none => none
def isiAny (M : Mem) (d : D) : List D → Option Bool
  | [] => (kindD M d).map fun _ => false
  | .ty T :: r => match isiD M d T, isiAny M d r with
    | some a, some b => some (a || b)
    | _, _ => none
  | _ => none
def pIsi : DRL := fun ds M Q => match ds with
  | [x, .ty T] => optQ (isiD M x T) fun b => Q (.bl b) M
  | [x, .tup cs] => optQ (isiAny M x cs) fun b => Q (.bl b) M
  | _ => False
theorem pIsi_mono : MonoRL pIsi := ⟨fun {ds M Q Q'} h q => by
  unfold pIsi at q ⊢
  split at q
  · exact optQ_mono (fun _ q => h _ _ q) q
  · exact optQ_mono (fun _ q => h _ _ q) q
  · exact q.elim⟩
/-- isinstance(x, t), t a tuple of classes wherever it stands -/
def rIsiS (K : PySem.W.Frag) : List V → Hp → VK → Prop := fun xs H Q => ∃ (x : V) (tp : Addr) (cs : List V) (t : Value) (us : List Value) (b : Bool), xs = [x, .ref tp] ∧ SqT K H tp cs ∧ Paired ClsV cs us ∧ TyX K H x t ∧ PySem.W.kitAny K t us = some b ∧ Q (.bl b) H
theorem call_isiS : CallR X (.builtin "isinstance") (rIsiS X.K) := by
  intro pins s σ H xs us Q I r h
  obtain ⟨x, tp, cs, t, ws, b, rfl, hT, k, ty, e, q⟩ := h
  obtain ⟨u1, u2, rfl, r1, r2⟩ := vals2 r
  cases (show u2 = Value.ref tp from r2)
  obtain ⟨P, Z, p, hx⟩ := kit_of I r1 ty
  obtain ⟨its, rv, ⟨o, h1, h2, n, h3⟩, _⟩ := I.tuple hT
  have e3 := ClsV.all k rv
  subst e3
  obtain ⟨oc, od, dt, sl⟩ := o
  simp only at h2 h3
  subst h2 h3
  exact PySem.W.kia_tup Z I.kIn p h1 e hx fun tk => ⟨.bl b, H, I.tok tk, rfl, q⟩
def rIsiAll (K : PySem.W.Frag) : List V → Hp → VK → Prop := fun xs H Q => rIsi K xs H Q ∨ rIsiS K xs H Q
theorem cr_isi : CallR X (.builtin "isinstance") (rIsiAll X.K) := call_isi.or call_isiS
theorem isiD_to {M : Mem} {d : D} {T : String} {b : Bool} (e : isiD M d T = some b) : ∃ n, kindD M d = some n ∧ kitB n T = some b := by
  unfold isiD at e
  split at e
  · rename_i n q
    split at e
    · rename_i z
      cases e
      exact ⟨n, q, isiB_kit n z.1 T z.2⟩
    · cases e
  · cases e
theorem isiAny_to {H : Hp} {M : Mem} {d : D} {n : String} (q : kindD M d = some n) : ∀ {cs : List D} {b : Bool}, isiAny M d cs = some b → ∀ {vs : List V}, Reps K H vs cs → ∃ us, Paired ClsV vs us ∧ PySem.W.kitAny K (.type n) us = some b
  | [], b, e, _, r => by
    unfold isiAny at e
    rw [q] at e
    cases e; cases r; exact ⟨[], .nil, rfl⟩
  | .ty T :: rest, b, e, _, r => by
    unfold isiAny at e
    split at e
    · rename_i a1 b1 h1 h2
      cases e
      cases r with
      | cons rh rt =>
        cases rh
        obtain ⟨us, hp, hk⟩ := isiAny_to q h2 rt
        obtain ⟨n', q', hb⟩ := isiD_to h1
        rw [q] at q'; cases q'
        refine ⟨.type T :: us, .cons (.ty T) hp, kitAny_cons (b := a1) (kit_ty hb) (fun z => ?_) (fun z => ?_)⟩
        · rw [z, Bool.false_or]; exact hk
        · rw [z, Bool.true_or]
    · cases e
theorem isiAny_some {M : Mem} {d : D} : ∀ {cs : List D} {b : Bool}, isiAny M d cs = some b → ∃ n, kindD M d = some n := fun {cs b} e => by
  cases z : kindD M d with
  | some n => exact ⟨n, rfl⟩
  | none =>
    cases cs with
    | nil => simp [isiAny, z] at e
    | cons c cs => cases c <;> simp [isiAny, isiD, z] at e
theorem cd_isi : CallD K (rIsiAll K) pIsi := ⟨fun {xs ds H M Qd Q} r m q o => by
  unfold pIsi at q
  split at q
  · obtain ⟨v, w, rfl, rv, rw'⟩ := reps2 r
    cases rw'
    obtain ⟨b, e, q⟩ := optQ_to q
    obtain ⟨n, hk, hb⟩ := isiD_to e
    exact .inl ⟨_, _, _, _, b, rfl, .ty _, kindD_ty m rv hk, kit_ty hb, o _ _ _ _ q (Keep.refl H) (.bl b) m⟩
  · obtain ⟨v, w, rfl, rv, rw'⟩ := reps2 r
    cases rw' with
    | tup h rr =>
      obtain ⟨b, e, q⟩ := optQ_to q
      obtain ⟨n, z⟩ := isiAny_some e
      obtain ⟨us, hp, hk⟩ := isiAny_to z e rr
      exact .inr ⟨_, _, _, _, us, b, rfl, h, hp, kindD_ty m rv z, hk, o _ _ _ _ q (Keep.refl H) (.bl b) m⟩
  · exact q.elim, pIsi_mono⟩
end
end DL

namespace DL
open PySem PySem.Spec PyProof.Rows L2

section
variable {X : Cx} {K : PySem.W.Frag}
/-! ### a built-in's methods -/
abbrev DRM := D → List D → Mem → DQ → Prop
structure MonoRM (rd : DRM) : Prop where
  go : ∀ {x : D} {ds : List D} {M : Mem} {Q Q' : DQ}, (∀ d M', Q d M' → Q' d M') → rd x ds M Q → rd x ds M Q'
structure MtD (K : PySem.W.Frag) (T : String) (r : V → List V → Hp → VK → Prop) (rd : DRM) (ty : Mem → D → Prop) : Prop where
  to : ∀ {x : V} {dx : D} {xs : List V} {ds : List D} {H : Hp} {M : Mem} {Qd : DQ} {Q : VK}, Rep K H x dx → Reps K H xs ds → RM K H M → rd dx ds M Qd → Out K H Q Qd → r x xs H Q
  isT : ∀ {x : V} {dx : D} {H : Hp} {M : Mem}, Rep K H x dx → RM K H M → ty M dx → tyV K T x H
  mono : MonoRM rd
def dBM (ty : Mem → D → Prop) (rd : DRM) (to : DTE) (t : DTA) : DTE := fun τ M Q => to τ M fun x M1 => ty M1 x ∧ t τ M1 fun ds M2 => rd x ds M2 Q
theorem dBM_mono {ty : Mem → D → Prop} {rd : DRM} {to : DTE} {t : DTA} (mo : MonoE to) (mt : MonoA t) (mr : MonoRM rd) : MonoE (dBM ty rd to t) := ⟨fun h q => mo.go (fun _ _ q => ⟨q.1, mt.go (fun _ _ q => mr.go h q) q.2⟩) q⟩
variable {o e : Expr} {es : List Expr} {to : DTE} {t : DTA} {name : Str} {apos cpos : Pos} {T id : String} {r : V → List V → Hp → VK → Prop} {rd : DRM} {ty : Mem → D → Prop}
theorem de_bm0 (pa : PlainAttrs T) (slot : Slot T name id) (hty : typeOf (.builtin id) = pure (.type "method_descriptor")) (hm : MtR X id r) (md : MtD X.K T r rd ty) (ho : DE X o to)
    (hbase : attributeBase o name X.env (eval o X.env) = eval o X.env := by rfl) (hline : (apos.endLine == cpos.line) = true := by rfl) : DE X (.Call (.Attribute o name apos) [] [] cpos) (dBM ty rd to dNil) :=
  de_of (pe_bm0 pa slot hty hm ho.pe hbase hline) (dBM_mono ho.mono (da_nil (X := X)).mono md.mono).go fun σ H Q τ M hs hm q =>
    ⟨τ, M, hs, hm, ho.mono.go (fun x M1 q v H1 k r m => ⟨md.isT r m q.1, md.to r .nil m q.2 fun d M' u H' q k2 r2 m2 => q u H' (k.trans k2) r2 m2⟩) q⟩
theorem de_bm (pa : PlainAttrs T) (slot : Slot T name id) (hty : typeOf (.builtin id) = pure (.type "method_descriptor")) (hm : MtR X id r) (md : MtD X.K T r rd ty) (ho : DE X o to) (ha : DA X (e :: es) t)
    (hbase : attributeBase o name X.env (eval o X.env) = eval o X.env := by rfl)
    (hfew : ((backTo cpos (starEach (e :: es) X.env)).all (fun x => !x.1) && (backToKw cpos (keywordEach [] X.env)).all (fun x => x.1.isSome)
      && decide ((e :: es).length + ([] : List Keyword).length + (if ([] : List Keyword).isEmpty then 0 else 1) < 30)) = true := by rfl)
    (hline : (apos.endLine == cpos.line) = true := by rfl) (hs : starEach (e :: es) X.env = (false, eval e X.env) :: starEach es X.env := by rfl) (hplain : (backTo cpos (starEach es X.env)).any (·.1) = false := by rfl) :
    DE X (.Call (.Attribute o name apos) (e :: es) [] cpos) (dBM ty rd to t) :=
  de_of (pe_bm pa slot hty hm ho.pe ha.pa hbase hfew hline hs hplain) (dBM_mono ho.mono ha.mono md.mono).go fun σ H Q τ M hs hm q =>
    ⟨τ, M, hs, hm, ho.mono.go (fun x M1 q v H1 k r m => ⟨md.isT r m q.1, τ, M1, hs.keep k, m, ha.mono.go (fun ds M2 q vs H2 k2 rs m2 => md.to (r.keep k2) rs m2 q fun d M' u H' q k3 r3 m3 => q u H' (k.trans (k2.trans k3)) r3 m3) q.2⟩) q⟩
def tyL (M : Mem) (d : D) : Prop := lsOf M d fun _ _ => True
theorem tyL_is {x : V} {dx : D} {H : Hp} {M : Mem} (r : Rep K H x dx) (m : RM K H M) (h : tyL M dx) : tyV K "list" x H := by
  obtain ⟨a, live, ds, xs, rfl, q, h, rr⟩ := lsOf_at r m h
  exact .inl ⟨rfl, _, h⟩
/-- the list of the store itself -/
def lstAt (M : Mem) (d : D) (Q : Addr → List D → Prop) : Prop := match d with
  | .ref a => match M a with
    | some (.lst ds) => Q a ds
    | _ => False
  | _ => False
theorem lstAt_mono {M : Mem} {d : D} {Q Q' : Addr → List D → Prop} (h : ∀ a ds, Q a ds → Q' a ds) (q : lstAt M d Q) : lstAt M d Q' := by
  unfold lstAt at q ⊢
  split at q
  · split at q
    · exact h _ _ q
    · exact q.elim
  · exact q.elim
theorem lstAt_to {M : Mem} {d : D} {Q : Addr → List D → Prop} (q : lstAt M d Q) : ∃ a ds, d = .ref a ∧ M a = some (.lst ds) ∧ Q a ds := by
  unfold lstAt at q
  split at q
  · split at q
    · rename_i e; exact ⟨_, _, rfl, e, q⟩
    · exact q.elim
  · exact q.elim
def pAppend : DRM := fun x ds M Q => match ds with
  | [y] => lstAt M x fun a xs => xs.length < sizeLine ∧ Q .non (mupd M a (.lst (xs ++ [y])))
  | _ => False
theorem md_append : MtD K "list" rAppend pAppend tyL := ⟨fun {x dx xs ds H M Qd Q} rx rs m q o => by
  unfold pAppend at q
  split at q
  · obtain ⟨a, ds, rfl, e, q⟩ := lstAt_to q
    obtain ⟨v, rfl, rv⟩ := reps1 rs
    cases rx
    obtain ⟨ys, h, rr⟩ := m.lst e
    have km : Keep H (upd H a (.lst (ys ++ [v]))) := Keep.mut (by rw [h]; trivial)
    exact ⟨a, ys, v, rfl, rfl, h, by rw [rr.length]; exact q.1, o _ _ _ _ q.2 km .non (m.write (m := .lst _) (by rw [h]; trivial) ⟨_, rfl, (rr.append (.cons rv .nil)).keep km⟩)⟩
  · exact q.elim, fun r m h => tyL_is r m h, ⟨fun {x ds M Q Q'} h q => by
  unfold pAppend at q ⊢
  split at q
  · exact lstAt_mono (fun _ _ q => ⟨q.1, h _ _ q.2⟩) q
  · exact q.elim⟩⟩
def pExtend : DRM := fun x ds M Q => match ds with
  | [y] => lstAt M x fun a xs => lstAt M y fun _ ys => xs.length + ys.length ≤ sizeLine ∧ Q .non (mupd M a (.lst (xs ++ ys)))
  | _ => False
theorem md_extend : MtD K "list" rExtend pExtend tyL := ⟨fun {x dx xs ds H M Qd Q} rx rs m q o => by
  unfold pExtend at q
  split at q
  · obtain ⟨a, ds, rfl, e, q⟩ := lstAt_to q
    obtain ⟨b, es, rfl, e2, q⟩ := lstAt_to q
    obtain ⟨v, rfl, rv⟩ := reps1 rs
    cases rx; cases rv
    obtain ⟨ys, h, rr⟩ := m.lst e
    obtain ⟨zs, h2, rr2⟩ := m.lst e2
    have km : Keep H (upd H a (.lst (ys ++ zs))) := Keep.mut (by rw [h]; trivial)
    exact ⟨a, b, ys, zs, rfl, rfl, h, h2, by rw [rr.length, rr2.length]; exact q.1, o _ _ _ _ q.2 km .non (m.write (m := .lst _) (by rw [h]; trivial) ⟨_, rfl, (rr.append rr2).keep km⟩)⟩
  · exact q.elim, fun r m h => tyL_is r m h, ⟨fun {x ds M Q Q'} h q => by
  unfold pExtend at q ⊢
  split at q
  · exact lstAt_mono (fun _ _ q => lstAt_mono (fun _ _ q => ⟨q.1, h _ _ q.2⟩) q) q
  · exact q.elim⟩⟩
def pPop : DRM := fun x ds M Q => match ds with
  | [] => lstAt M x fun a xs => optQ xs[xs.length - 1]? fun y => Q y (mupd M a (.lst xs.dropLast))
  | _ => False
theorem md_pop : MtD K "list" rPop pPop tyL := ⟨fun {x dx xs ds H M Qd Q} rx rs m q o => by
  unfold pPop at q
  split at q
  · obtain ⟨a, ds, rfl, e, q⟩ := lstAt_to q
    obtain ⟨y, ey, q⟩ := optQ_to q
    cases rs; cases rx
    obtain ⟨ys, h, rr⟩ := m.lst e
    obtain ⟨v, ev, rv⟩ := rr.get ey
    have km : Keep H (upd H a (.lst ys.dropLast)) := Keep.mut (by rw [h]; trivial)
    exact ⟨a, ys, v, rfl, rfl, h, by rw [rr.length]; exact ev, o _ _ _ _ q km (rv.keep km) (m.write (m := .lst _) (by rw [h]; trivial) ⟨_, rfl, rr.dropLast.keep km⟩)⟩
  · exact q.elim, fun r m h => tyL_is r m h, ⟨fun {x ds M Q Q'} h q => by
  unfold pPop at q ⊢
  split at q
  · exact lstAt_mono (fun _ _ q => optQ_mono (fun _ q => h _ _ q) q) q
  · exact q.elim⟩⟩
/-! ### xs[i] = e, xs[i] op= e -/
def stL (o i d : D) (M : Mem) (Q : Mem → Prop) : Prop := match i with
  | .int k => lstAt M o fun a ds => optQ (ixN ds.length k) fun j => Q (mupd M a (.lst (ds.set j d)))
  | _ => False
theorem stL_mono {o i d : D} {M : Mem} {Q Q' : Mem → Prop} (h : ∀ M, Q M → Q' M) (q : stL o i d M Q) : stL o i d M Q' := by
  unfold stL at q ⊢
  split at q
  · exact lstAt_mono (fun _ _ q => optQ_mono (fun _ q => h _ q) q) q
  · exact q.elim
theorem stL_to {ov iv v : V} {o i d : D} {H : Hp} {M : Mem} {Qd : Mem → Prop} {Q : Hp → Prop} (ro : Rep K H ov o) (ri : Rep K H iv i) (rv : Rep K H v d) (m : RM K H M) (q : stL o i d M Qd)
    (out : ∀ M' H', Qd M' → Keep H H' → RM K H' M' → Q H') : rSetL ov iv v H Q := by
  unfold stL at q
  split at q
  · obtain ⟨a, ds, rfl, e, q⟩ := lstAt_to q
    obtain ⟨j, ej, q⟩ := optQ_to q
    cases ro; cases ri
    obtain ⟨ys, h, rr⟩ := m.lst e
    have km : Keep H (upd H a (.lst (ys.set j v))) := Keep.mut (by rw [h]; trivial)
    exact ⟨a, ys, _, j, rfl, rfl, h, by rw [rr.length]; exact ej, out _ _ q km (m.write (m := .lst _) (by rw [h]; trivial) ⟨_, rfl, (rr.set j rv).keep km⟩)⟩
  · exact q.elim
def gSubL (to ti : DTE) : DTG := fun d τ M Q => to τ M fun o M1 => ti τ M1 fun i M2 => stL o i d M2 fun M3 => Q τ M3
theorem dg_subL {i : Expr} {ti : DTE} {pos : Pos} (ho : DE X o to) (hi : DE X i ti)
    (ha : ∀ v, assign (.Subscript o i pos) X.env v = (do
      let ov ← holding [v] (eval o X.env)
      let iv ← holding [v, ov] (eval i X.env)
      standAt pos
      holding [v, ov, iv] (setItem ov iv v)
      release [v, ov, iv] []) := by intro _; rfl) : DG X (.Subscript o i pos) (gSubL to ti) :=
  dg_of (pg_sub ho.pe hi.pe set_list ha) (fun h q => ho.mono.go (fun _ _ q => hi.mono.go (fun _ _ q => stL_mono (fun _ q => h _ _ q) q) q) q) fun v σ H Q d τ M r a b q =>
    ⟨τ, M, a, b, ho.mono.go (fun o M1 q ov H1 k1 r1 m1 => ⟨τ, M1, a.keep k1, m1, hi.mono.go (fun i M2 q iv H2 k2 r2 m2 => stL_to (r1.keep k2) r2 (r.keep (k1.trans k2)) m2 q fun M' H' q k3 m3 => q σ H' (k1.trans (k2.trans k3)) (a.keep (k1.trans (k2.trans k3))) m3) q⟩) q⟩
/-- xs[i] by values -/
theorem get_list : PGet X (rIxL X.K) := by
  intro pins s σ H x y v u Q I rx ry h
  obtain ⟨p, xs, i, z, rfl, rfl, hq, he, q⟩ := h
  cases rx
  obtain ⟨t, rfl⟩ := ry
  obtain ⟨its, r, pl, hz⟩ := I.list hq
  obtain ⟨j, h1, h2, h3, h4, h5⟩ := atI_get he
  obtain ⟨w, ew, rw'⟩ := r.get h2
  have hl := r.length
  have hn := line63
  have fin : EP X pins σ Q w s := ⟨z, H, I, rw', q⟩
  by_cases h0 : 0 ≤ i
  · have hj : i.toNat = j := by
      rw [seqIndex_of h0 h5] at h1
      exact Option.some.inj h1
    exact wpAny_getItem_list pl.isList h0 (by omega) (by rw [hj]; simpa using ew) fin
  · have hj : (i + (its.toArray.size : Int)).toNat = j := by
      rw [seqIndex_neg (by omega) h4] at h1
      rw [List.size_toArray, ← hl]
      exact Option.some.inj h1
    exact wpAny_getItem_list_neg pl.isList (by omega) (by rw [List.size_toArray] <;> omega) (by omega) (by rw [hj]; simpa using ew) fin
def gtL (o i : D) (M : Mem) (Q : D → Prop) : Prop := match i with
  | .int k => lstAt M o fun _ ds => optQ (atI ds k) fun d => Q d
  | _ => False
def dAugS (to ti te : DTE) (rd : DR2) : DTS := fun E τ M => to τ M fun o M1 => ti τ M1 fun i M2 => gtL o i M2 fun x => te τ M2 fun y M3 => rd x y M3 fun z M4 => stL o i z M4 fun M5 => E.nx τ M5
theorem ds_augS {i : Expr} {ti te : DTE} {op : Operator} {rr : R2} {rdd : DR2} {tpos pos : Pos} (ho : DE X o to) (hi : DE X i ti) (he : DE X e te) (hop : OpR X (inplaceOp op) rr) (od : OpD X.K rr rdd)
    (ha : ∀ ov iv new, augStore i ov iv new = (do holding [new, ov, iv] (setItem ov iv new); release [new, ov, iv] []; pure .next) := by intros; rfl) : DSt X (.AugAssign (.Subscript o i tpos) op e pos) (dAugS to ti te rdd) := by
  refine ds_of (ps_augS (tip := rr) ho.pe hi.pe get_list he.pe (fun pins s σ H x y v u Q I rx ry q => hop pins s σ H x y v u Q I rx ry q) set_list ha) (fun {E E' τ M} h q => ?_) fun D σ H τ M E a b c d => ?_
  · refine ho.mono.go (fun _ _ q => hi.mono.go (fun _ _ q => ?_) q) q
    unfold gtL at q ⊢
    split at q
    · exact lstAt_mono (fun _ _ q => optQ_mono (fun _ q => he.mono.go (fun _ _ q => od.mono.go (fun _ _ q => stL_mono (fun _ q => h.nx _ _ q) q) q) q) q) q
    · exact q.elim
  · refine ⟨τ, M, a, b, ho.mono.go (fun o M1 q ov H1 k1 r1 m1 => ⟨τ, M1, a.keep k1, m1, hi.mono.go (fun i M2 q iv H2 k2 r2 m2 => ?_) q⟩) d⟩
    unfold gtL at q
    split at q
    · obtain ⟨p, ds, rfl, e, q⟩ := lstAt_to q
      obtain ⟨x, ex, q⟩ := optQ_to q
      obtain ⟨xs, hx, rx⟩ := m2.lst e
      obtain ⟨v, ev, rv⟩ := atI_reps rx ex
      cases r1; cases r2
      refine ⟨p, xs, _, v, rfl, rfl, .inl (.inl hx), ev, τ, M2, a.keep (k1.trans k2), m2, he.mono.go (fun y M3 q w H3 k3 r3 m3 => od.to (rv.keep k3) r3 m3 q fun z M4 u H4 q k4 r4 m4 => ?_) q⟩
      exact stL_to (.ref p) (.int _) r4 m4 q fun M' H' q k5 m5 => c.nx _ _ _ _ q (k1.trans (k2.trans (k3.trans (k4.trans k5)))) (a.keep (k1.trans (k2.trans (k3.trans (k4.trans k5))))) m5
    · exact q.elim
end

/-! ### a def keeps its promise -/
def dstart (N : List Str) (ds : List D) : DS := ds.map some ++ List.replicate (N.length - ds.length) none
theorem rs_start {K : PySem.W.Frag} {H : Hp} {N : List Str} {vs : List V} {ds : List D} (r : Reps K H vs ds) : RS K H (L2.start N vs) (dstart N ds) := by
  unfold L2.start dstart
  refine ⟨by simp [r.length], fun i d e => ?_⟩
  by_cases hi : i < ds.length
  · rw [List.getElem?_append_left (by simpa using hi), List.getElem?_map] at e
    cases q : ds[i]? with
    | none => rw [q] at e; cases e
    | some x =>
      rw [q] at e; cases e
      obtain ⟨v, e1, r1⟩ := r.get q
      exact ⟨v, by rw [List.getElem?_append_left (by rw [List.length_map, r.length]; exact hi), List.getElem?_map, e1]; rfl, r1⟩
  · rw [List.getElem?_append_right (by simpa using hi), List.getElem?_replicate] at e
    split at e <;> cases e
/-- what may be forgotten may be forgotten -/
def Clo (Q : DQ) : Prop := ∀ d M1 M2, Sub M1 M2 → Q d M1 → Q d M2
section
variable {P : Program} {w : World} {K : PySem.W.Frag} {mg : Str → Option Value} {base : Heap} {x qual : Str} {params : Arguments} {body : List Stmt} {scope : Scope} {dvs : List V} {kws : List (Str × V)} {f : Addr} {fd : FuncData}
theorem def_ok {N ps : List Str} {k : Nat} {sp : DSp} {b : DTS} (F : FunD K x qual params body scope dvs kws f fd) (S : FnScope N ps scope) (len : ∀ ds M Q, sp ds M Q → ds.length = ps.length)
    (hd : ∀ (cdv : Value) (A : Around) (outer : List Env) (s : Shared) (H : Hp) (E : XK), Room k (A.deeper (envOfC qual scope s.heap.objs.size f cdv)) → DSs (cxOf CX0 P w K mg base N qual scope f cdv A outer s H E).nox body b)
    (hb : ∀ ds M Q, Clo Q → sp ds M Q → b { nx := fun _ M' => Q .non M', rt := Q } (dstart N ds) M) : FnOk P w K mg base CX0 (k + 1) f fd ps (upSp K sp) := by
  refine F.ok S (fun vs H Q E ⟨ds, M, r, m, q⟩ => by rw [r.length]; exact len ds M _ q) fun cdv A outer s H vs Q E hr ⟨ds, M, r, m, q⟩ => ?_
  have dd := hd cdv A outer s H E hr
  refine ⟨_, PSs.nox dd.pss, dstart N ds, M, { nx := fun _ M' => ∀ v H', Keep H H' → Rep K H' v .non → RM K H' M' → Q v H', rt := fun d M' => ∀ v H', Keep H H' → Rep K H' v d → RM K H' M' → Q v H' }, rs_start r, m, ⟨fun τ M' σ H' q k s m' => q _ _ k .non m', fun d M' v H' q k r m' => q v H' k r m', fun _ _ _ _ q => q.elim, fun _ _ _ _ q => q.elim⟩, ?_⟩
  exact hb ds M (fun d M' => ∀ v H', Keep H H' → Rep K H' v d → RM K H' M' → Q v H') (fun d M1 M2 s q v H' k r m => q v H' k r (m.sub s)) q
theorem can_mk {A : Around} {k j : Nat} {sp : DSp} {ps : List Str} {us : List Value} {dvs : List V} {dds : List D} (F : FnOk P w K mg base CX0 k f fd ps (upSp K sp)) (hr : Room j A) (hk : k ≤ j) (hm : mg x = some (.ref f)) (kp : PySem.W.keepIn K (.ref f) = true) (hb : Binds K fd ps us) (hv : Vals dvs us) (hd : ∀ H, Reps K H dvs dds) (mo : MonoSp sp) : Can P w K mg base A x dds sp :=
  ⟨⟨f, fd, ps, k, us, dvs, F, hr.mono hk, hm, kp, hb, hv, hd⟩, mo⟩
end
end DL

namespace DL
open PySem PySem.Spec PyProof.Rows L2

section
variable {X : Cx} {K : PySem.W.Frag}
theorem dv (i : Nat) {x : Str} {pos : Pos} (hN : X.N[i]? = some x := by rfl) (hv : Vis X.env.scope x := by first | exact Or.inl rfl | exact Or.inr (Or.inl rfl) | exact Or.inr (Or.inr rfl)) (hd : (x == ("__debug__" : Str)) = false := by decide)
    (hcd : (x == ("__classdict__" : Str)) = false := by decide) : DE X (.Name x pos) (dVar i) := de_var hN hv hd hcd
theorem hu1 {A : Around} (hu : A.units + 64 < cLine) : A.units + 1 < cLine := by omega

/-! ### for x in a list, a tuple, a text -/
def iSeqD (te : DTE) : DTI := fun τ M Q => te τ M fun d M1 => match d with
  | .tup ds => Q ⟨ds, fun _ => True⟩ M1
  | .str x => Q ⟨strD x, fun _ => True⟩ M1
  | d => lsOf M1 d fun live ds => Q ⟨ds, live⟩ M1
def iAny (K : PySem.W.Frag) (tl : TE) : TI := fun σ H R => tl σ H fun x H1 => (∃ a, x = .ref a ∧ (((∃ xs, SqL K H1 a xs) ∧ R (Itl K a) H1) ∨ ((∃ xs, SqT K H1 a xs) ∧ R (Itt K a) H1))) ∨ ∃ z, x = .str z ∧ R (Its z) H1
variable {tg e : Expr} {te : DTE}
theorem pi_any {tl : TE} (hl : PE X e tl) : PI X tg e (iAny X.K tl) := by
  refine ⟨fun pins s σ H R I h => ?_⟩
  refine thn (hl.run pins s σ H _ I h) fun v s1 ⟨x, H1, I1, r1, q1⟩ => ?_
  rcases q1 with ⟨a, e, ⟨⟨xs, hq⟩, q⟩ | ⟨⟨xs, hq⟩, q⟩⟩ | ⟨z, e, q⟩
  · subst e
    cases r1
    obtain ⟨its, rv, p, hz⟩ := I1.list hq
    refine wpAny_pyIter_list p.isList ?_
    refine ⟨s1.heap.objs.size, [s1.heap.objs.size], _, _, H1, rfl, I1.kept (t' := s1.toks) fun b o e => Heap.get?_push_of_some _ e, turn_list a _, ⟨_, Heap.get?_push_size _ rfl, rfl, rfl⟩, fun b hb => ?_, q⟩
    have e : b = s1.heap.objs.size := by simpa using hb
    subst e
    exact I1.fpOk (Nat.le_refl _) (I1.hok.fresh (Nat.le_refl _))
  · subst e
    cases r1
    obtain ⟨its, rv, p, hz⟩ := I1.tuple hq
    refine wpAny_pyIter_tuple (show s1.heap.IsTuple a its.toArray from p) ?_
    refine ⟨s1.heap.objs.size, [s1.heap.objs.size], _, _, H1, rfl, I1.kept (t' := s1.toks) fun b o e => Heap.get?_push_of_some _ e, turn_tuple a _, ⟨_, Heap.get?_push_size _ rfl, rfl, rfl⟩, fun b hb => ?_, q⟩
    have e : b = s1.heap.objs.size := by simpa using hb
    subst e
    exact I1.fpOk (Nat.le_refl _) (I1.hok.fresh (Nat.le_refl _))
  · subst e
    obtain ⟨t, rfl⟩ := r1
    cases ha : z.cps.all (· < 128)
    · exact wpAny_pyIter_wide ha (pi_one (tk := s1.toks) I1 _ (turn_str _ z t "str_iterator" (.inr rfl)) ⟨_, Heap.get?_push_size _ rfl, rfl, rfl⟩ q)
    · exact wpAny_pyIter_ascii ha (pi_one (tk := s1.toks) I1 _ (turn_str _ z t "str_ascii_iterator" (.inl rfl)) ⟨_, Heap.get?_push_size _ rfl, rfl, rfl⟩ q)
theorem di_seq (he : DE X e te) : DI X tg e (iSeqD te) := by
  refine di_of (pi_any he.pe) (fun h q => he.mono.go (fun d M1 q => ?_) q) fun σ H R τ M hs hm q => ?_
  · split at q
    · exact h _ _ q
    · exact h _ _ q
    · exact lsOf_mono (fun _ _ q => h _ _ q) q
  · refine ⟨τ, M, hs, hm, he.mono.go (fun d M1 q v H1 k r m => ?_) q⟩
    split at q
    · cases r with
      | tup h rr => exact .inl ⟨_, rfl, .inr ⟨⟨_, h⟩, q _ _ k m (itr_tup h rr)⟩⟩
    · cases r
      exact .inr ⟨_, rfl, q _ _ k m itr_str⟩
    · obtain ⟨a, live, ds, rfl, q, l, f⟩ := lsOf_to r m q
      obtain ⟨xs, h, _⟩ := f H1 M1 (Keep.refl _) m l
      exact .inl ⟨a, rfl, .inl ⟨⟨xs, h⟩, q _ _ k m (itr_lst f)⟩⟩
/-! ### enumerate -/
def enumFrom (i : Nat) : List D → List D
  | [] => []
  | d :: r => .tup [.int (i : Nat), d] :: enumFrom (i + 1) r
theorem enumFrom_get : ∀ (ds : List D) (j i : Nat) (d : D), (enumFrom j ds)[i]? = some d → ∃ x, ds[i]? = some x ∧ d = .tup [.int ((j + i : Nat) : Int), x]
  | [], _, _, _, e => by simp [enumFrom] at e
  | x :: r, j, 0, d, e => by simp [enumFrom] at e; exact ⟨x, rfl, by simp [← e]⟩
  | x :: r, j, i + 1, d, e => by
    obtain ⟨y, h1, h2⟩ := enumFrom_get r (j + 1) i d (by simpa [enumFrom] using e)
    exact ⟨y, by simpa using h1, by rw [h2, show j + 1 + i = j + (i + 1) by omega]⟩
theorem enumFrom_len : ∀ (ds : List D) (j : Nat), (enumFrom j ds).length = ds.length
  | [], _ => rfl
  | _ :: r, j => congrArg (· + 1) (enumFrom_len r (j + 1))
theorem enumFrom_none : ∀ (ds : List D) (j i : Nat), ds.length ≤ i → (enumFrom j ds)[i]? = none := fun ds j i h => List.getElem?_eq_none (by rw [enumFrom_len]; exact h)
def IteT (K : PySem.W.Frag) (a : Addr) : It :=
  ⟨fun i H => ∃ (xs : List V) (x : V), SqT K H a xs ∧ xs[i]? = some x, fun i H v H' => ∃ T x, v = .ref T ∧ H T = none ∧ H' = upd H T (.tup [.int (i : Nat), x]) ∧ ∀ xs, SqT K H a xs → xs[i]? = some x, fun i H => ∃ xs : List V, SqT K H a xs ∧ xs.length ≤ i⟩
theorem wpAny_in1_frz {A : Around} (h : A.handled = none) : A.in1.handled = none := h
theorem turn_enumT {P : Program} {w : World} {K : PySem.W.Frag} {elts : List Expr} {kk : Nat} {tpos : Pos} (a e it : Addr) (hai : a ≠ it) (hae : a ≠ e) :
    Turn P w K (.Tuple elts kk tpos) (IteT K a) [e, it] e (fun i h => (∃ old, IsEnum h e it ((i : Nat) : Int) old) ∧ h.IsTupleIter it a i ∧ e ≠ it) where
  mem := by simp
  obj := fun i h st b hb => by
    obtain ⟨⟨old, he⟩, ⟨o, ho, hc, hd⟩, _⟩ := st
    have e' : b = e ∨ b = it := by simpa using hb
    rcases e' with z | z
    · rw [z]; exact ⟨_, he, fun v q => nomatch q⟩
    · rw [z]; exact ⟨o, ho, fun v q => by rw [hd] at q; cases q⟩
  keep := fun i h h' st k => let ⟨⟨old, he⟩, hi, hne⟩ := st; ⟨⟨old, k e (by simp) _ he⟩, hi.at fun o q => k it (by simp) o q, hne⟩
  item := by
    intro X hP hw hK hc i pins s σ H E I hf st hg
    subst hP hw hK
    obtain ⟨⟨old, he⟩, hit, hne⟩ := st
    obtain ⟨xs, x, hq, hx⟩ := hg
    obtain ⟨its, rv, p, hz⟩ := I.tuple hq
    obtain ⟨u, hu, ru⟩ := rv.get hx
    have hel : e < s.heap.objs.size := Heap.lt_size he
    have hil : it < s.heap.objs.size := by obtain ⟨_, q, _⟩ := hit; exact Heap.lt_size q
    have D := Draws.tuple (prog := X.prog) (w := X.w) (A := X.A.in1) (I.ok.hd hc) it a hai its.toArray
    have hlt : i < its.toArray.size := by
      have := (List.getElem?_eq_some_iff.mp hu).1
      simpa using this
    refine wpAny_pyNext_enum_itemD D he ⟨hit, show s.heap.IsTuple a its.toArray from p⟩ hlt hne (by simp; exact ⟨hne, fun z => hae z.symm⟩) fun x' h' tk hx' ho hit' hT hsz hk => ?_
    have ex : x' = u := by
      have h1 : its.toArray[i]? = some x' := hx'
      have h2 : its.toArray[i]? = some u := by simpa using hu
      rw [h1] at h2; exact Option.some.inj h2
    subst ex
    refine ⟨_, rfl, wpAny_letOwnedTupleGo_enum (s := { s with heap := h', toks := tk + 1 }) ho fun h'' he' sb => ?_⟩
    have hT2 : h''.get? s.heap.objs.size = some { cls := .type "tuple", data := .seq #[.int i tk, x'] } := (sb.2 _ (Nat.ne_of_gt hel)).trans hT
    have new : ObjOk X.prog X.w (upd H s.heap.objs.size (.tup [.int (i : Nat), x])) h'' s.heap.objs.size (.tup [.int (i : Nat), x]) :=
      ⟨by show 2 ≤ sizeLine; decide, [.int i tk, x'], .cons ⟨_, rfl⟩ (.cons ru .nil), ⟨_, hT2, rfl, _, rfl⟩⟩
    have I1 : Inv X pins σ (upd H s.heap.objs.size (.tup [.int (i : Nat), x])) { s with heap := h'', toks := tk + 1 } :=
      I.turnedNew (ch := [e, it]) (fun b ob hb q => (sb.2 b (fun z => hb (by simp [z]))).trans (hk b ob (fun z => hb (by simp [z])) (fun z => hb (by simp [z])) q)) hf (Nat.le_refl _) new
    refine ⟨.ref s.heap.objs.size, _, I1, rfl, ⟨_, x, rfl, I.hok.fresh (Nat.le_refl _), rfl, fun ys hy => by rw [I.tuple_inj hy hq]; exact hx⟩, ⟨⟨x', ?_⟩, hit'.1.at fun o q => (sb.2 it (Ne.symm hne)).trans q, hne⟩, fun b hb => ?_⟩
    · have e1 : ((i + 1 : Nat) : Int) = (i : Int) + 1 := by omega
      rw [e1]; exact he'
    · have hb' : b < s.heap.objs.size := by
        have e' : b = e ∨ b = it := by simpa using hb
        rcases e' with z | z
        · rw [z]; exact hel
        · rw [z]; exact hil
      rw [upd_ne (Nat.ne_of_lt hb')]
      exact (hf b hb).1
  done := by
    intro X hP hw hK hc i pins s σ H E I hf st hg
    subst hP hw hK
    obtain ⟨⟨old, he⟩, hit, hne⟩ := st
    obtain ⟨xs, hq, hx⟩ := hg
    obtain ⟨its, rv, p, hz⟩ := I.tuple hq
    obtain ⟨f0, f1, f2, f3, f4, f5⟩ := hf it (by simp)
    have hl := rv.length
    have hT : s.TypeIs (.ref e) "enumerate" := ⟨_, he, rfl⟩
    unfold pyNext
    refine wpAny_bind (wpAny_attempt (wpAny_callSpecial?_slot (name := Str.ofString "__next__") hT F.slot_enumerate_next
      (wpAny_call_entry F.slot_enumerate_next hT F.entry_enumerate_next ?_ (F.args_enumerate_next_1 _))))
    show wpAny _ _ (PySem.field (.ref e) 2 >>= _) _ _ _
    refine wpAny_bind (wpAny_field he rfl (x := .ref it) rfl ?_)
    refine wpAny_bind (wpAny_nextOf_tuple_end (I.ok.hd hc) hit (show s.heap.IsTuple a its.toArray from p) (by simp; omega) fun h' x he' hx' => ?_)
    obtain ⟨o, ho, hcx⟩ := hx'
    refine wpAny_bind (wpAny_isInstance (T := "StopIteration") (b := true) ⟨o, ho, hcx⟩ isSubtype_stop ?_)
    exact wpAny_pure ⟨rfl, I.turned (t' := s.toks) (fun b o hb q => he' b o hb q) f0 f1 f3 f4 f5⟩
  self := fun A i s Q E st h => let ⟨⟨_, he⟩, _⟩ := st; wpAny_pyIter_enum he h
end
theorem meets_enumerate_newB1 {v : Value} {o : Obj} {H : Heap → Prop} (B : Begins v o H) :
    Meets (Builtin.«enumerate.__new__» ⟨[.type "enumerate", v], []⟩) (fun _ R s => H s.heap ∧
      R (.ok (.ret (.ref (s.heap.push o).objs.size))) { s with heap := (s.heap.push o).push { cls := .type "enumerate", data := .fields #[.none, .bool false, .ref s.heap.objs.size, rawInt 0, .none, .none] } }) :=
  .of_wp fun prog w A R s h => by
    obtain ⟨hp, g, d, tk, os⟩ := s; obtain ⟨h1, h⟩ := h
    have hsub := sub_enumerate
    have q1 : ∀ {A' : Around} {E : Value → Shared → Prop} {Q : Value → Shared → Prop}, Q (.ref hp.objs.size) ⟨hp.push o, g, d, tk, os⟩ → wpAny (model prog w) A' (pyIter v) Q E ⟨hp, g, d, tk, os⟩ :=
      fun q => B.iter prog w _ _ ⟨hp, g, d, tk, os⟩ _ h1 q
    wp_walk using q1
    refine wpAny_stack_any fun st => wpAny_pure ?_
    split
    · rename_i c _ _ _ _ _
      cases (c == Value.type "enumerate")
      · wp_walk using q1
        exact ⟨_, rfl, h⟩
      · wp_walk using q1
        exact ⟨_, rfl, h⟩
    · wp_walk using q1
      exact ⟨_, rfl, h⟩
section
variable {X : Cx} {K : PySem.W.Frag} {tg e : Expr} {te : DTE}
theorem enum_begins1 {prog : Program} {w : World} {A : Around} {E : Value → Shared → Prop} {s : Shared} {v : Value} {o : Obj} {H : Heap → Prop} {Q : Value → Shared → Prop} (B : Begins v o H) (h1 : H s.heap)
    (h : ∀ h', IsEnum h' (s.heap.objs.size + 1) s.heap.objs.size 0 .none → h'.get? s.heap.objs.size = some o → h'.objs.size = s.heap.objs.size + 2 →
      (∀ b o, s.heap.get? b = some o → h'.get? b = some o) → Q (.ref (s.heap.objs.size + 1)) { s with heap := h' }) :
    wpAny (model prog w) A (call (.type "enumerate") [v]) Q E s := by
  refine callType_new F.called_enumerate (by decide) (F.typeCall_enumerate_1 _) (F.newCall_enumerate_1 _) (fun obj => F.args_object_init_2 obj _) F.entry_enumerate_new
    (meets_enumerate_newB1 B) ⟨h1, ?_⟩
  have hz : (s.heap.push o).objs.size = s.heap.objs.size + 1 := Heap.size_push ..
  show _ ∧ _
  rw [hz]
  have he : IsEnum ((s.heap.push o).push { cls := .type "enumerate", data := .fields #[.none, .bool false, .ref s.heap.objs.size, rawInt 0, .none, .none] }) (s.heap.objs.size + 1) s.heap.objs.size 0 .none := by
    have := Heap.get?_push_size (s.heap.push o) (o := { cls := .type "enumerate", data := .fields #[.none, .bool false, .ref s.heap.objs.size, rawInt 0, .none, .none] }) rfl
    rw [hz] at this; exact this
  refine ⟨⟨_, he, rfl⟩, h _ he (Heap.get?_push_of_some _ (Heap.get?_push_size _ B.free)) (by rw [Heap.size_push, hz]) fun b o x => Heap.get?_push_of_some _ (Heap.get?_push_of_some _ x)⟩
def iEnumA (K : PySem.W.Frag) (ta : TA) : TI := fun σ H R => ta σ H fun vs H1 => ∃ a, vs = [.ref a] ∧ (((∃ xs, SqL K H1 a xs) ∧ R (Ite K a) H1) ∨ ((∃ xs, SqT K H1 a xs) ∧ R (IteT K a) H1))
theorem pi_enumA {ta : TA} {p pos tpos : Pos} {elts : List Expr} {kk : Nat} (hg : Gl X "enumerate") (hm : X.mg "enumerate" = none) (ha : PA X [e] ta) (hs : starEach [e] X.env = [(false, eval e X.env)] := by rfl) :
    PI X (.Tuple elts kk tpos) (.Call (.Name "enumerate" p) [e] [] pos) (iEnumA X.K ta) := by
  refine ⟨fun pins s σ H R I h => ?_⟩
  refine Call_ (ld_blt I hg hm boot_enumerate (PyProof.Rows.callWith_type1 (thn (ha.run pos pins s σ H _ I h) fun us s1 ⟨vs, H1, I1, r1, q1⟩ => ?_) hs rfl))
  obtain ⟨a, ex, q1⟩ := q1
  subst ex
  cases r1 with
  | cons r rr =>
    cases rr
    cases r
    have fin : ∀ b, b ∈ [s1.heap.objs.size + 1, s1.heap.objs.size] → FpOk X pins H1 b := fun b hb => by
      have e' : b = s1.heap.objs.size + 1 ∨ b = s1.heap.objs.size := by simpa using hb
      have hle : s1.heap.objs.size ≤ b := by
        rcases e' with z | z
        · rw [z]; exact Nat.le_add_right _ _
        · rw [z]; exact Nat.le_refl _
      exact I1.fpOk hle (I1.hok.fresh hle)
    rcases q1 with ⟨⟨xs, hq⟩, q⟩ | ⟨⟨xs, hq⟩, q⟩
    · obtain ⟨its, rv, p', hz⟩ := I1.list hq
      refine call_enumerate_list p'.isList fun h' he hit hsz hk => wpAny_pyIter_enum he ?_
      have I2 : Inv X pins σ H1 { s1 with heap := h' } := I1.kept (t' := s1.toks) hk
      exact ⟨s1.heap.objs.size + 1, [s1.heap.objs.size + 1, s1.heap.objs.size], _, _, H1, rfl, I2, turn_enum a (s1.heap.objs.size + 1) s1.heap.objs.size, ⟨⟨.none, he⟩, hit, Nat.succ_ne_self _⟩, fin, q⟩
    · obtain ⟨its, rv, p', hz⟩ := I1.tuple hq
      have la : a < s1.heap.objs.size := p'.lt
      refine enum_begins1 (begins_tuple a its.toArray) (show s1.heap.IsTuple a its.toArray from p') fun h' he hit hsz hk => wpAny_pyIter_enum he ?_
      have I2 : Inv X pins σ H1 { s1 with heap := h' } := I1.kept (t' := s1.toks) hk
      exact ⟨s1.heap.objs.size + 1, [s1.heap.objs.size + 1, s1.heap.objs.size], _, _, H1, rfl, I2, turn_enumT a (s1.heap.objs.size + 1) s1.heap.objs.size (Nat.ne_of_lt la) (Nat.ne_of_lt (Nat.lt_succ_of_lt la)), ⟨⟨.none, he⟩, ⟨_, hit, rfl, rfl⟩, Nat.succ_ne_self _⟩, fin, q⟩
def iEnumD (te : DTE) : DTI := fun τ M Q => te τ M fun d M1 => match d with
  | .tup ds => Q ⟨enumFrom 0 ds, fun _ => True⟩ M1
  | d => lsOf M1 d fun live ds => Q ⟨enumFrom 0 ds, live⟩ M1
theorem itr_enumL {H : Hp} {a : Addr} {live : Mem → Prop} {ds : List D} (f : ∀ H' M', Keep H H' → RM K H' M' → live M' → ∃ xs, SqL K H' a xs ∧ Reps K H' xs ds) : ItR K H (Ite K a) ⟨enumFrom 0 ds, live⟩ where
  go := fun i d H' M k m l e => let ⟨xs, h, r⟩ := f H' M k m l; let ⟨y, e2, _⟩ := enumFrom_get ds 0 i d e; let ⟨v, e1, _⟩ := r.get e2; ⟨xs, v, h, e1⟩
  yld := fun i d H' M x H2 k m l e y => by
    obtain ⟨T, z, rfl, hT, rfl, y⟩ := y
    obtain ⟨xs, h, r⟩ := f _ M k m l
    obtain ⟨d', e2, rfl⟩ := enumFrom_get ds 0 i d e
    obtain ⟨v, e1, rv⟩ := r.get e2
    have := y xs h
    rw [e1] at this; cases this
    rw [Nat.zero_add]
    exact ⟨Keep.new hT, .tup (SqT.of upd_same) (.cons (.int _) (.cons (rv.keep (Keep.new hT)) .nil)), m.fresh hT⟩
  stop := fun i H' M k m l q => let ⟨xs, h, r⟩ := f H' M k m l; ⟨xs, h, by rw [r.length]; have q' : (enumFrom 0 ds).length ≤ i := q; rwa [enumFrom_len] at q'⟩
theorem itr_enumT {H : Hp} {a : Addr} {xs : List V} {ds : List D} (h : SqT K H a xs) (r : Reps K H xs ds) : ItR K H (IteT K a) ⟨enumFrom 0 ds, fun _ => True⟩ where
  go := fun i d H' M k m l e => let ⟨y, e2, _⟩ := enumFrom_get ds 0 i d e; let ⟨v, e1, _⟩ := r.get e2; ⟨xs, v, SqT.keep k h, e1⟩
  yld := fun i d H' M x H2 k m l e y => by
    obtain ⟨T, z, rfl, hT, rfl, y⟩ := y
    obtain ⟨d', e2, rfl⟩ := enumFrom_get ds 0 i d e
    obtain ⟨v, e1, rv⟩ := r.get e2
    have := y xs (SqT.keep k h)
    rw [e1] at this; cases this
    rw [Nat.zero_add]
    exact ⟨Keep.new hT, .tup (SqT.of upd_same) (.cons (.int _) (.cons (rv.keep (k.trans (Keep.new hT))) .nil)), m.fresh hT⟩
  stop := fun i H' M k m l q => ⟨xs, SqT.keep k h, by rw [r.length]; have q' : (enumFrom 0 ds).length ≤ i := q; rwa [enumFrom_len] at q'⟩
theorem di_enum {p pos tpos : Pos} {elts : List Expr} {kk : Nat} (hg : Gl X "enumerate") (hm : X.mg "enumerate" = none) (he : DE X e te) (hst : starEach [e] X.env = (false, eval e X.env) :: starEach [] X.env := by rfl) (hs : starEach [e] X.env = [(false, eval e X.env)] := by rfl) :
    DI X (.Tuple elts kk tpos) (.Call (.Name "enumerate" p) [e] [] pos) (iEnumD te) := by
  refine di_of (pi_enumA hg hm (da_cons he da_nil hst).pa hs) (fun h q => he.mono.go (fun d M1 q => ?_) q) fun σ H R τ M hs hm q => ?_
  · split at q
    · exact h _ _ q
    · exact lsOf_mono (fun _ _ q => h _ _ q) q
  · refine ⟨τ, M, hs, hm, he.mono.go (fun d M1 q vs H1 k rs m => ?_) q⟩
    obtain ⟨v, rfl, r⟩ := reps1 rs
    split at q
    · cases r with
      | tup h rr => exact ⟨_, rfl, .inr ⟨⟨_, h⟩, q _ _ k m (itr_enumT h rr)⟩⟩
    · obtain ⟨a, live, ds, rfl, q, l, f⟩ := lsOf_to r m q
      obtain ⟨xs, h, _⟩ := f H1 M1 (Keep.refl _) m l
      exact ⟨a, rfl, .inl ⟨⟨xs, h⟩, q _ _ k m (itr_enumL f)⟩⟩
end
end DL

namespace DL
open PySem PySem.Spec PyProof.Rows L2

section
variable {X : Cx} {K : PySem.W.Frag} {a b c : Expr} {pos : Pos}
theorem ds_par3 {i j l : Nat} {x y z : Str} {ta : DTA} {px py pz pt : Pos} {kt k2 pt2} (hc : X.calm = true) (hN : X.N.Nodup) (hi : X.N[i]? = some x) (hj : X.N[j]? = some y) (hl : X.N[l]? = some z) (hij : i ≠ j) (hil : i ≠ l) (hjl : j ≠ l)
    (hx : X.env.scope.names.lookup x = some .local) (hy : X.env.scope.names.lookup y = some .local) (hz : X.env.scope.names.lookup z = some .local) (ha : DA X [a, b, c] ta)
    (hw : swappedStores [.Tuple [.Name x px, .Name y py, .Name z pz] kt pt] (.Tuple [a, b, c] k2 pt2) X.env = pure (some [x, y, z]))
    (hs : swapsWithSole [.Tuple [.Name x px, .Name y py, .Name z pz] kt pt] (.Tuple [a, b, c] k2 pt2) pos.line X.env = pure false := by rfl) :
    DSt X (.Assign [.Tuple [.Name x px, .Name y py, .Name z pz] kt pt] (.Tuple [a, b, c] k2 pt2) pos) (dPar3 i j l ta) := by
  refine ds_of (ps_par3 hc hN hi hj hl hij hil hjl hx hy hz ha.pa hw hs) (fun h q => ha.mono.go (fun ds M1 q => ?_) q) fun D σ H τ M E a b c d => ?_
  · split at q
    · exact h.nx _ _ q
    · exact q.elim
  · refine ⟨τ, M, a, b, ha.mono.go (fun ds M1 q vs H1 k r m1 => ?_) d⟩
    split at q
    · cases r with
      | cons r1 r =>
        cases r with
        | cons r2 r =>
          cases r with
          | cons r3 r =>
            cases r
            rw [dset_eq, dset_eq, dset_eq] at q
            exact ⟨_, _, _, rfl, c.nx _ _ _ _ q k ((((a.keep k).set i r1).set j r2).set l r3) m1⟩
    · exact q.elim
/-! ### calls with keywords -/
/-- positional values and keywords' values in the parameters' sequence -/
def gK {α : Type} (n m : Nat) (pm : List (Nat × Nat)) (us ws : List α) : List α := if us.length = n ∧ ws.length = m then pm.filterMap fun p => if p.1 = 0 then us[p.2]? else ws[p.2]? else []
theorem gK_vals {n m : Nat} {pm : List (Nat × Nat)} {vs : List V} {us : List Value} {zs : List V} {ws : List Value} (r : Vals vs us) (q : Vals zs ws) : Vals (gK n m pm vs zs) (gK n m pm us ws) := by
  unfold gK
  rw [r.length, q.length]
  split
  · induction pm with
    | nil => exact .nil
    | cons p pm ih =>
      rw [List.filterMap_cons, List.filterMap_cons]
      have key : ∀ {l : List V} {l' : List Value} (i : Nat), Vals l l' → (∃ x u, l[i]? = some x ∧ l'[i]? = some u ∧ RelV x u) ∨ (l[i]? = none ∧ l'[i]? = none) := fun {l l'} i h => by
        cases e : l[i]? with
        | some x => obtain ⟨u, h1, h2⟩ := h.get e; exact .inl ⟨x, u, rfl, h1, h2⟩
        | none => exact .inr ⟨rfl, h.none_of e⟩
      by_cases hp : p.1 = 0
      · rw [if_pos hp, if_pos hp]
        rcases key p.2 r with ⟨x, u, e1, e2, h⟩ | ⟨e1, e2⟩
        · rw [e1, e2]; exact .cons h ih
        · rw [e1, e2]; exact ih
      · rw [if_neg hp, if_neg hp]
        rcases key p.2 q with ⟨x, u, e1, e2, h⟩ | ⟨e1, e2⟩
        · rw [e1, e2]; exact .cons h ih
        · rw [e1, e2]; exact ih
  · exact .nil
theorem gK_reps {H : Hp} {n m : Nat} {pm : List (Nat × Nat)} {vs : List V} {us : List D} {zs : List V} {ws : List D} (r : Reps K H vs us) (q : Reps K H zs ws) : Reps K H (gK n m pm vs zs) (gK n m pm us ws) := by
  unfold gK
  rw [r.length, q.length]
  split
  · induction pm with
    | nil => exact .nil
    | cons p pm ih =>
      rw [List.filterMap_cons, List.filterMap_cons]
      have key : ∀ {l : List V} {l' : List D} (i : Nat), Reps K H l l' → (∃ x u, l[i]? = some x ∧ l'[i]? = some u ∧ Rep K H x u) ∨ (l[i]? = none ∧ l'[i]? = none) := fun {l l'} i h => by
        cases e : l[i]? with
        | some x => obtain ⟨u, h1, h2⟩ := h.get' e; exact .inl ⟨x, u, rfl, h1, h2⟩
        | none =>
          refine .inr ⟨rfl, ?_⟩
          have := List.getElem?_eq_none_iff.mp e
          exact List.getElem?_eq_none (by rw [← h.length]; exact this)
      by_cases hp : p.1 = 0
      · rw [if_pos hp, if_pos hp]
        rcases key p.2 r with ⟨x, u, e1, e2, h⟩ | ⟨e1, e2⟩
        · rw [e1, e2]; exact .cons h ih
        · rw [e1, e2]; exact ih
      · rw [if_neg hp, if_neg hp]
        rcases key p.2 q with ⟨x, u, e1, e2, h⟩ | ⟨e1, e2⟩
        · rw [e1, e2]; exact .cons h ih
        · rw [e1, e2]; exact ih
  · exact .nil
structure DKw (X : Cx) (kws : List Keyword) (t : DTA) : Prop where
  pk : PK X kws (upA X.K t)
  mono : MonoA t
variable {e : Expr} {es : List Expr} {kws : List Keyword} {te : DTE} {t tk : DTA} {nm : Option Str} {kpos p : Pos} {x : Str}
theorem dk_nil : DKw X [] dNil := ⟨⟨fun pos pins s σ H Q I ⟨τ, M, a, b, q⟩ => pk_nil.run pos pins s σ H Q I (q [] H (Keep.refl H) .nil b)⟩, (da_nil (X := X)).mono⟩
theorem dk_cons (ha : DE X e te) (hr : DKw X kws t) : DKw X (⟨nm, e, kpos⟩ :: kws) (dCons te t) :=
  ⟨⟨fun pos pins s σ H Q I ⟨τ, M, hs, hm, q⟩ => (pk_cons ha.pe hr.pk).run pos pins s σ H Q I
    ⟨τ, M, hs, hm, ha.mono.go (fun d M1 q v H1 k1 r1 m1 => ⟨τ, M1, hs.keep k1, m1, hr.mono.go (fun ds M2 q vs H2 k2 r2 m2 => q (v :: vs) H2 (k1.trans k2) (.cons (r1.keep k2) r2) m2) q⟩) q⟩⟩,
   ⟨fun h q => ha.mono.go (fun _ _ q => hr.mono.go (fun _ _ q => h _ _ q) q) q⟩⟩
structure CanK (P : Program) (w : World) (K : PySem.W.Frag) (mg : Str → Option Value) (base : Heap) (A : Around) (x : Str) (n : Nat) (ks : List Str) (pm : List (Nat × Nat)) (sp : DSp) : Prop where
  ex : ∃ (f : Addr) (fd : FuncData) (ps : List Str) (k : Nat), FnOk P w K mg base CX0 k f fd ps (upSp K sp) ∧ Room k A ∧ mg x = some (.ref f) ∧ PySem.W.keepIn K (.ref f) = true ∧ KBinds K fd ps ks (gK n ks.length pm) (gK n ks.length pm)
  mono : MonoSp sp
def dCallK (sp : DSp) (n m : Nat) (pm : List (Nat × Nat)) (t tk : DTA) : DTE := fun τ M Q => t τ M fun ds M1 => tk τ M1 fun es M2 => sp (gK n m pm ds es) M2 Q
theorem dCallK_mono {sp : DSp} {n m : Nat} {pm : List (Nat × Nat)} (ms : MonoSp sp) (mt : MonoA t) (mk : MonoA tk) : MonoE (dCallK sp n m pm t tk) := ⟨fun h q => mt.go (fun _ _ q => mk.go (fun _ _ q => ms.go h q) q) q⟩
theorem de_callK {sp : DSp} {n m : Nat} {ks : List Str} {pm : List (Nat × Nat)} (c : CanK X.prog X.w X.K X.mg X.base X.A x n ks pm sp) (hg : Gl X x) (ha : DA X (e :: es) t) (hkw : DKw X kws tk)
    (hall : (backToKw pos (keywordEach kws X.env)).all (·.1.isSome) = true := by rfl) (hks : (backToKw pos (keywordEach kws X.env)).filterMap (·.1) = ks := by rfl)
    (hdb : (x == ("__debug__" : Str)) = false := by decide) (he : starEach (e :: es) X.env = (false, eval e X.env) :: starEach es X.env := by rfl)
    (hpl : ((backTo pos (starEach (e :: es) X.env)).any (·.1) || (backToKw pos (keywordEach kws X.env)).any (·.1.isNone)) = false := by rfl) (hl : ks.length = m := by rfl) :
    DE X (.Call (.Name x p) (e :: es) kws pos) (dCallK sp n m pm t tk) := by
  subst hl
  obtain ⟨f, fd, ps, k, F, hr, hm, hk, hb⟩ := c.ex
  refine de_of (pe_callK F hr hg hm hk hb pass0 ha.pa hkw.pk hall hks hdb he hpl) (dCallK_mono c.mono ha.mono hkw.mono).go fun σ H Q τ M hs hm q => ?_
  exact ⟨τ, M, hs, hm, ha.mono.go (fun ds M1 q vs H1 k1 r1 m1 => ⟨τ, M1, hs.keep k1, m1, hkw.mono.go (fun es M2 q zs H2 k2 r2 m2 => ⟨_, M2, gK_reps (r1.keep k2) r2, m2, c.mono.go (fun d M' q v H' k3 => q v H' (k1.trans (k2.trans k3))) q⟩) q⟩) q⟩
theorem pe_callK0 {CX : CXT} {k : Nat} {f : Addr} {fd : FuncData} {ps ks : List Str} {sp : Sp} {E : XK} {tk : TA} {g : List Value → List Value → List Value} {gV : List V → List V → List V} (F : FnOk X.prog X.w X.K X.mg X.base CX k f fd ps sp) (hr : Room k X.A) (hg : Gl X x) (hm : X.mg x = some (.ref f)) (hk : PySem.W.keepIn X.K (.ref f) = true) (hb : KBinds X.K fd ps ks g gV) (hx : Passes CX X E)
    (hkw : PK X kws tk) (hall : (backToKw pos (keywordEach kws X.env)).all (·.1.isSome) = true := by rfl) (hks : (backToKw pos (keywordEach kws X.env)).filterMap (·.1) = ks := by rfl)
    (hdb : (x == ("__debug__" : Str)) = false := by decide)
    (hpl : ((backTo pos (starEach [] X.env)).any (·.1) || (backToKw pos (keywordEach kws X.env)).any (·.1.isNone)) = false := by rfl) :
    PE X (.Call (.Name x p) [] kws pos) (tCallK sp gV E tNil tk) := by
  refine ⟨fun pins s σ H Q I h => ?_⟩
  refine wpAny_Call_Name_kw (ld_glob I hg hm ?_ hdb)
  refine PySem.W.callWith_KW0 (h₀ := X.base) I.ok.mod.kin hk hall ?_ hpl
  refine thn (hkw.run pos pins s σ H _ I h) fun ws s2 ⟨zs, H2, I2, rz, q2⟩ => ⟨I2.kIn, ?_⟩
  rw [hks]
  exact run_fnk F hr hb hx I2 .nil rz q2
theorem de_callK0 {sp : DSp} {n m : Nat} {ks : List Str} {pm : List (Nat × Nat)} (c : CanK X.prog X.w X.K X.mg X.base X.A x n ks pm sp) (hg : Gl X x) (hkw : DKw X kws tk)
    (hall : (backToKw pos (keywordEach kws X.env)).all (·.1.isSome) = true := by rfl) (hks : (backToKw pos (keywordEach kws X.env)).filterMap (·.1) = ks := by rfl)
    (hdb : (x == ("__debug__" : Str)) = false := by decide)
    (hpl : ((backTo pos (starEach [] X.env)).any (·.1) || (backToKw pos (keywordEach kws X.env)).any (·.1.isNone)) = false := by rfl) (hl : ks.length = m := by rfl) :
    DE X (.Call (.Name x p) [] kws pos) (dCallK sp n m pm dNil tk) := by
  subst hl
  obtain ⟨f, fd, ps, k, F, hr, hm, hk, hb⟩ := c.ex
  refine de_of (pe_callK0 F hr hg hm hk hb pass0 hkw.pk hall hks hdb hpl) (dCallK_mono c.mono (da_nil (X := X)).mono hkw.mono).go fun σ H Q τ M hs hm q => ?_
  exact ⟨τ, M, hs, hm, hkw.mono.go (fun es M2 q zs H2 k2 r2 m2 => ⟨_, M2, gK_reps .nil r2, m2, c.mono.go (fun d M' q v H' k3 => q v H' (k2.trans k3)) q⟩) q⟩
/-- a def without defaults, called with all its parameters -/
theorem kbinds_mk {x qual : Str} {params : Arguments} {body : List Stmt} {scope : Scope} {kwd : List (Str × V)} {f : Addr} {fd : FuncData} {ps ks : List Str} {n : Nat} {pm : List (Nat × Nat)} (F : FunD K x qual params body scope [] kwd f fd) (hps : ps ≠ [])
    (h : ∀ (kV doc pm' : Value) (an : Option Addr) (cdv ct : Value) (us ws : List Value), us.length = n → ws.length = ks.length → bindArgs (PySem.W.fnOf x qual params body scope .none kV doc pm' an cdv ct) ⟨us, ks.zip ws⟩ = pure (ps.zip (gK n ks.length pm us ws))) :
    KBinds K fd ps ks (gK n ks.length pm) (gK n ks.length pm) := by
  obtain ⟨oc, od, dV, kV, doc, pm', an, cdv, ct, osl, rfl, lk, hcd, hD, hK⟩ := F.ex
  rcases hD with ⟨_, rfl⟩ | ⟨e, _⟩
  · refine ⟨fun s us ws _ hl => ?_, fun r q => gK_vals r q⟩
    by_cases hh : us.length = n ∧ ws.length = ks.length
    · exact .of_eq (h kV doc pm' an cdv ct us ws hh.1 hh.2)
    · unfold gK at hl
      rw [if_neg hh] at hl
      cases ps with
      | nil => exact absurd rfl hps
      | cons => cases hl
  · exact absurd rfl e
/-! ### zip -/
def zipD : List D → List D → List D
  | x :: xs, y :: ys => .tup [x, y] :: zipD xs ys
  | _, _ => []
theorem zipD_get : ∀ (xs ys : List D) (i : Nat) (d : D), (zipD xs ys)[i]? = some d → ∃ x y, xs[i]? = some x ∧ ys[i]? = some y ∧ d = .tup [x, y]
  | [], _, i, d, e => by simp [zipD] at e
  | _ :: _, [], i, d, e => by simp [zipD] at e
  | x :: xs, y :: ys, 0, d, e => by simp [zipD] at e; exact ⟨x, y, rfl, rfl, e.symm⟩
  | x :: xs, y :: ys, i + 1, d, e => by simpa using zipD_get xs ys i d (by simpa [zipD] using e)
theorem zipD_len : ∀ xs ys : List D, (zipD xs ys).length = min xs.length ys.length
  | [], ys => by simp [zipD]
  | _ :: _, [] => by simp [zipD]
  | x :: xs, y :: ys => by simp [zipD, zipD_len xs ys] <;> omega
def iZipD (ta tb : DTE) : DTI := fun τ M Q => ta τ M fun d M1 => tb τ M1 fun e M2 => match d, e with
  | .tup xs, .tup ys => Q ⟨zipD xs ys, fun _ => True⟩ M2
  | d, e => lsOf M2 d fun l1 xs => lsOf M2 e fun l2 ys => Q ⟨zipD xs ys, fun M => l1 M ∧ l2 M⟩ M2
theorem itr_zipT {H : Hp} {a b : Addr} {xs ys : List V} {ds es : List D} (h : SqT K H a xs) (r : Reps K H xs ds) (h2 : SqT K H b ys) (r2 : Reps K H ys es) : ItR K H (RZ.ItzT K a b) ⟨zipD ds es, fun _ => True⟩ where
  go := fun i d H' M k m l e => by
    obtain ⟨x, y, e1, e2, _⟩ := zipD_get ds es i d e
    obtain ⟨v, f1, _⟩ := r.get e1
    obtain ⟨w, f2, _⟩ := r2.get e2
    exact ⟨xs, ys, v, w, SqT.keep k h, SqT.keep k h2, f1, f2⟩
  yld := fun i d H' M x H2 k m l e y => by
    obtain ⟨T, u, v, rfl, hT, rfl, y1, y2⟩ := y
    obtain ⟨d1, d2, e1, e2, rfl⟩ := zipD_get ds es i d e
    obtain ⟨v1, f1, rv1⟩ := r.get e1
    obtain ⟨v2, f2, rv2⟩ := r2.get e2
    have g1 := y1 xs (SqT.keep k h)
    have g2 := y2 ys (SqT.keep k h2)
    rw [f1] at g1; cases g1
    rw [f2] at g2; cases g2
    exact ⟨Keep.new hT, .tup (SqT.of upd_same) (.cons (rv1.keep (k.trans (Keep.new hT))) (.cons (rv2.keep (k.trans (Keep.new hT))) .nil)), m.fresh hT⟩
  stop := fun i H' M k m l q => by
    have q' : (zipD ds es).length ≤ i := q
    rw [zipD_len] at q'
    exact ⟨xs, ys, SqT.keep k h, SqT.keep k h2, by rw [r.length, r2.length]; omega⟩
theorem itr_zipL {H : Hp} {a b : Addr} {l1 l2 : Mem → Prop} {ds es : List D} (f : ∀ H' M', Keep H H' → RM K H' M' → l1 M' → ∃ xs, SqL K H' a xs ∧ Reps K H' xs ds) (g : ∀ H' M', Keep H H' → RM K H' M' → l2 M' → ∃ xs, SqL K H' b xs ∧ Reps K H' xs es) : ItR K H (Itz K a b) ⟨zipD ds es, fun M => l1 M ∧ l2 M⟩ where
  go := fun i d H' M k m l e => by
    obtain ⟨x, y, e1, e2, _⟩ := zipD_get ds es i d e
    obtain ⟨xs, h, r⟩ := f H' M k m l.1
    obtain ⟨ys, h2, r2⟩ := g H' M k m l.2
    obtain ⟨v, f1, _⟩ := r.get e1
    obtain ⟨w, f2, _⟩ := r2.get e2
    exact ⟨xs, ys, v, w, h, h2, f1, f2⟩
  yld := fun i d H' M x H2 k m l e y => by
    obtain ⟨T, u, v, rfl, hT, rfl, y1, y2⟩ := y
    obtain ⟨d1, d2, e1, e2, rfl⟩ := zipD_get ds es i d e
    obtain ⟨xs, h, r⟩ := f _ M k m l.1
    obtain ⟨ys, h2, r2⟩ := g _ M k m l.2
    obtain ⟨v1, f1, rv1⟩ := r.get e1
    obtain ⟨v2, f2, rv2⟩ := r2.get e2
    have g1 := y1 xs h
    have g2 := y2 ys h2
    rw [f1] at g1; cases g1
    rw [f2] at g2; cases g2
    exact ⟨Keep.new hT, .tup (SqT.of upd_same) (.cons (rv1.keep (Keep.new hT)) (.cons (rv2.keep (Keep.new hT)) .nil)), m.fresh hT⟩
  stop := fun i H' M k m l q => by
    obtain ⟨xs, h, r⟩ := f H' M k m l.1
    obtain ⟨ys, h2, r2⟩ := g H' M k m l.2
    have q' : (zipD ds es).length ≤ i := q
    rw [zipD_len] at q'
    exact ⟨xs, ys, h, h2, by rw [r.length, r2.length]; omega⟩
theorem di_zip {ta tb : DTE} {tpos : Pos} {elts : List Expr} {kk : Nat} (hg : Gl X "zip") (hm : X.mg "zip" = none) (ha : DE X a ta) (hb : DE X b tb) (hst : starEach [a, b] X.env = (false, eval a X.env) :: starEach [b] X.env := by rfl) (hst2 : starEach [b] X.env = (false, eval b X.env) :: starEach [] X.env := by rfl)
    (hpl : (backTo pos (starEach [b] X.env)).any (·.1) = false := by rfl) :
    DI X (.Tuple elts kk tpos) (.Call (.Name "zip" p) [a, b] [] pos) (iZipD ta tb) := by
  refine di_of (RZ.pi_zipA hg hm (da_cons ha (da_cons hb da_nil hst2) hst).pa hst hpl) (fun h q => ha.mono.go (fun d M1 q => hb.mono.go (fun e M2 q => ?_) q) q) fun σ H R τ M hs hm q => ?_
  · split at q
    · exact h _ _ q
    · exact lsOf_mono (fun _ _ q => lsOf_mono (fun _ _ q => h _ _ q) q) q
  · refine ⟨τ, M, hs, hm, ha.mono.go (fun d M1 q => hb.mono.go (fun e M2 q vs H2 k rs m => ?_) q) q⟩
    obtain ⟨v1, v2, rfl, r1, r2⟩ := reps2 rs
    split at q
    · cases r1 with
      | tup h1 rr1 =>
        cases r2 with
        | tup h2 rr2 => exact ⟨_, _, _, _, rfl, .inr ⟨h1, h2, q _ _ k m (itr_zipT h1 rr1 h2 rr2)⟩⟩
    · obtain ⟨a1, l1, ds1, rfl, q, L1, f1⟩ := lsOf_to r1 m q
      obtain ⟨a2, l2, ds2, rfl, q, L2', f2⟩ := lsOf_to r2 m q
      obtain ⟨xs, h1, _⟩ := f1 H2 M2 (Keep.refl _) m L1
      obtain ⟨ys, h2, _⟩ := f2 H2 M2 (Keep.refl _) m L2'
      exact ⟨_, _, _, _, rfl, .inl ⟨h1, h2, q _ _ k m (itr_zipL f1 f2)⟩⟩
end
end DL
namespace DL
open PySem PySem.Spec PyProof.Rows L2
section
variable {X : Cx} {pos : Pos}
/-! ### {} -/
def dNewK : DTE := fun _ M Q => ∀ p, M p = none → Q (.ref p) (mupd M p (.dK []))
def dNewT : DTE := fun _ M Q => ∀ p, M p = none → Q (.ref p) (mupd M p (.dT []))
theorem de_dnewK : DE X (.Dict [] [] pos) dNewK := de_of pe_dnewK (fun h q p np => h _ _ (q p np)) fun σ H Q τ M a b q p np => q p (b.free np) _ _ (Keep.new np) (.ref p) (b.new (m := .dK []) np ⟨[], rfl, rfl, .nil⟩)
theorem de_dnewT : DE X (.Dict [] [] pos) dNewT := de_of pe_dnewT (fun h q p np => h _ _ (q p np)) fun σ H Q τ M a b q p np => q p (b.free np) _ _ (Keep.new np) (.ref p) (b.new (m := .dT []) np ⟨[], rfl, rfl, .nil⟩)
end
end DL

namespace DL
open PySem PySem.Spec PyProof.Rows L2
/-! what all laws share: the well of numbers -/
theorem atI0 {α : Type} {a : α} {l : List α} : atI (a :: l) 0 = some a := by
  unfold atI ixN
  rw [if_pos (by omega), if_pos (by simp only [List.length_cons]; omega)]
  rfl
theorem atI1 {α : Type} {a b : α} {l : List α} : atI (a :: b :: l) 1 = some b := by
  unfold atI ixN
  rw [if_pos (by omega), if_pos (by simp only [List.length_cons]; omega)]
  rfl
theorem atI2 {α : Type} {a b c : α} {l : List α} : atI (a :: b :: c :: l) 2 = some c := by
  unfold atI ixN
  rw [if_pos (by omega), if_pos (by simp only [List.length_cons]; omega)]
  rfl
theorem atI3 {α : Type} {a b c d : α} {l : List α} : atI (a :: b :: c :: d :: l) 3 = some d := by
  unfold atI ixN
  rw [if_pos (by omega), if_pos (by simp only [List.length_cons]; omega)]
  rfl
theorem atI_nat {α : Type} {l : List α} {i : Nat} : atI l (i : Int) = l[i]? := by
  unfold atI ixN
  rw [if_pos (by omega)]
  split
  · rfl
  · rw [List.getElem?_eq_none (by omega)]; rfl
theorem atI_lt {α : Type} {l : List α} {i : Int} (h0 : 0 ≤ i) (h : i < l.length) : atI l i = some (l[i.toNat]'(by omega)) := by
  unfold atI ixN
  rw [if_pos h0, if_pos h]
  exact List.getElem?_eq_getElem (by omega)
theorem ixN0 {n : Nat} : ixN (n + 1) 0 = some 0 := by
  unfold ixN
  rw [if_pos (by omega), if_pos (by omega)]; rfl
theorem ixN1 {n : Nat} : ixN (n + 2) 1 = some 1 := by
  unfold ixN
  rw [if_pos (by omega), if_pos (by omega)]; rfl
theorem ixN2 {n : Nat} : ixN (n + 3) 2 = some 2 := by
  unfold ixN
  rw [if_pos (by omega), if_pos (by omega)]; rfl
theorem ixN3 {n : Nat} : ixN (n + 4) 3 = some 3 := by
  unfold ixN
  rw [if_pos (by omega), if_pos (by omega)]; rfl
theorem fmod_pos (a : Int) {b : Int} (h : 0 < b) : 0 ≤ a.fmod b ∧ a.fmod b < b := by
  rw [Int.fmod_eq_emod_of_nonneg a (by omega)]
  exact ⟨Int.emod_nonneg a (by omega), Int.emod_lt_of_pos a h⟩
theorem fdiv_pos {a b : Int} (ha : 0 ≤ a) (h : 0 < b) : 0 ≤ a.fdiv b ∧ a.fdiv b ≤ a := by
  rw [Int.fdiv_eq_ediv_of_nonneg a (by omega)]
  exact ⟨Int.ediv_nonneg ha (by omega), Int.ediv_le_self b ha⟩
/-- all but one stays -/
def SubE (a : Addr) (M M' : Mem) : Prop := ∀ x o, x ≠ a → M x = some o → M' x = some o
theorem SubE.refl (a : Addr) (M : Mem) : SubE a M M := fun _ _ _ h => h
theorem SubE.trans {a : Addr} {M M1 M2 : Mem} (h : SubE a M M1) (k : SubE a M1 M2) : SubE a M M2 := fun x o n e => k x o n (h x o n e)
theorem SubE.of {a : Addr} {M M' : Mem} (h : Sub M M') : SubE a M M' := fun x o _ e => h x o e
theorem SubE.set {a : Addr} {M M' : Mem} {o : MO} (h : SubE a M M') : SubE a M (mupd M' a o) := fun x o n e => by
  rw [mupd_ne n]; exact h x o n e
theorem SubE.new {a p : Addr} {M M' : Mem} {o : MO} (h : SubE a M M') (hp : M p = none) : SubE a M (mupd M' p o) := fun x u n e => by
  rw [mupd_ne (fun z => by subst z; rw [e] at hp; cases hp)]; exact h x u n e
theorem ne_new {M : Mem} {a p : Addr} {o : MO} (h : M a = some o) (hp : M p = none) : a ≠ p := fun z => by subst z; rw [h] at hp; cases hp
/-- the well stands at a; B: how often it was turned at most -/
def Wl (B : Int) (M : Mem) (a : Addr) : Prop := ∃ p q r : Int, M a = some (.lst [.int p, .int q, .int r]) ∧ 0 ≤ p ∧ p < 10 ^ 60 ∧ 1 ≤ q ∧ q ≤ 2147483563 ∧ 0 ≤ r ∧ r ≤ B
theorem Wl.mono {B B' : Int} {M : Mem} {a : Addr} (h : Wl B M a) (k : B ≤ B') : Wl B' M a := by
  obtain ⟨p, q, r, e, h⟩ := h
  exact ⟨p, q, r, e, by omega⟩
theorem Wl.new {B : Int} {M : Mem} {a p : Addr} {o : MO} (h : Wl B M a) (hp : M p = none) : Wl B (mupd M p o) a := by
  obtain ⟨u, q, r, e, h⟩ := h
  exact ⟨u, q, r, by rw [mupd_ne (ne_new e hp)]; exact e, h⟩
theorem Wl.sub {B : Int} {M M' : Mem} {a : Addr} (h : Wl B M a) (k : Sub M M') : Wl B M' a := by
  obtain ⟨u, q, r, e, h⟩ := h
  exact ⟨u, q, r, k _ _ e, h⟩
/-! ### _law_dip -/
def bDip : DTS :=
    (dSeq (dIf (dTest (dOp pGt (dOp pIx (dVar 0) (dC (.int 0))) (dC (.int 0)))) (dSeq (dAsg (dOp pMod (dCB pInt (dCons (dOp pIx (dVar 0) (dC (.int 0))) dNil)) (dVar 1)) (gN 2))
    (dSeq (dAsg (dOp pFdiv (dOp pIx (dVar 0) (dC (.int 0))) (dVar 1)) (gSubL (dVar 0) (dC (.int 0))))
    (dRet (dVar 2)))) dNext)
    (dSeq (dAsg (dOp pAdd (dOp pIx (dVar 0) (dC (.int 2))) (dC (.int 1))) (gSubL (dVar 0) (dC (.int 2))))
    (dSeq (dAsg (dOp pMod (dCB pInt (dCons (dOp pAdd (dOp pMul (dOp pAdd (dOp pIx (dVar 0) (dC (.int 1))) (dOp pMul (dC (.int 88001)) (dOp pIx (dVar 0) (dC (.int 2))))) (dC (.int 57037))) (dC (.int 61))) dNil)) (dC (.int 2147483549))) (gN 3))
    (dSeq (dAsg (dOp pAdd (dOp pMod (dCB pInt (dCons (dOp pAdd (dOp pMul (dVar 3) (dC (.int 41141))) (dC (.int 21013))) dNil)) (dC (.int 2147483563))) (dC (.int 1))) (gSubL (dVar 0) (dC (.int 1))))
    (dRet (dOp pMod (dCB pInt (dCons (dOp pFdiv (dOp pAdd (dOp pMul (dVar 3) (dC (.int 2147483587))) (dOp pIx (dVar 0) (dC (.int 1)))) (dC (.int 8209))) dNil)) (dVar 1)))))))
def sp_dip : DSp := fun ds M Q => match ds with
  | [.ref a, .int n] => ∃ B : Int, Wl B M a ∧ B < 2 ^ 60 ∧ 0 < n ∧ n < 2 ^ 1000 ∧ ∀ (d : Int) (M' : Mem), 0 ≤ d → d < n → SubE a M M' → Wl (B + 1) M' a → Q (.int d) M'
  | _ => False
theorem sp_dip_mono : MonoSp sp_dip := ⟨fun {ds M Q Q'} h q => by
  unfold sp_dip at q ⊢
  split at q
  · obtain ⟨B, a, b, c, d, e⟩ := q
    exact ⟨B, a, b, c, d, fun x M' u v w z => h _ _ (e x M' u v w z)⟩
  · exact q⟩
theorem body_dip (ds : List D) (M : Mem) (Q : DQ) (hc : Clo Q) (h : sp_dip ds M Q) : bDip { nx := fun _ M' => Q .non M', rt := Q } (dstart ["well", "many", "digit", "raw"] ds) M := by
  unfold sp_dip at h
  split at h
  · rename_i a n
    obtain ⟨B, ⟨p, q, r, e, p0, p1, q0, q1, r0, r1⟩, hB, n0, n1, h⟩ := h
    by_cases hp : 0 < p
    · simp only [bDip, dSeq, dNext, dIf, dRet, dRetN, dDrop, dAsg, gN, gN0, gNc, gTp, gSubL, dPar, dPar3, dAug, dVar, dC, dOp, dUn, dTest, dAnd, dOr, dNot, dAndV, dOrV, dNotV, dIfE, dNil, dCons, dTup, dLst, dCB, dCall, dstart, dget, dset, dwp, dclr, asB, pI0, pI, pU, pAdd, pMul, pEqB, pIsB, pIx, pCI, pC2, pInt, pIsi, pLen, optQ, stL, lstAt, lsOf, atI0, atI1, atI2, atI3, ixN0, ixN1, ixN2, ixN3, mupd_same, mupd_mupd, dFor, iRng, List.map_cons, List.map_nil, List.length_cons, List.length_nil, List.replicate, List.cons_append, List.nil_append, List.append_nil, List.set_cons_zero, List.set_cons_succ, Nat.reduceAdd, Nat.reduceSub, Nat.sub_self, if_true, if_false, decide_eq_true_eq, Bool.false_eq_true, Bool.not_true, Bool.not_false, id_eq, ite_true, ite_false, e, hp]
      have hm := fmod_pos p n0
      have hd := fdiv_pos p0 n0
      refine ⟨by omega, cdv_small (by omega) (b := 1000) (by omega) (by decide), ?_⟩
      refine h _ _ hm.1 hm.2 (SubE.set (SubE.refl _ _)) ⟨_, _, _, mupd_same, by omega⟩
    · have hpf : decide (0 < p) = false := decide_eq_false hp
      simp only [bDip, dSeq, dNext, dIf, dRet, dRetN, dDrop, dAsg, gN, gN0, gNc, gTp, gSubL, dPar, dPar3, dAug, dVar, dC, dOp, dUn, dTest, dAnd, dOr, dNot, dAndV, dOrV, dNotV, dIfE, dNil, dCons, dTup, dLst, dCB, dCall, dstart, dget, dset, dwp, dclr, asB, pI0, pI, pU, pAdd, pMul, pEqB, pIsB, pIx, pCI, pC2, pInt, pIsi, pLen, optQ, stL, lstAt, lsOf, atI0, atI1, atI2, atI3, ixN0, ixN1, ixN2, ixN3, mupd_same, mupd_mupd, dFor, iRng, List.map_cons, List.map_nil, List.length_cons, List.length_nil, List.replicate, List.cons_append, List.nil_append, List.append_nil, List.set_cons_zero, List.set_cons_succ, Nat.reduceAdd, Nat.reduceSub, Nat.sub_self, if_true, if_false, decide_eq_true_eq, Bool.false_eq_true, Bool.not_true, Bool.not_false, id_eq, ite_true, ite_false, e, hpf]
      have h1 := fmod_pos ((q + 88001 * (r + 1)) * 57037 + 61) (b := 2147483549) (by omega)
      generalize hR : ((q + 88001 * (r + 1)) * 57037 + 61).fmod 2147483549 = R at h1
      have h2 := fmod_pos (R * 41141 + 21013) (b := 2147483563) (by omega)
      generalize hS : (R * 41141 + 21013).fmod 2147483563 = S at h2
      refine ⟨mulx_ok (a := 64) (b := 64) (by omega) (by omega) (by decide), mulx_ok (a := 128) (b := 64) (by omega) (by omega) (by decide), by decide, mulx_ok (a := 64) (b := 64) (by omega) (by omega) (by decide), by decide, mulx_ok (a := 64) (b := 64) (by omega) (by omega) (by decide), cdv_small (by decide) (b := 64) (by decide) (by decide), by omega, ?_⟩
      have hm := fmod_pos ((R * 2147483587 + (S + 1)).fdiv 8209) n0
      exact h _ _ hm.1 hm.2 (SubE.set (SubE.refl _ _)) ⟨_, _, _, mupd_same, by omega⟩
  · exact h.elim
end DL

namespace DL
open PySem PySem.Spec PyProof.Rows L2
/-! ### loops by invariants -/
section
variable {live : Mem → Prop} {g : DTG} {tb : DTS} {E : DEnds} {c tt : DTT} {te : DTE} {p : Addr} {τ : DS}
theorem loop_inv (I : List D → DS → Mem → Prop) (hl : ∀ r τ M, I r τ M → live M)
    (step : ∀ d r τ M (X : DS → Mem → Prop), I (d :: r) τ M → (∀ τ M, I r τ M → X τ M) → g d τ M fun τ2 M2 => tb { nx := X, rt := E.rt, bk := E.nx, ct := X } τ2 M2)
    (fin : ∀ τ M, I [] τ M → E.nx τ M) : ∀ (l : List D) (τ : DS) (M : Mem), I l τ M → dLoop live g tb l E τ M
  | [], τ, M, h => ⟨hl _ _ _ h, fin _ _ h⟩
  | d :: r, τ, M, h => ⟨hl _ _ _ h, step d r τ M _ h fun τ M q => loop_inv I hl step fin r τ M q⟩
theorem rngD_nil {lo hi : Int} (h : hi ≤ lo) : rngD lo hi = [] := by
  unfold rngD
  rw [show (hi - lo).toNat = 0 by omega]; rfl
theorem rngD_cons {lo hi : Int} (h : lo < hi) : rngD lo hi = .int lo :: rngD (lo + 1) hi := by
  unfold rngD
  rw [show (hi - lo).toNat = (hi - (lo + 1)).toNat + 1 by omega, List.range_succ_eq_map, List.map_cons, List.map_map]
  congr 1
  · congr 1; omega
  · apply List.map_congr_left
    intro i _
    simp only [Function.comp]
    congr 1; omega
theorem loop_rng {hi : Int} (I : Int → DS → Mem → Prop)
    (step : ∀ i τ M (X : DS → Mem → Prop), i < hi → I i τ M → (∀ τ M, I (i + 1) τ M → X τ M) → g (.int i) τ M fun τ2 M2 => tb { nx := X, rt := E.rt, bk := E.nx, ct := X } τ2 M2)
    (fin : ∀ τ M, I hi τ M → E.nx τ M) : ∀ (k : Nat) (lo : Int) (τ : DS) (M : Mem), hi = lo + k → I lo τ M → dLoop (fun _ => True) g tb (rngD lo hi) E τ M
  | 0, lo, τ, M, e, h => by
    rw [rngD_nil (by omega)]
    have e' : hi = lo := by omega
    subst e'
    exact ⟨trivial, fin _ _ h⟩
  | k + 1, lo, τ, M, e, h => by
    rw [rngD_cons (by omega)]
    exact ⟨trivial, step lo τ M _ (by omega) h fun τ M q => loop_rng I step fin k (lo + 1) τ M (by omega) q⟩
theorem while_inv (I : Nat → DS → Mem → Prop)
    (step : ∀ n τ M (X : DS → Mem → Prop), I n τ M → (∀ m τ M, m < n → I m τ M → X τ M) → c τ M fun b M1 => if b = true then tb { nx := X, rt := E.rt, bk := E.nx, ct := X } τ M1 else E.nx τ M1)
    {n : Nat} {τ : DS} {M : Mem} (h : I n τ M) : dWhile c tb E τ M := by
  refine ⟨n + 1, ?_⟩
  have key : ∀ (N n : Nat) (τ : DS) (M : Mem), n < N → I n τ M → dWhN c tb E N τ M := by
    intro N
    induction N with
    | zero => intro n τ M hn; omega
    | succ N ih =>
      intro n τ M hn h
      exact step n τ M _ h fun m τ M hm q => ih m τ M (by omega) q
  exact key (n + 1) n τ M (Nat.lt_succ_self n) h
/-- a comprehension whose element changes nothing -/
theorem lc_map {M0 : Mem} (f : D → D) (hl : ∀ xs, live (mupd M0 p (.lst xs))) : ∀ (r acc : List D) (Q : Mem → Prop),
    (∀ d ∈ r, ∀ xs (K : DQ), K (f d) (mupd M0 p (.lst xs)) → g d τ (mupd M0 p (.lst xs)) fun τ2 M2 => te τ2 M2 K) →
    acc.length + r.length ≤ sizeLine → Q (mupd M0 p (.lst (acc ++ r.map f))) → dLcL live g dYes te p τ r acc (mupd M0 p (.lst acc)) Q
  | [], acc, Q, _, _, q => ⟨hl _, by simpa using q⟩
  | d :: r, acc, Q, h, hs, q => by
    refine ⟨hl _, ?_⟩
    have hs' : acc.length + r.length + 1 ≤ sizeLine := by simp only [List.length_cons] at hs; omega
    refine h d (List.mem_cons_self ..) acc (fun y M4 => M4 p = some (.lst acc) ∧ acc.length < sizeLine ∧ dLcL live g dYes te p τ r (acc ++ [y]) (mupd M4 p (.lst (acc ++ [y]))) Q) ⟨mupd_same, by omega, ?_⟩
    rw [mupd_mupd]
    refine lc_map f hl r (acc ++ [f d]) Q (fun d hd => h d (List.mem_cons_of_mem _ hd)) (by simp only [List.length_append, List.length_cons, List.length_nil]; omega) ?_
    simpa using q
theorem lc_rng {M0 : Mem} {n : Nat} (f : Nat → D) {Q : Mem → Prop} (h : ∀ i : Nat, i < n → ∀ xs (K : DQ), K (f i) (mupd M0 p (.lst xs)) → g (.int i) τ (mupd M0 p (.lst xs)) fun τ2 M2 => te τ2 M2 K)
    (hs : n ≤ sizeLine) (q : Q (mupd M0 p (.lst ((List.range n).map f)))) : dLcL (fun _ => True) g dYes te p τ (rngD 0 n) [] (mupd M0 p (.lst [])) Q := by
  refine lc_map (fun d => match d with | .int i => f i.toNat | d => d) (fun _ => trivial) _ [] Q (fun d hd xs K k => ?_) (by simp [rngD]; exact hs) ?_
  · simp only [rngD, List.mem_map, List.mem_range] at hd
    obtain ⟨i, hi, rfl⟩ := hd
    have e : (0 : Int) + (i : Nat) = i := by omega
    rw [e] at k ⊢
    exact h i (by omega) xs K k
  · rw [List.nil_append]
    have e : (rngD 0 n).map (fun d => match d with | .int i => f i.toNat | d => d) = (List.range n).map f := by
      simp only [rngD, List.map_map]
      rw [show ((n : Int) - 0).toNat = n by omega]
      apply List.map_congr_left
      intro i _
      simp only [Function.comp]
      rw [show ((0 : Int) + (i : Nat)).toNat = i by omega]
    rw [e]; exact q
end
theorem bsOf_rep : ∀ n : Nat, bsOf (List.replicate n (.bl true)) = some (List.replicate n true)
  | 0 => rfl
  | n + 1 => by rw [List.replicate_succ, bsOf, bsOf_rep n]; rfl
theorem map_const {α β : Type} (l : List α) (b : β) : l.map (fun _ => b) = List.replicate l.length b := by
  induction l with
  | nil => rfl
  | cons a l ih => rw [List.map_cons, ih]; rfl
/-! ### _law_one, _law_is -/
def seqAt (M : Mem) (x : D) : Option (List D) := match x with
  | .tup xs => some xs
  | .kl xs => some xs
  | .ref b => match M b with
    | some (.lst xs) => some xs
    | _ => none
  | _ => none
def bOne (sp : DSp) : DTS := (dRet (dOp pIx (dVar 1) (dCall sp [] (dCons (dVar 0) (dCons (dCB pLen (dCons (dVar 1) dNil)) dNil)))))
def sp_one : DSp := fun ds M Q => match ds with
  | [.ref a, x] => ∃ (B : Int) (xs : List D), seqAt M x = some xs ∧ x ≠ .ref a ∧ Wl B M a ∧ B < 2 ^ 60 ∧ 0 < xs.length ∧ xs.length < 2 ^ 60 ∧ ∀ (d : D) (M' : Mem), d ∈ xs → SubE a M M' → Wl (B + 1) M' a → Q d M'
  | _ => False
theorem sp_one_mono : MonoSp sp_one := ⟨fun {ds M Q Q'} h q => by
  unfold sp_one at q ⊢
  split at q
  · obtain ⟨B, xs, a, b, c, d, e, f, k⟩ := q
    exact ⟨B, xs, a, b, c, d, e, f, fun x M' u v w => h _ _ (k x M' u v w)⟩
  · exact q⟩
theorem body_one (ds : List D) (M : Mem) (Q : DQ) (hc : Clo Q) (h : sp_one ds M Q) : bOne sp_dip { nx := fun _ M' => Q .non M', rt := Q } (dstart ["well", "some"] ds) M := by
  unfold sp_one at h
  split at h
  · rename_i a x
    obtain ⟨B, xs, e, nx, hw, hB, h0, h1, h⟩ := h
    unfold seqAt at e
    split at e
    · cases e
      simp only [bOne, dSeq, dNext, dIf, dRet, dRetN, dDrop, dAsg, gN, gN0, gNc, gTp, gSubL, dPar, dPar3, dAug, dVar, dC, dOp, dUn, dTest, dAnd, dOr, dNot, dAndV, dOrV, dNotV, dIfE, dNil, dCons, dTup, dLst, dCB, dCall, dstart, dget, dset, dwp, dclr, asB, pI0, pI, pU, pAdd, pMul, pEqB, pIsB, pIx, pCI, pC2, pInt, pIsi, pLen, optQ, stL, lstAt, lsOf, atI0, atI1, atI2, atI3, ixN0, ixN1, ixN2, ixN3, mupd_same, mupd_mupd, dFor, iRng, List.map_cons, List.map_nil, List.length_cons, List.length_nil, List.replicate, List.cons_append, List.nil_append, List.append_nil, List.set_cons_zero, List.set_cons_succ, Nat.reduceAdd, Nat.reduceSub, Nat.sub_self, if_true, if_false, decide_eq_true_eq, Bool.false_eq_true, Bool.not_true, Bool.not_false, id_eq, ite_true, ite_false]
      refine ⟨B, hw, hB, by omega, by omega, fun d M' d0 d1 s w => ?_⟩
      simp only [atI_lt d0 d1]
      exact h _ _ (List.getElem_mem _) s w
    · cases e
      simp only [bOne, dSeq, dNext, dIf, dRet, dRetN, dDrop, dAsg, gN, gN0, gNc, gTp, gSubL, dPar, dPar3, dAug, dVar, dC, dOp, dUn, dTest, dAnd, dOr, dNot, dAndV, dOrV, dNotV, dIfE, dNil, dCons, dTup, dLst, dCB, dCall, dstart, dget, dset, dwp, dclr, asB, pI0, pI, pU, pAdd, pMul, pEqB, pIsB, pIx, pCI, pC2, pInt, pIsi, pLen, optQ, stL, lstAt, lsOf, atI0, atI1, atI2, atI3, ixN0, ixN1, ixN2, ixN3, mupd_same, mupd_mupd, dFor, iRng, List.map_cons, List.map_nil, List.length_cons, List.length_nil, List.replicate, List.cons_append, List.nil_append, List.append_nil, List.set_cons_zero, List.set_cons_succ, Nat.reduceAdd, Nat.reduceSub, Nat.sub_self, if_true, if_false, decide_eq_true_eq, Bool.false_eq_true, Bool.not_true, Bool.not_false, id_eq, ite_true, ite_false]
      refine ⟨B, hw, hB, by omega, by omega, fun d M' d0 d1 s w => ?_⟩
      simp only [atI_lt d0 d1]
      exact h _ _ (List.getElem_mem _) s w
    · split at e
      · rename_i b _ _ eb
        cases e
        have nb : b ≠ a := fun z => nx (by rw [z])
        simp only [bOne, dSeq, dNext, dIf, dRet, dRetN, dDrop, dAsg, gN, gN0, gNc, gTp, gSubL, dPar, dPar3, dAug, dVar, dC, dOp, dUn, dTest, dAnd, dOr, dNot, dAndV, dOrV, dNotV, dIfE, dNil, dCons, dTup, dLst, dCB, dCall, dstart, dget, dset, dwp, dclr, asB, pI0, pI, pU, pAdd, pMul, pEqB, pIsB, pIx, pCI, pC2, pInt, pIsi, pLen, optQ, stL, lstAt, lsOf, atI0, atI1, atI2, atI3, ixN0, ixN1, ixN2, ixN3, mupd_same, mupd_mupd, dFor, iRng, List.map_cons, List.map_nil, List.length_cons, List.length_nil, List.replicate, List.cons_append, List.nil_append, List.append_nil, List.set_cons_zero, List.set_cons_succ, Nat.reduceAdd, Nat.reduceSub, Nat.sub_self, if_true, if_false, decide_eq_true_eq, Bool.false_eq_true, Bool.not_true, Bool.not_false, id_eq, ite_true, ite_false, eb]
        refine ⟨B, hw, hB, by omega, by omega, fun d M' d0 d1 s w => ?_⟩
        simp only [s _ _ nb eb, atI_lt d0 d1]
        exact h _ _ (List.getElem_mem _) s w
      · cases e
    · cases e
  · exact h.elim
def bIs : DTS := (dRet (dAndV (dCB pIsi (dCons (dVar 0) (dCons (dC (.ty "bool")) dNil))) (dOp pEq (dVar 0) (dVar 1))))
def sp_is : DSp := fun ds M Q => match ds with
  | [.bl a, .bl b] => Q (.bl (decide (a = b))) M
  | _ => False
theorem sp_is_mono : MonoSp sp_is := ⟨fun {ds M Q Q'} h q => by
  unfold sp_is at q ⊢
  split at q
  · exact h _ _ q
  · exact q⟩
theorem isiD_eq {M : Mem} {d : D} {n T : String} (h : kindD M d = some n) (hk : n ∈ kinds ∧ T ∈ kinds) : isiD M d T = some (isiB n T) := by
  unfold isiD; rw [h]; simp only [if_pos hk]
theorem isi_bl {M : Mem} {b : Bool} {T : String} (h : T ∈ kinds) : isiD M (.bl b) T = some (isiB "bool" T) := isiD_eq rfl ⟨by decide, h⟩
theorem isi_int {M : Mem} {b : Int} {T : String} (h : T ∈ kinds) : isiD M (.int b) T = some (isiB "int" T) := isiD_eq rfl ⟨by decide, h⟩
theorem isi_str {M : Mem} {b : Str} {T : String} (h : T ∈ kinds) : isiD M (.str b) T = some (isiB "str" T) := isiD_eq rfl ⟨by decide, h⟩
theorem isi_tup {M : Mem} {b : List D} {T : String} (h : T ∈ kinds) : isiD M (.tup b) T = some (isiB "tuple" T) := isiD_eq rfl ⟨by decide, h⟩
theorem isi_kl {M : Mem} {b : List D} {T : String} (h : T ∈ kinds) : isiD M (.kl b) T = some (isiB "list" T) := isiD_eq rfl ⟨by decide, h⟩
theorem isi_non {M : Mem} {T : String} (h : T ∈ kinds) : isiD M .non T = some (isiB "NoneType" T) := isiD_eq rfl ⟨by decide, h⟩
theorem k_bool : "bool" ∈ kinds := by decide
theorem k_int : "int" ∈ kinds := by decide
theorem k_str : "str" ∈ kinds := by decide
theorem k_tuple : "tuple" ∈ kinds := by decide
theorem k_list : "list" ∈ kinds := by decide
theorem k_dict : "dict" ∈ kinds := by decide
theorem ib1 : isiB "bool" "bool" = true := by decide
theorem ib2 : isiB "bool" "int" = true := by decide
theorem ib3 : isiB "bool" "str" = false := by decide
theorem ib4 : isiB "bool" "tuple" = false := by decide
theorem ib5 : isiB "bool" "list" = false := by decide
theorem ib6 : isiB "bool" "dict" = false := by decide
theorem ii1 : isiB "int" "bool" = false := by decide
theorem ii2 : isiB "int" "int" = true := by decide
theorem ii3 : isiB "int" "str" = false := by decide
theorem ii4 : isiB "int" "tuple" = false := by decide
theorem ii5 : isiB "int" "list" = false := by decide
theorem ii6 : isiB "int" "dict" = false := by decide
theorem is1 : isiB "str" "bool" = false := by decide
theorem is2 : isiB "str" "int" = false := by decide
theorem is3 : isiB "str" "str" = true := by decide
theorem is4 : isiB "str" "tuple" = false := by decide
theorem is5 : isiB "str" "list" = false := by decide
theorem is6 : isiB "str" "dict" = false := by decide
theorem it1 : isiB "tuple" "bool" = false := by decide
theorem it2 : isiB "tuple" "int" = false := by decide
theorem it3 : isiB "tuple" "str" = false := by decide
theorem it4 : isiB "tuple" "tuple" = true := by decide
theorem it5 : isiB "tuple" "list" = false := by decide
theorem it6 : isiB "tuple" "dict" = false := by decide
theorem in1 : isiB "NoneType" "bool" = false := by decide
theorem in2 : isiB "NoneType" "int" = false := by decide
theorem in3 : isiB "NoneType" "str" = false := by decide
theorem in4 : isiB "NoneType" "tuple" = false := by decide
theorem in5 : isiB "NoneType" "list" = false := by decide
theorem in6 : isiB "NoneType" "dict" = false := by decide
theorem body_is (ds : List D) (M : Mem) (Q : DQ) (hc : Clo Q) (h : sp_is ds M Q) : bIs { nx := fun _ M' => Q .non M', rt := Q } (dstart ["told", "due"] ds) M := by
  unfold sp_is at h
  split at h
  · simp only [bIs, dSeq, dNext, dIf, dRet, dRetN, dDrop, dAsg, gN, gN0, gNc, gTp, gSubL, dPar, dPar3, dAug, dVar, dC, dOp, dUn, dTest, dAnd, dOr, dNot, dAndV, dOrV, dNotV, dIfE, dNil, dCons, dTup, dLst, dCB, dCall, dstart, dget, dset, dwp, dclr, asB, pI0, pI, pU, pAdd, pMul, pEqB, pIsB, pIx, pCI, pC2, pInt, pIsi, pLen, optQ, stL, lstAt, lsOf, atI0, atI1, atI2, atI3, ixN0, ixN1, ixN2, ixN3, mupd_same, mupd_mupd, dFor, iRng, List.map_cons, List.map_nil, List.length_cons, List.length_nil, List.replicate, List.cons_append, List.nil_append, List.append_nil, List.set_cons_zero, List.set_cons_succ, Nat.reduceAdd, Nat.reduceSub, Nat.sub_self, if_true, if_false, decide_eq_true_eq, Bool.false_eq_true, Bool.not_true, Bool.not_false, id_eq, ite_true, ite_false, isi_bl k_bool, ib1]
    exact h
  · exact h.elim
/-! ### _law_like, by depth -/
def lk : Nat → D → Prop
  | _, .non => True
  | _, .bl _ => True
  | _, .int _ => True
  | _, .str _ => True
  | 0, .tup _ => False
  | k + 1, .tup ds => ds.length ≤ sizeLine ∧ ∀ d ∈ ds, lk k d
  | _, _ => False
def bLike (sp : DSp) : DTS :=
    (dSeq (dIf (dTest (dCB pIsi (dCons (dVar 1) (dCons (dC (.ty "tuple")) dNil)))) (dRet (dAndV (dCB pIsi (dCons (dVar 0) (dCons (dC (.ty "tuple")) dNil))) (dAndV (dOp pEq (dCB pLen (dCons (dVar 0) dNil)) (dCB pLen (dCons (dVar 1) dNil))) (dPure (dCB pAll (dCons (dLc (iRng (dCons (dCB pLen (dCons (dVar 1) dNil)) dNil)) (gN 2) dYes (dCall sp [] (dCons (dOp pIx (dVar 0) (dVar 2)) (dCons (dOp pIx (dVar 1) (dVar 2)) dNil))) [2]) dNil)))))) dNext)
    (dSeq (dIf (dTest (dOp pIs (dVar 1) (dC .non))) (dRet (dOp pIs (dVar 0) (dC .non))) dNext)
    (dSeq (dIf (dTest (dCB pIsi (dCons (dVar 1) (dCons (dC (.ty "bool")) dNil)))) (dRet (dAndV (dCB pIsi (dCons (dVar 0) (dCons (dC (.ty "bool")) dNil))) (dOp pEq (dVar 0) (dVar 1)))) dNext)
    (dSeq (dIf (dTest (dCB pIsi (dCons (dVar 1) (dCons (dC (.ty "str")) dNil)))) (dRet (dAndV (dCB pIsi (dCons (dVar 0) (dCons (dC (.ty "str")) dNil))) (dOp pEq (dVar 0) (dVar 1)))) dNext)
    (dRet (dAndV (dCB pIsi (dCons (dVar 0) (dCons (dC (.ty "int")) dNil))) (dAndV (dNotV (dCB pIsi (dCons (dVar 0) (dCons (dC (.ty "bool")) dNil)))) (dOp pEq (dVar 0) (dVar 1)))))))))
def spLikeS (k : Nat) : DSp := fun ds M Q => match ds with
  | [t, d] => t = d ∧ lk k d ∧ Q (.bl true) M
  | _ => False
def sp_like : Nat → DSp
  | 0 => fun _ _ _ => False
  | k + 1 => spLikeS k
theorem sp_like_mono : ∀ k, MonoSp (sp_like k)
  | 0 => ⟨fun h q => q⟩
  | k + 1 => ⟨fun {ds M Q Q'} h q => by
    change spLikeS k ds M Q at q
    change spLikeS k ds M Q'
    unfold spLikeS at q ⊢
    split at q
    · exact ⟨q.1, q.2.1, h _ _ q.2.2⟩
    · exact q⟩
theorem body_like (k : Nat) (ds : List D) (M : Mem) (Q : DQ) (hc : Clo Q) (h : sp_like (k + 1) ds M Q) : bLike (sp_like k) { nx := fun _ M' => Q .non M', rt := Q } (dstart ["told", "due", "at"] ds) M := by
  change spLikeS k ds M Q at h
  unfold spLikeS at h
  split at h
  · rename_i t d
    obtain ⟨rfl, hk, h⟩ := h
    cases t with
    | non => simp only [bLike, dSeq, dNext, dIf, dRet, dRetN, dDrop, dAsg, gN, gN0, gNc, gTp, gSubL, dPar, dPar3, dAug, dVar, dC, dOp, dUn, dTest, dAnd, dOr, dNot, dAndV, dOrV, dNotV, dIfE, dNil, dCons, dTup, dLst, dCB, dCall, dstart, dget, dset, dwp, dclr, asB, pI0, pI, pU, pAdd, pMul, pEqB, pIsB, pIx, pCI, pC2, pInt, pIsi, pLen, optQ, stL, lstAt, lsOf, atI0, atI1, atI2, atI3, ixN0, ixN1, ixN2, ixN3, mupd_same, mupd_mupd, dFor, iRng, List.map_cons, List.map_nil, List.length_cons, List.length_nil, List.replicate, List.cons_append, List.nil_append, List.append_nil, List.set_cons_zero, List.set_cons_succ, Nat.reduceAdd, Nat.reduceSub, Nat.sub_self, if_true, if_false, decide_eq_true_eq, Bool.false_eq_true, Bool.not_true, Bool.not_false, id_eq, ite_true, ite_false, isi_non k_tuple, in4, pIsB]; exact h
    | bl b => simp only [bLike, dSeq, dNext, dIf, dRet, dRetN, dDrop, dAsg, gN, gN0, gNc, gTp, gSubL, dPar, dPar3, dAug, dVar, dC, dOp, dUn, dTest, dAnd, dOr, dNot, dAndV, dOrV, dNotV, dIfE, dNil, dCons, dTup, dLst, dCB, dCall, dstart, dget, dset, dwp, dclr, asB, pI0, pI, pU, pAdd, pMul, pEqB, pIsB, pIx, pCI, pC2, pInt, pIsi, pLen, optQ, stL, lstAt, lsOf, atI0, atI1, atI2, atI3, ixN0, ixN1, ixN2, ixN3, mupd_same, mupd_mupd, dFor, iRng, List.map_cons, List.map_nil, List.length_cons, List.length_nil, List.replicate, List.cons_append, List.nil_append, List.append_nil, List.set_cons_zero, List.set_cons_succ, Nat.reduceAdd, Nat.reduceSub, Nat.sub_self, if_true, if_false, decide_eq_true_eq, Bool.false_eq_true, Bool.not_true, Bool.not_false, id_eq, ite_true, ite_false, isi_bl k_tuple, isi_bl k_bool, ib4, ib1, pIsB, decide_true]; exact h
    | int i => simp only [bLike, dSeq, dNext, dIf, dRet, dRetN, dDrop, dAsg, gN, gN0, gNc, gTp, gSubL, dPar, dPar3, dAug, dVar, dC, dOp, dUn, dTest, dAnd, dOr, dNot, dAndV, dOrV, dNotV, dIfE, dNil, dCons, dTup, dLst, dCB, dCall, dstart, dget, dset, dwp, dclr, asB, pI0, pI, pU, pAdd, pMul, pEqB, pIsB, pIx, pCI, pC2, pInt, pIsi, pLen, optQ, stL, lstAt, lsOf, atI0, atI1, atI2, atI3, ixN0, ixN1, ixN2, ixN3, mupd_same, mupd_mupd, dFor, iRng, List.map_cons, List.map_nil, List.length_cons, List.length_nil, List.replicate, List.cons_append, List.nil_append, List.append_nil, List.set_cons_zero, List.set_cons_succ, Nat.reduceAdd, Nat.reduceSub, Nat.sub_self, if_true, if_false, decide_eq_true_eq, Bool.false_eq_true, Bool.not_true, Bool.not_false, id_eq, ite_true, ite_false, isi_int k_tuple, isi_int k_bool, isi_int k_str, isi_int k_int, ii1, ii2, ii3, ii4, pIsB, decide_true]; exact h
    | str x => simp only [bLike, dSeq, dNext, dIf, dRet, dRetN, dDrop, dAsg, gN, gN0, gNc, gTp, gSubL, dPar, dPar3, dAug, dVar, dC, dOp, dUn, dTest, dAnd, dOr, dNot, dAndV, dOrV, dNotV, dIfE, dNil, dCons, dTup, dLst, dCB, dCall, dstart, dget, dset, dwp, dclr, asB, pI0, pI, pU, pAdd, pMul, pEqB, pIsB, pIx, pCI, pC2, pInt, pIsi, pLen, optQ, stL, lstAt, lsOf, atI0, atI1, atI2, atI3, ixN0, ixN1, ixN2, ixN3, mupd_same, mupd_mupd, dFor, iRng, List.map_cons, List.map_nil, List.length_cons, List.length_nil, List.replicate, List.cons_append, List.nil_append, List.append_nil, List.set_cons_zero, List.set_cons_succ, Nat.reduceAdd, Nat.reduceSub, Nat.sub_self, if_true, if_false, decide_eq_true_eq, Bool.false_eq_true, Bool.not_true, Bool.not_false, id_eq, ite_true, ite_false, isi_str k_tuple, isi_str k_bool, isi_str k_str, is4, is1, is3, pIsB, decide_true]; exact h
    | tup es =>
      cases k with
      | zero => exact hk.elim
      | succ k =>
        obtain ⟨hs, hd⟩ := hk
        simp only [bLike, dSeq, dNext, dIf, dRet, dRetN, dDrop, dAsg, gN, gN0, gNc, gTp, gSubL, dPar, dPar3, dAug, dVar, dC, dOp, dUn, dTest, dAnd, dOr, dNot, dAndV, dOrV, dNotV, dIfE, dNil, dCons, dTup, dLst, dCB, dCall, dstart, dget, dset, dwp, dclr, asB, pI0, pI, pU, pAdd, pMul, pEqB, pIsB, pIx, pCI, pC2, pInt, pIsi, pLen, optQ, stL, lstAt, lsOf, atI0, atI1, atI2, atI3, ixN0, ixN1, ixN2, ixN3, mupd_same, mupd_mupd, dFor, iRng, List.map_cons, List.map_nil, List.length_cons, List.length_nil, List.replicate, List.cons_append, List.nil_append, List.append_nil, List.set_cons_zero, List.set_cons_succ, Nat.reduceAdd, Nat.reduceSub, Nat.sub_self, if_true, if_false, decide_eq_true_eq, Bool.false_eq_true, Bool.not_true, Bool.not_false, id_eq, ite_true, ite_false, isi_tup k_tuple, it4, decide_true, dPure, dLc, pBs]
        have h62 : (es.length : Int) < 2 ^ 62 := by
          have : sizeLine < 2 ^ 62 := by decide +kernel
          omega
        refine ⟨⟨by omega, h62⟩, fun p np => ?_⟩
        refine lc_rng (fun _ => .bl true) (fun i hi xs K k' => ?_) hs ?_
        · simp only [dSeq, dNext, dIf, dRet, dRetN, dDrop, dAsg, gN, gN0, gNc, gTp, gSubL, dPar, dPar3, dAug, dVar, dC, dOp, dUn, dTest, dAnd, dOr, dNot, dAndV, dOrV, dNotV, dIfE, dNil, dCons, dTup, dLst, dCB, dCall, dstart, dget, dset, dwp, dclr, asB, pI0, pI, pU, pAdd, pMul, pEqB, pIsB, pIx, pCI, pC2, pInt, pIsi, pLen, optQ, stL, lstAt, lsOf, atI0, atI1, atI2, atI3, ixN0, ixN1, ixN2, ixN3, mupd_same, mupd_mupd, dFor, iRng, List.map_cons, List.map_nil, List.length_cons, List.length_nil, List.replicate, List.cons_append, List.nil_append, List.append_nil, List.set_cons_zero, List.set_cons_succ, Nat.reduceAdd, Nat.reduceSub, Nat.sub_self, if_true, if_false, decide_eq_true_eq, Bool.false_eq_true, Bool.not_true, Bool.not_false, id_eq, ite_true, ite_false]
          rw [atI_nat, List.getElem?_eq_getElem hi]
          simp only [sp_like, spLikeS]
          exact ⟨trivial, hd _ (List.getElem_mem _), k'⟩
        · simp only [dSeq, dNext, dIf, dRet, dRetN, dDrop, dAsg, gN, gN0, gNc, gTp, gSubL, dPar, dPar3, dAug, dVar, dC, dOp, dUn, dTest, dAnd, dOr, dNot, dAndV, dOrV, dNotV, dIfE, dNil, dCons, dTup, dLst, dCB, dCall, dstart, dget, dset, dwp, dclr, asB, pI0, pI, pU, pAdd, pMul, pEqB, pIsB, pIx, pCI, pC2, pInt, pIsi, pLen, optQ, stL, lstAt, lsOf, atI0, atI1, atI2, atI3, ixN0, ixN1, ixN2, ixN3, mupd_same, mupd_mupd, dFor, iRng, List.map_cons, List.map_nil, List.length_cons, List.length_nil, List.replicate, List.cons_append, List.nil_append, List.append_nil, List.set_cons_zero, List.set_cons_succ, Nat.reduceAdd, Nat.reduceSub, Nat.sub_self, if_true, if_false, decide_eq_true_eq, Bool.false_eq_true, Bool.not_true, Bool.not_false, id_eq, ite_true, ite_false, map_const, List.length_range, bsOf_rep]
          rw [show (List.replicate es.length true).all id = true by simp]
          exact ⟨Sub.new np, h⟩
    | ref a => exact absurd hk (by cases k <;> exact id)
    | ty n => exact absurd hk (by cases k <;> exact id)
    | kl ds => exact absurd hk (by cases k <;> exact id)
  · exact h.elim
/-! ### _law_well -/
def bWellEnd : DTS := dRet (dLst (dCons (dOp pIx (dLst (dCons (dC (.int 0)) (dCons (dVar 2) dNil))) (dCB pInt (dCons (dOp pGe (dVar 2) (dOp pPow (dC (.int 10)) (dC (.int 18)))) dNil))) (dCons (dOp pAdd (dOp pMod (dCB pInt (dCons (dOp pAdd (dOp pMul (dOp pMod (dCB pInt (dCons (dVar 2) dNil)) (dC (.int 2147483563))) (dC (.int 45007))) (dOp pMul (dC (.int 42013)) (dVar 1))) dNil)) (dC (.int 2147483563))) (dC (.int 1))) (dCons (dC (.int 0)) dNil))))
def bWell : DTS :=
    (dSeq (dAsg (dOp pAdd (dOp pMul (dC (.int 6121)) (dVar 1)) (dC (.int 811))) (gN 2))
    (dSeq (dIf (dTest (dOp pLt (dVar 1) (dCB pLen (dCons (dVar 0) dNil)))) (dAsg (dOp pMod (dCB pInt (dCons (dCB pAbs (dCons (dOp pIx (dVar 0) (dVar 1)) dNil)) dNil)) (dOp pPow (dC (.int 10)) (dC (.int 60)))) (gN 2)) (dIf (dTest (dOp pGt (dCB pLen (dCons (dVar 0) dNil)) (dC (.int 0)))) (dAsg (dOp pAdd (dVar 2) (dOp pMul (dOp pMod (dCB pInt (dCons (dCB pAbs (dCons (dOp pIx (dVar 0) (dOp pMod (dCB pInt (dCons (dVar 1) dNil)) (dCB pLen (dCons (dVar 0) dNil)))) dNil)) dNil)) (dC (.int 2147483563))) (dC (.int 60029)))) (gN 2)) dNext))
    bWellEnd))
def sp_well : DSp := fun ds M Q => match ds with
  | [.kl xs, .int k] => ∃ ns : List Int, xs = ns.map D.int ∧ 0 ≤ k ∧ k < 1000 ∧ ∀ (p : Addr) (M' : Mem), Sub M M' → M p = none → Wl 0 M' p → Q (.ref p) M'
  | _ => False
theorem sp_well_mono : MonoSp sp_well := ⟨fun {ds M Q Q'} h q => by
  unfold sp_well at q ⊢
  split at q
  · obtain ⟨ns, a, b, c, d⟩ := q
    exact ⟨ns, a, b, c, fun p M' u v w => h _ _ (d p M' u v w)⟩
  · exact q⟩
theorem well_end (cell k : Int) (k0 : 0 ≤ k) (k1 : k < 1000) (c0 : 0 ≤ cell) (c1 : cell < 10 ^ 60) (M : Mem) (Q : DQ) (h : ∀ (p : Addr) (M' : Mem), Sub M M' → M p = none → Wl 0 M' p → Q (.ref p) M') (x : DS) (s : D) :
    bWellEnd
      { nx := fun _ M' => Q .non M', rt := Q } [some s, some (.int k), some (.int cell)] M := by
  simp only [bWellEnd, dSeq, dNext, dIf, dRet, dRetN, dDrop, dAsg, gN, gN0, gNc, gTp, gSubL, dPar, dPar3, dAug, dVar, dC, dOp, dUn, dTest, dAnd, dOr, dNot, dAndV, dOrV, dNotV, dIfE, dNil, dCons, dTup, dLst, dCB, dCall, dstart, dget, dset, dwp, dclr, asB, pI0, pI, pU, pAdd, pMul, pEqB, pIsB, pIx, pCI, pC2, pInt, pIsi, pLen, optQ, stL, lstAt, lsOf, atI0, atI1, atI2, atI3, ixN0, ixN1, ixN2, ixN3, mupd_same, mupd_mupd, dFor, iRng, List.map_cons, List.map_nil, List.length_cons, List.length_nil, List.replicate, List.cons_append, List.nil_append, List.append_nil, List.set_cons_zero, List.set_cons_succ, Nat.reduceAdd, Nat.reduceSub, Nat.sub_self, if_true, if_false, decide_eq_true_eq, Bool.false_eq_true, Bool.not_true, Bool.not_false, id_eq, ite_true, ite_false]
  refine ⟨by decide, fun p np => ?_⟩
  refine ⟨⟨by decide, by decide, by decide⟩, ?_⟩
  have hm := fmod_pos cell (b := 2147483563) (by omega)
  have hm2 := fmod_pos ((cell.fmod 2147483563 * 45007 + 42013 * k)) (b := 2147483563) (by omega)
  by_cases hge : (10 : Int) ^ (18 : Int).toNat ≤ cell
  · simp only [hge, dSeq, dNext, dIf, dRet, dRetN, dDrop, dAsg, gN, gN0, gNc, gTp, gSubL, dPar, dPar3, dAug, dVar, dC, dOp, dUn, dTest, dAnd, dOr, dNot, dAndV, dOrV, dNotV, dIfE, dNil, dCons, dTup, dLst, dCB, dCall, dstart, dget, dset, dwp, dclr, asB, pI0, pI, pU, pAdd, pMul, pEqB, pIsB, pIx, pCI, pC2, pInt, pIsi, pLen, optQ, stL, lstAt, lsOf, atI0, atI1, atI2, atI3, ixN0, ixN1, ixN2, ixN3, mupd_same, mupd_mupd, dFor, iRng, List.map_cons, List.map_nil, List.length_cons, List.length_nil, List.replicate, List.cons_append, List.nil_append, List.append_nil, List.set_cons_zero, List.set_cons_succ, Nat.reduceAdd, Nat.reduceSub, Nat.sub_self, if_true, if_false, decide_eq_true_eq, Bool.false_eq_true, Bool.not_true, Bool.not_false, id_eq, ite_true, ite_false]
    refine ⟨by decide, mulx_ok (a := 64) (b := 64) (by omega) (by omega) (by decide), mulx_ok (a := 64) (b := 64) (by omega) (by omega) (by decide), by decide, by decide, fun q nq => ?_⟩
    have nq' : M q = none := by
      by_cases z : q = p
      · subst z; exact np
      · rw [mupd_ne z] at nq; exact nq
    exact h q _ ((Sub.new np).new' nq') nq' ⟨_, _, _, mupd_same, by omega⟩
  · simp only [hge, dSeq, dNext, dIf, dRet, dRetN, dDrop, dAsg, gN, gN0, gNc, gTp, gSubL, dPar, dPar3, dAug, dVar, dC, dOp, dUn, dTest, dAnd, dOr, dNot, dAndV, dOrV, dNotV, dIfE, dNil, dCons, dTup, dLst, dCB, dCall, dstart, dget, dset, dwp, dclr, asB, pI0, pI, pU, pAdd, pMul, pEqB, pIsB, pIx, pCI, pC2, pInt, pIsi, pLen, optQ, stL, lstAt, lsOf, atI0, atI1, atI2, atI3, ixN0, ixN1, ixN2, ixN3, mupd_same, mupd_mupd, dFor, iRng, List.map_cons, List.map_nil, List.length_cons, List.length_nil, List.replicate, List.cons_append, List.nil_append, List.append_nil, List.set_cons_zero, List.set_cons_succ, Nat.reduceAdd, Nat.reduceSub, Nat.sub_self, if_true, if_false, decide_eq_true_eq, Bool.false_eq_true, Bool.not_true, Bool.not_false, id_eq, ite_true, ite_false]
    refine ⟨by decide, mulx_ok (a := 64) (b := 64) (by omega) (by omega) (by decide), mulx_ok (a := 64) (b := 64) (by omega) (by omega) (by decide), by decide, by decide, fun q nq => ?_⟩
    have nq' : M q = none := by
      by_cases z : q = p
      · subst z; exact np
      · rw [mupd_ne z] at nq; exact nq
    exact h q _ ((Sub.new np).new' nq') nq' ⟨_, _, _, mupd_same, by omega⟩
theorem atI_map {α β : Type} (f : α → β) (xs : List α) (i : Int) : atI (xs.map f) i = (atI xs i).map f := by
  unfold atI
  rw [List.length_map]
  cases ixN xs.length i with
  | none => rfl
  | some j => simp
theorem body_well (ds : List D) (M : Mem) (Q : DQ) (hc : Clo Q) (h : sp_well ds M Q) : bWell { nx := fun _ M' => Q .non M', rt := Q } (dstart ["script", "k", "cell"] ds) M := by
  unfold sp_well at h
  split at h
  · rename_i xs k
    obtain ⟨ns, rfl, k0, k1, h⟩ := h
    unfold bWell dSeq
    by_cases hl : k < ((ns.map D.int).length : Nat)
    · have e : decide (k < ((ns.map D.int).length : Nat)) = true := decide_eq_true hl
      simp only [dSeq, dNext, dIf, dRet, dRetN, dDrop, dAsg, gN, gN0, gNc, gTp, gSubL, dPar, dPar3, dAug, dVar, dC, dOp, dUn, dTest, dAnd, dOr, dNot, dAndV, dOrV, dNotV, dIfE, dNil, dCons, dTup, dLst, dCB, dCall, dstart, dget, dset, dwp, dclr, asB, pI0, pI, pU, pAdd, pMul, pEqB, pIsB, pIx, pCI, pC2, pInt, pIsi, pLen, optQ, stL, lstAt, lsOf, atI0, atI1, atI2, atI3, ixN0, ixN1, ixN2, ixN3, mupd_same, mupd_mupd, dFor, iRng, List.map_cons, List.map_nil, List.length_cons, List.length_nil, List.replicate, List.cons_append, List.nil_append, List.append_nil, List.set_cons_zero, List.set_cons_succ, Nat.reduceAdd, Nat.reduceSub, Nat.sub_self, if_true, if_false, decide_eq_true_eq, Bool.false_eq_true, Bool.not_true, Bool.not_false, id_eq, ite_true, ite_false, e]
      refine ⟨mulx_ok (a := 64) (b := 64) (by omega) (by omega) (by decide), ?_⟩
      rw [List.length_map] at hl
      rw [atI_map, atI_lt k0 hl]
      simp only [Option.map_some, dSeq, dNext, dIf, dRet, dRetN, dDrop, dAsg, gN, gN0, gNc, gTp, gSubL, dPar, dPar3, dAug, dVar, dC, dOp, dUn, dTest, dAnd, dOr, dNot, dAndV, dOrV, dNotV, dIfE, dNil, dCons, dTup, dLst, dCB, dCall, dstart, dget, dset, dwp, dclr, asB, pI0, pI, pU, pAdd, pMul, pEqB, pIsB, pIx, pCI, pC2, pInt, pIsi, pLen, optQ, stL, lstAt, lsOf, atI0, atI1, atI2, atI3, ixN0, ixN1, ixN2, ixN3, mupd_same, mupd_mupd, dFor, iRng, List.map_cons, List.map_nil, List.length_cons, List.length_nil, List.replicate, List.cons_append, List.nil_append, List.append_nil, List.set_cons_zero, List.set_cons_succ, Nat.reduceAdd, Nat.reduceSub, Nat.sub_self, if_true, if_false, decide_eq_true_eq, Bool.false_eq_true, Bool.not_true, Bool.not_false, id_eq, ite_true, ite_false]
      refine ⟨⟨by decide, by decide, by decide⟩, by decide, ?_⟩
      have hm := fmod_pos ((ns[k.toNat]'(by omega)).natAbs : Int) (b := 10 ^ (60 : Int).toNat) (by decide)
      exact well_end _ k k0 k1 hm.1 hm.2 M Q h [] _
    · have e : decide (k < ((ns.map D.int).length : Nat)) = false := decide_eq_false hl
      simp only [dSeq, dNext, dIf, dRet, dRetN, dDrop, dAsg, gN, gN0, gNc, gTp, gSubL, dPar, dPar3, dAug, dVar, dC, dOp, dUn, dTest, dAnd, dOr, dNot, dAndV, dOrV, dNotV, dIfE, dNil, dCons, dTup, dLst, dCB, dCall, dstart, dget, dset, dwp, dclr, asB, pI0, pI, pU, pAdd, pMul, pEqB, pIsB, pIx, pCI, pC2, pInt, pIsi, pLen, optQ, stL, lstAt, lsOf, atI0, atI1, atI2, atI3, ixN0, ixN1, ixN2, ixN3, mupd_same, mupd_mupd, dFor, iRng, List.map_cons, List.map_nil, List.length_cons, List.length_nil, List.replicate, List.cons_append, List.nil_append, List.append_nil, List.set_cons_zero, List.set_cons_succ, Nat.reduceAdd, Nat.reduceSub, Nat.sub_self, if_true, if_false, decide_eq_true_eq, Bool.false_eq_true, Bool.not_true, Bool.not_false, id_eq, ite_true, ite_false, e]
      refine ⟨mulx_ok (a := 64) (b := 64) (by omega) (by omega) (by decide), ?_⟩
      rw [List.length_map] at hl ⊢
      by_cases h0 : (0 : Int) < (ns.length : Nat)
      · simp only [dSeq, dNext, dIf, dRet, dRetN, dDrop, dAsg, gN, gN0, gNc, gTp, gSubL, dPar, dPar3, dAug, dVar, dC, dOp, dUn, dTest, dAnd, dOr, dNot, dAndV, dOrV, dNotV, dIfE, dNil, dCons, dTup, dLst, dCB, dCall, dstart, dget, dset, dwp, dclr, asB, pI0, pI, pU, pAdd, pMul, pEqB, pIsB, pIx, pCI, pC2, pInt, pIsi, pLen, optQ, stL, lstAt, lsOf, atI0, atI1, atI2, atI3, ixN0, ixN1, ixN2, ixN3, mupd_same, mupd_mupd, dFor, iRng, List.map_cons, List.map_nil, List.length_cons, List.length_nil, List.replicate, List.cons_append, List.nil_append, List.append_nil, List.set_cons_zero, List.set_cons_succ, Nat.reduceAdd, Nat.reduceSub, Nat.sub_self, if_true, if_false, decide_eq_true_eq, Bool.false_eq_true, Bool.not_true, Bool.not_false, id_eq, ite_true, ite_false, h0]
        have hm := fmod_pos k h0
        refine ⟨by omega, ?_⟩
        rw [atI_map, atI_lt hm.1 hm.2]
        simp only [Option.map_some, dSeq, dNext, dIf, dRet, dRetN, dDrop, dAsg, gN, gN0, gNc, gTp, gSubL, dPar, dPar3, dAug, dVar, dC, dOp, dUn, dTest, dAnd, dOr, dNot, dAndV, dOrV, dNotV, dIfE, dNil, dCons, dTup, dLst, dCB, dCall, dstart, dget, dset, dwp, dclr, asB, pI0, pI, pU, pAdd, pMul, pEqB, pIsB, pIx, pCI, pC2, pInt, pIsi, pLen, optQ, stL, lstAt, lsOf, atI0, atI1, atI2, atI3, ixN0, ixN1, ixN2, ixN3, mupd_same, mupd_mupd, dFor, iRng, List.map_cons, List.map_nil, List.length_cons, List.length_nil, List.replicate, List.cons_append, List.nil_append, List.append_nil, List.set_cons_zero, List.set_cons_succ, Nat.reduceAdd, Nat.reduceSub, Nat.sub_self, if_true, if_false, decide_eq_true_eq, Bool.false_eq_true, Bool.not_true, Bool.not_false, id_eq, ite_true, ite_false]
        refine ⟨by decide, ?_⟩
        generalize ((ns[(k.fmod (ns.length : Nat)).toNat]'(by omega)).natAbs : Int) = z
        have hz := fmod_pos z (b := 2147483563) (by decide)
        refine ⟨mulx_ok (a := 64) (b := 64) (by omega) (by omega) (by decide), ?_⟩
        exact well_end _ k k0 k1 (by omega) (by omega) M Q h [] _
      · simp only [dSeq, dNext, dIf, dRet, dRetN, dDrop, dAsg, gN, gN0, gNc, gTp, gSubL, dPar, dPar3, dAug, dVar, dC, dOp, dUn, dTest, dAnd, dOr, dNot, dAndV, dOrV, dNotV, dIfE, dNil, dCons, dTup, dLst, dCB, dCall, dstart, dget, dset, dwp, dclr, asB, pI0, pI, pU, pAdd, pMul, pEqB, pIsB, pIx, pCI, pC2, pInt, pIsi, pLen, optQ, stL, lstAt, lsOf, atI0, atI1, atI2, atI3, ixN0, ixN1, ixN2, ixN3, mupd_same, mupd_mupd, dFor, iRng, List.map_cons, List.map_nil, List.length_cons, List.length_nil, List.replicate, List.cons_append, List.nil_append, List.append_nil, List.set_cons_zero, List.set_cons_succ, Nat.reduceAdd, Nat.reduceSub, Nat.sub_self, if_true, if_false, decide_eq_true_eq, Bool.false_eq_true, Bool.not_true, Bool.not_false, id_eq, ite_true, ite_false, h0]
        exact well_end _ k k0 k1 (by omega) (by omega) M Q h [] _
  · exact h.elim
end DL

namespace DL
open PySem PySem.Spec PyProof.Rows L2
/-! ### a promise that nothing meets -/
def spNo : DSp := fun _ _ _ => False
theorem fn_no {P : Program} {w : World} {K : PySem.W.Frag} {mg : Str → Option Value} {base : Heap} {k : Nat} {f : Addr} {fd : FuncData} {ps : List Str} : FnOk P w K mg base CX0 k f fd ps (upSp K spNo) :=
  ⟨fun vs H Q E ⟨_, _, _, _, h⟩ => h.elim, fun A outer s H args us vs Q E _ _ _ _ ⟨_, _, _, _, h⟩ => h.elim⟩
theorem spNo_mono : MonoSp spNo := ⟨fun _ q => q⟩
/-! ### constants of the module -/
mutual
def repB (K : PySem.W.Frag) : D → Value → Bool
  | .non, .none => true
  | .bl b, .bool c => b == c
  | .int i, .int j _ => decide (i = j)
  | .str x, .str y _ => decide (x = y)
  | .ty n, .type m => decide (n = m)
  | .tup ds, .ref a => match K.lookup a with
    | some ⟨.type c, _, .seq its _, _⟩ => decide (c = "tuple") && (decide (its.size ≤ sizeLine) && repBs K ds its.toList)
    | _ => false
  | _, _ => false
def repBs (K : PySem.W.Frag) : List D → List Value → Bool
  | [], [] => true
  | d :: ds, u :: us => repB K d u && repBs K ds us
  | _, _ => false
end
mutual
theorem repB_ok {K : PySem.W.Frag} : ∀ (d : D) (u : Value), repB K d u = true → ∃ v, RelV v u ∧ ∀ H, Rep K H v d
  | .non, u, h => by
    cases u with
    | none => exact ⟨.non, rfl, fun _ => .non⟩
    | _ => simp [repB] at h
  | .bl b, u, h => by
    cases u with
    | bool c =>
      simp only [repB, beq_iff_eq] at h
      subst h
      exact ⟨.bl b, rfl, fun _ => .bl b⟩
    | _ => simp [repB] at h
  | .int i, u, h => by
    cases u with
    | int j t =>
      simp only [repB, decide_eq_true_eq] at h
      subst h
      exact ⟨.int i, ⟨_, rfl⟩, fun _ => .int i⟩
    | _ => simp [repB] at h
  | .str x, u, h => by
    cases u with
    | str y t =>
      simp only [repB, decide_eq_true_eq] at h
      subst h
      exact ⟨.str x, ⟨_, rfl⟩, fun _ => .str x⟩
    | _ => simp [repB] at h
  | .ty n, u, h => by
    cases u with
    | type m =>
      simp only [repB, decide_eq_true_eq] at h
      subst h
      exact ⟨.ty n, rfl, fun _ => .ty n⟩
    | _ => simp [repB] at h
  | .ref a, u, h => by cases u <;> simp [repB] at h
  | .kl ds, u, h => by cases u <;> simp [repB] at h
  | .tup ds, u, h => by
    cases u with
    | ref a =>
      simp only [repB] at h
      split at h
      · rename_i c od its n os e
        simp only [Bool.and_eq_true, decide_eq_true_eq] at h
        obtain ⟨rfl, hs, hr⟩ := h
        obtain ⟨vs, r, q⟩ := repBs_ok ds its.toList hr
        exact ⟨.ref a, rfl, fun H => .tup (.inr ⟨_, its, n, e, rfl, rfl, hs, r⟩) (q H)⟩
      · cases h
    | _ => simp [repB] at h
theorem repBs_ok {K : PySem.W.Frag} : ∀ (ds : List D) (us : List Value), repBs K ds us = true → ∃ vs, Vals vs us ∧ ∀ H, Reps K H vs ds
  | [], us, h => by
    cases us with
    | nil => exact ⟨[], .nil, fun _ => .nil⟩
    | cons => simp [repBs] at h
  | d :: ds, us, h => by
    cases us with
    | nil => simp [repBs] at h
    | cons u us =>
      simp only [repBs, Bool.and_eq_true] at h
      obtain ⟨v, r, q⟩ := repB_ok d u h.1
      obtain ⟨vs, rs, qs⟩ := repBs_ok ds us h.2
      exact ⟨v :: vs, .cons r rs, fun H => .cons (q H) (qs H)⟩
end
def cOk (K : PySem.W.Frag) (p : Str × D) : Bool := match PySem.W.nsIn K mainGlobals p.1 with
  | some (some u) => repB K p.2 u
  | _ => false
theorem gc_ok {K : PySem.W.Frag} {h : Heap} {mg : Str → Option Value} (X : K.In h) (G : h.Ns mainGlobals mg) {x : Str} {d : D} (c : cOk K (x, d) = true) : GC K mg x d := by
  unfold cOk at c
  split at c
  · rename_i u e
    obtain ⟨v, r, q⟩ := repB_ok d u c
    exact ⟨u, v, PySem.W.mg_of X G e, r, q⟩
  · cases c
/-! ### the Hook: facts, constants, defs -/
open He in
def obsC (fa : List Fa) (cs : List (Str × D)) (fn : List DefD) (K : PySem.W.Frag) : AlD := (((fa.all fun f => f.ok K) && cs.all fun p => cOk K p) && fn.all fun d => d.ok K, fn.map fun d => fnW K d.at_)
open He in
def SaysC (fa : List Fa) (cs : List (Str × D)) (fn : List DefD) (K : PySem.W.Frag) : Prop := obsC fa cs fn K = valD fn
open He in
def obsCG (n : Nat) (fa : List Fa) (cs : List (Str × D)) (fn : List DefD) (g : Addr → Option Obj) : AlD := obsC fa cs fn (frG g (asD g n))
open He in
def hookC (n : Nat) (fa : List Fa) (cs : List (Str × D)) (fn : List DefD) : PySem.W.Hook where
  α := AlD
  obs := fun s => obsCG n fa cs fn s.heap.get?
  val := fun _ => valD fn
  says := fun _ h => ∃ K : PySem.W.Frag, K.In h ∧ SaysC fa cs fn K
  of := fun _ _ e => ⟨_, frG_in, e⟩
  keeps := fun _ _ _ ⟨K, hK, c⟩ k => ⟨K, PySem.W.Frag.In.keeps hK k, c⟩
open He in
theorem obsCG_eq {n : Nat} {fa : List Fa} {cs : List (Str × D)} {fn : List DefD} {g : Addr → Option Obj} {s : Shared} (h : ∀ a, g a = s.heap.get? a) : obsCG n fa cs fn g = (hookC n fa cs fn).obs s := by
  have e : g = s.heap.get? := funext h
  rw [e] <;> rfl
section
open He
variable {fa : List Fa} {cs : List (Str × D)} {fn : List DefD} {K : PySem.W.Frag}
theorem SaysC.d (c : SaysC fa cs fn K) : SaysD fa fn K := by
  have c1 := ba (show (((fa.all fun f => f.ok K) && cs.all fun p => cOk K p) && fn.all fun d => d.ok K) = true from congrArg (fun z : AlD => z.1) c)
  have c2 := ba c1.1
  have e : fn.map (fun d => fnW K d.at_) = fn.map DefD.val := congrArg (fun z : AlD => z.2) c
  show ((fa.all fun f => f.ok K) && fn.all fun d => d.ok K, fn.map fun d => fnW K d.at_) = valD fn
  rw [c2.1, c1.2, e]; rfl
theorem SaysC.con (c : SaysC fa cs fn K) (i : Nat) {p : Str × D} (h : cs[i]? = some p := by rfl) : cOk K p = true := by
  have c1 := ba (show (((fa.all fun f => f.ok K) && cs.all fun p => cOk K p) && fn.all fun d => d.ok K) = true from congrArg (fun z : AlD => z.1) c)
  exact List.all_eq_true.mp (ba c1.1).2 p (List.mem_of_getElem? h)
end
/-- the script is a list that nothing changes -/
theorem law_up {K : PySem.W.Frag} {sp : DSp} (hsp : ∀ (ns : List Int) (M : Mem) (Q : DQ), Q (.bl true) M → sp [.kl (ns.map D.int)] M Q) (H : Hp) (a : Addr) (ns : List Int) (hO : Only H) (hS : SqL K H a (ns.map V.int)) :
    upSp K sp [.ref a] H (fun v _ => v = .bl true) fun _ _ _ => False := by
  have hk : SqK K H a (ns.map V.int) := by
    rcases hS with (h | ⟨o, h⟩) | h
    · rcases hO a with e | ⟨o, xs, e⟩ <;> (rw [e] at h; cases h)
    · exact .inl ⟨o, h⟩
    · exact .inr h
  refine ⟨[.kl (ns.map D.int)], fun _ => none, .cons (.kl hk (Reps.of_ints ns)) .nil, ?_, hsp ns _ _ fun v H' k r m => ?_⟩
  · intro b o e; cases e
  · cases r; rfl
end DL

namespace DL
open PySem PySem.Spec PyProof.Rows L2
/-! ### tuple * int, of any number -/
theorem tup_mulSame (l : Addr) (items : Array Value) (n : Nat) (dd : Option Addr) (sl : Array (Option Value)) (x : Int) (u : Tok) (c0 : (decide (x < -(2 ^ 63)) || decide (x ≥ 2 ^ 63)) = false) (c1 : (items.isEmpty || x == 1) = true) :
    Meets (Builtin.«tuple.__mul__» ⟨[.ref l, .int x u], []⟩) (fun _ R s => s.heap.get? l = some { cls := .type "tuple", dict := dd, data := .seq items n, slots := sl } ∧ R (.ok (.ret (Value.ref l))) s) :=
  .of_wp fun prog w A R s h => by
    obtain ⟨hp, g, d, tk, os⟩ := s
    obtain ⟨hl, h⟩ := h
    have f1 := AutoSeq1.idx_int
    wp_walk using wpAny_loadPart' hl
    repeat (first
      | (refine wpAny_ite_false (decide_eq_false (by rw [c0]; exact Bool.false_ne_true)) ?_; wp_walk using wpAny_loadPart' hl)
      | (refine wpAny_ite_true (decide_eq_true c1) ?_; wp_walk using wpAny_loadPart' hl))
    exact ⟨_, rfl, h⟩
theorem tup_mulNone (l : Addr) (items : Array Value) (n : Nat) (dd : Option Addr) (sl : Array (Option Value)) (x : Int) (u : Tok) (c0 : (decide (x < -(2 ^ 63)) || decide (x ≥ 2 ^ 63)) = false) (c1 : (items.isEmpty || x == 1) = false) (c2 : (decide (x ≤ 0) || items.isEmpty) = true) :
    Meets (Builtin.«tuple.__mul__» ⟨[.ref l, .int x u], []⟩) (fun _ R s => s.heap.get? l = some { cls := .type "tuple", dict := dd, data := .seq items n, slots := sl } ∧
      R (.ok (.ret (Value.ref s.heap.objs.size))) { s with heap := s.heap.push { cls := Value.type "tuple", data := Data.seq #[] }, toks := s.toks }) :=
  .of_wp fun prog w A R s h => by
    obtain ⟨hp, g, d, tk, os⟩ := s
    obtain ⟨hl, h⟩ := h
    have f1 := AutoSeq1.idx_int
    wp_walk using wpAny_loadPart' hl
    repeat (first
      | (refine wpAny_ite_false (decide_eq_false (by rw [c0]; exact Bool.false_ne_true)) ?_; wp_walk using wpAny_loadPart' hl)
      | (refine wpAny_ite_false (decide_eq_false (by rw [c1]; exact Bool.false_ne_true)) ?_; wp_walk using wpAny_loadPart' hl)
      | (refine wpAny_ite_true (decide_eq_true c2) ?_; wp_walk using wpAny_loadPart' hl))
    exact ⟨_, rfl, h⟩
def rRepT0 (K : PySem.W.Frag) : R2 := fun x y H Q => ∃ l k xs, x = .ref l ∧ y = .int k ∧ SqT K H l xs ∧ -(2 ^ 63) ≤ k ∧ k ≤ 1000 ∧ xs.length ≤ 1000 ∧
  ((xs = [] ∨ k = 1) → Q (.ref l) H) ∧ (xs ≠ [] → k ≠ 1 → ∀ p, H p = none → Q (.ref p) (upd H p (.tup (List.replicate k.toNat xs).flatten)))
section
variable {X : Cx}
theorem op_repT0 : OpR X (binaryOp .Mult) (rRepT0 X.K) := by
  intro pins s σ H x y v u Q I rx ry h
  obtain ⟨l, k, xs, rfl, rfl, hT, h1, h2, hz, q1, q2⟩ := h
  by_cases hs : xs = [] ∨ k = 1
  · cases rx
    obtain ⟨t, rfl⟩ := ry
    obtain ⟨its, r, ⟨⟨cls, dd, data, sl⟩, ho, hc, n, hd⟩, _⟩ := I.tuple hT
    simp only at hc hd
    subst hc hd
    have c0 : (decide (k < -(2 ^ 63)) || decide (k ≥ 2 ^ 63)) = false := by
      rw [decide_eq_false (by omega), decide_eq_false (by omega)] <;> rfl
    have c1 : (its.toArray.isEmpty || k == 1) = true := by
      rcases hs with e | e
      · subst e
        cases r
        rfl
      · subst e
        simp
    exact wpAny_binaryOp_repeat_ref (T := "tuple") (U := "int") (by decide) ⟨_, ho, rfl⟩ (fun s' => typeIs_int s' k t) noFill_tuple_mul F.fills_int_mul F.slot_int_rmul repeat_tuple F.slot_int_index.lookup
      (call_meets F.slot_int_rmul (typeIs_int s k t) F.entry_int_rmul (F.args_int_rmul_2 _ _) (int_rmul_tuple k t l its.toArray n dd sl)
        ⟨ho, rfl, ⟨_, ho, rfl⟩, call_meets F.slot_tuple_mul ⟨_, ho, rfl⟩ F.entry_tuple_mul (F.args_tuple_mul_2 _ _) (tup_mulSame l its.toArray n dd sl k t c0 c1) ⟨ho, .ref l, H, I, rfl, q1 hs⟩⟩)
  · have hne : xs ≠ [] := fun e => hs (.inl e)
    have hk1 : k ≠ 1 := fun e => hs (.inr e)
    by_cases hk : 2 ≤ k
    · exact op_repT pins s σ H _ _ v u Q I rx ry ⟨l, k, xs, rfl, rfl, hT, hne, hk, h2, hz, q2 hne hk1⟩
    · cases rx
      obtain ⟨t, rfl⟩ := ry
      obtain ⟨its, r, ⟨⟨cls, dd, data, sl⟩, ho, hc, n, hd⟩, _⟩ := I.tuple hT
      simp only at hc hd
      subst hc hd
      have hi : its.toArray.isEmpty = false := by
        cases its with
        | nil => cases r; exact absurd rfl hne
        | cons a b => rfl
      have c0 : (decide (k < -(2 ^ 63)) || decide (k ≥ 2 ^ 63)) = false := by
        rw [decide_eq_false (by omega), decide_eq_false (by omega)] <;> rfl
      have c1 : (its.toArray.isEmpty || k == 1) = false := by
        rw [hi, Bool.false_or]
        exact beq_eq_false_iff_ne.mpr hk1
      have c2 : (decide (k ≤ 0) || its.toArray.isEmpty) = true := by
        rw [decide_eq_true (by omega)]; rfl
      have hk0 : k.toNat = 0 := by omega
      have q := q2 hne hk1
      rw [hk0] at q
      refine wpAny_binaryOp_repeat_ref (T := "tuple") (U := "int") (by decide) ⟨_, ho, rfl⟩ (fun s' => typeIs_int s' k t) noFill_tuple_mul F.fills_int_mul F.slot_int_rmul repeat_tuple F.slot_int_index.lookup
        (call_meets F.slot_int_rmul (typeIs_int s k t) F.entry_int_rmul (F.args_int_rmul_2 _ _) (int_rmul_tuple k t l its.toArray n dd sl)
          ⟨ho, rfl, ⟨_, ho, rfl⟩, call_meets F.slot_tuple_mul ⟨_, ho, rfl⟩ F.entry_tuple_mul (F.args_tuple_mul_2 _ _) (tup_mulNone l its.toArray n dd sl k t c0 c1 c2) ⟨ho, ?_⟩⟩)
      refine ⟨.ref _, _, I.laid (t' := s.toks) (o := .tup []) (fun b ob e => Heap.get?_push_of_some _ e) (Nat.le_refl _) ?_, rfl, q _ (I.hok.fresh (Nat.le_refl _))⟩
      exact ⟨by decide, [], Paired.nil, IsTup.new _ _⟩
end
theorem reps_rep {K : PySem.W.Frag} {H : Hp} {vs : List V} {ds : List D} (r : Reps K H vs ds) : ∀ n : Nat, Reps K H (List.replicate n vs).flatten (List.replicate n ds).flatten
  | 0 => .nil
  | n + 1 => by
    rw [List.replicate_succ, List.replicate_succ, List.flatten_cons, List.flatten_cons]
    exact r.append (reps_rep r n)
def pRepT : DR2 := fun x y M Q => match x, y with
  | .tup ds, .int k => -(2 ^ 63) ≤ k ∧ k ≤ 1000 ∧ ds.length ≤ 1000 ∧ Q (.tup (List.replicate k.toNat ds).flatten) M
  | _, _ => False
theorem opd_repT {K : PySem.W.Frag} : OpD K (rRepT0 K) pRepT := ⟨fun {x y dx dy H M Qd Q} rx ry m q o => by
  unfold pRepT at q
  split at q
  · rename_i ds k
    obtain ⟨h1, h2, h3, q⟩ := q
    cases ry
    cases rx with
    | tup h r =>
      refine ⟨_, _, _, rfl, rfl, h, h1, h2, by rw [r.length]; exact h3, fun e => o _ _ _ _ q (Keep.refl H) ?_ m, fun _ _ p np => o _ _ _ _ q (Keep.new np) (.tup (SqT.of upd_same) ((reps_rep r _).keep (Keep.new np))) (m.fresh np)⟩
      have e2 : (List.replicate k.toNat ds).flatten = ds := by
        rcases e with e | e
        · have : ds = [] := List.eq_nil_of_length_eq_zero (by rw [← r.length, e]; rfl)
          subst this
          simp
        · subst e
          simp
      rw [e2]
      exact .tup h r
  · exact q.elim, ⟨fun {x y M Q Q'} h q => by
  unfold pRepT at q ⊢
  split at q
  · exact ⟨q.1, q.2.1, q.2.2.1, h _ _ q.2.2.2⟩
  · exact q.elim⟩⟩
abbrev pMulC : DR2 := pI CMul fun i j => .int (i * j)
theorem opd_mulC {K : PySem.W.Frag} : OpD K (rI CMul fun i j => .int (i * j)) pMulC := opd_I fun _ _ _ => .int _
/-! ### += of numbers -/
abbrev pIAdd : DR2 := pI0 fun i j => .int (i + j)
theorem opd_iadd {K : PySem.W.Frag} : OpD K (rI0 fun i j => .int (i + j)) pIAdd := opd_I0 fun _ _ _ => .int _
/-! ### xs[::-1] -/
theorem sliceApplied_rev {prog : Program} {w : World} {A : Around} {E : Value → Shared → Prop} {s : Shared} {sl : Addr} {vs : Value} {n : Nat} {Q : Int × Int × Nat → Shared → Prop} (hs : s.heap.IsSliceOf sl .none .none vs) (ps : IsPart vs (some (-1)))
    (h : Q ((n : Int) - 1, -1, n) s) : wpAny (model prog w) A (Builtin.Slice.sliceApplied (.ref sl) (pure (n : Int))) Q E s := by
  obtain ⟨os, hos, hcs, hds⟩ := id hs
  unfold Builtin.Slice.sliceApplied Builtin.Slice.sliceFields
  refine wpAny_bind (wpAny_bind (wpAny_field hos hds (x := .none) rfl (wpAny_bind (wpAny_field hos hds (x := .none) rfl (wpAny_bind (wpAny_field hos hds (x := vs) rfl (wpAny_pure ?_)))))))
  refine wpAny_bind (HT.slicePart_ ps ?_)
  show wpAny _ _ (if ((-1 : Int) == 0) = true then _ else _) _ _ s
  rw [if_neg (by decide)]
  refine wpAny_bind (slicePart_none (wpAny_bind (slicePart_none (wpAny_bind (wpAny_pure ?_)))))
  have e : Builtin.Slice.sliceAdjust none none (-1) (n : Int) = ((n : Int) - 1, -1) := rfl
  show wpAny _ _ (match Builtin.Slice.sliceAdjust none none (-1) (n : Int) with | (lo, hi) => pure (lo, (-1 : Int), Builtin.Slice.slicePlaces lo hi (-1))) _ _ s
  rw [e]
  have e2 : Builtin.Slice.slicePlaces ((n : Int) - 1) (-1) (-1) = n := by
    unfold Builtin.Slice.slicePlaces
    rw [if_neg (by decide), show (-(-1) : Int) = 1 by decide, Int.ediv_one]
    split <;> omega
  show wpAny _ _ (pure ((n : Int) - 1, (-1 : Int), Builtin.Slice.slicePlaces ((n : Int) - 1) (-1) (-1))) _ _ s
  rw [e2]
  exact wpAny_pure h
theorem pick_rev (xs : Array Value) : ((List.range xs.size).filterMap fun (m : Nat) => xs[(((xs.size : Nat) : Int) - 1 + (m : Int) * -1).toNat]?).toArray = xs.toList.reverse.toArray := by
  congr 1
  have e : (fun (m : Nat) => xs[(((xs.size : Nat) : Int) - 1 + (m : Int) * -1).toNat]?) = (fun x => xs[x]?) ∘ fun k => xs.size - 1 - k := by
    funext m
    show xs[(((xs.size : Nat) : Int) - 1 + (m : Int) * -1).toNat]? = xs[xs.size - 1 - m]?
    congr 1
    omega
  rw [e, ← List.filterMap_map, PySem.W.krv_range, List.filterMap_reverse, PySem.W.krv_all]
theorem getItem_tuple_rev {prog : Program} {w : World} {A : Around} {E : Value → Shared → Prop} {s : Shared} {t sl : Addr} {items : Array Value} {vs : Value} {Q : Value → Shared → Prop} (ht : IsTup s.heap t items) (hs : s.heap.IsSliceOf sl .none .none vs) (ps : IsPart vs (some (-1)))
    (h : Q (.ref s.heap.objs.size) { s with heap := s.heap.push { cls := .type "tuple", data := .seq items.toList.reverse.toArray } })
    (hsz : items.size ≤ sizeLine) : wpAny (model prog w) A (getItem (.ref t) (.ref sl)) Q E s := by
  have hok : sizeOk (.seq items.toList.reverse.toArray) := by
    show items.toList.reverse.toArray.size ≤ sizeLine
    simpa using hsz
  obtain ⟨os, hos, hcs, hds⟩ := id hs
  have hTs : s.TypeIs (.ref sl) "slice" := ⟨os, hos, hcs⟩
  unfold getItem
  try with_reducible refine wpAny_holding ?_
  first | refine wpAny_bind (wpAny_pure ?_) | skip
  refine wpAny_bind (wpAny_sequenceKey ht.typeIs (by decide) ?_)
  refine wpAny_bind (wpAny_callSpecial?_slot (name := Str.ofString "__getitem__") ht.typeIs PyProof.Rows.slot_tuple_getitem
    (wpAny_call_entry PyProof.Rows.slot_tuple_getitem ht.typeIs entry_tuple_getitem ?_ (args_tuple_getitem _ _)))
  show wpAny _ _ (Builtin.Tuple.tupleItemsOf (.ref t) >>= _) _ _ s
  refine wpAny_bind (tupleItemsOf_ ht ?_)
  refine wpAny_bind (wpAny_typeOf hTs ?_)
  rw [if_pos (by decide)]
  refine wpAny_bind (sliceApplied_rev hs ps ?_)
  have hno : ¬ ((((items.size : Nat) : Int) - 1 == 0 && (-1 : Int) == 1 && items.size == items.size) = true) := by
    intro q
    rw [Bool.and_eq_true, Bool.and_eq_true] at q
    exact absurd q.1.2 (by decide)
  show wpAny _ _ (if ((((items.size : Nat) : Int) - 1 == 0 && (-1 : Int) == 1 && items.size == items.size) = true) then _ else _) _ _ s
  rw [if_neg hno, pick_rev]
  first
    | exact wpAny_bind (m := Builtin.Tuple.tupleExact _) (wpAny_newObj_type (wpAny_pure ⟨_, rfl, wpAny_pure h⟩) hok)
    | exact wpAny_bind (m := Builtin.Tuple.tupleExact _) (wpAny_newObj_type (wpAny_bind (wpAny_pure (wpAny_pure ⟨_, rfl, wpAny_pure h⟩))) hok)
    | exact wpAny_bind (wpAny_bind (m := Builtin.Tuple.tupleExact _) (wpAny_newObj_type (wpAny_pure (wpAny_pure ⟨_, rfl, wpAny_pure h⟩)) hok))
    | exact wpAny_bind (wpAny_bind (m := Builtin.Tuple.tupleExact _) (wpAny_newObj_type (wpAny_pure ⟨_, rfl, wpAny_pure h⟩) hok))
def tRevA (K : PySem.W.Frag) (te : TE) : TE := fun σ H Q => te σ H fun x H1 => ∃ a xs, x = .ref a ∧ ((SqL K H1 a xs ∧ ∀ p, H1 p = none → Q (.ref p) (upd H1 p (.lst xs.reverse))) ∨ (SqT K H1 a xs ∧ ∀ p, H1 p = none → Q (.ref p) (upd H1 p (.tup xs.reverse))))
theorem pe_revA {X : Cx} {te : TE} {e : Expr} {k : Nat} {p1 p2 p3 pos : Pos} (he : PE X e te) : PE X (.Subscript e (.Slice none none (some (.UnaryOp .USub (.Constant (.int 1) k p1) p2)) p3) pos) (tRevA X.K te) := by
  refine ⟨fun pins s σ H Q I h => ?_⟩
  refine Subscript_ (thn (he.run pins s σ H _ I h) fun v s1 ⟨x, H1, I1, r1, q1⟩ => ?_)
  obtain ⟨a, xs, ex, q⟩ := q1
  subst ex
  cases r1
  have hst : PO X (some (.UnaryOp .USub (.Constant (.int 1) k p1) p2)) (tPart (tUn (rU fun i => .int (-i)) (tC (.int 1)))) := po_some (pe_un un_neg pe_int)
  refine wpAny_Slice (thn (po_none.run pins s1 σ H1 (fun o H2 => o = none ∧ H2 = H1) I1 ⟨rfl, rfl⟩) fun vl s2 ⟨l, H2, I2, pl, el, e2⟩ => ?_)
  subst el e2
  refine thn (po_none.run pins s2 σ H2 (fun o H3 => o = none ∧ H3 = H2) I2 ⟨rfl, rfl⟩) fun vu s3 ⟨u, H3, I3, pu, eu, e3⟩ => ?_
  subst eu e3
  refine thn (hst.run pins s3 σ H3 (fun o H4 => o = some (-1) ∧ H4 = H3) I3 ⟨1, rfl, -1, rfl, rfl, rfl⟩) fun vs s4 ⟨o, H4, I4, ps, eo, e4⟩ => ?_
  subst eo e4
  cases pl
  cases pu
  have I5 : Inv X pins σ H4 { s4 with heap := s4.heap.push { cls := .type "slice", data := .fields #[.none, .none, vs] } } := I4.kept (t' := s4.toks) fun b ob q => Heap.get?_push_of_some _ q
  rcases q with ⟨hx, q⟩ | ⟨hx, q⟩
  · obtain ⟨its, r, ht, hz⟩ := I5.list hx
    have hlen := r.length
    refine tail_any (ops := [.ref a, .ref s4.heap.objs.size]) ht.isList.typeIs (PySem.slot_list_getitem.lookup) ?_ (by with_unfolding_all rfl)
    refine wpAny_getItem_list_slice ht.isList (Heap.IsSliceOf.new _ .none .none vs) .none .none ps (by decide) ?_ (by rw [List.size_toArray]; omega)
    rw [PySem.W.krv_pick]
    refine ⟨.ref _, _, I5.laid (t' := s4.toks) (o := .lst xs.reverse) (fun b ob q => Heap.get?_push_of_some _ q) (Nat.le_refl _) ?_, rfl, q _ (I5.hok.fresh (Nat.le_refl _))⟩
    exact ⟨by rw [List.length_reverse]; exact hz, _, 0, r.reverse, Heap.get?_push_size _ rfl⟩
  · obtain ⟨its, r, ht, hz⟩ := I5.tuple hx
    have hlen := r.length
    refine tail_any (ops := [.ref a, .ref s4.heap.objs.size]) ht.typeIs (PyProof.Rows.slot_tuple_getitem.lookup) ?_ (by with_unfolding_all rfl)
    refine getItem_tuple_rev ht (Heap.IsSliceOf.new _ .none .none vs) ps ?_ (by rw [List.size_toArray]; omega)
    refine ⟨.ref _, _, I5.laid (t' := s4.toks) (o := .tup xs.reverse) (fun b ob q => Heap.get?_push_of_some _ q) (Nat.le_refl _) ?_, rfl, q _ (I5.hok.fresh (Nat.le_refl _))⟩
    exact ⟨by rw [List.length_reverse]; exact hz, _, r.reverse, IsTup.new _ _⟩
def dRev (te : DTE) : DTE := fun τ M Q => te τ M fun d M1 => match d with
  | .tup ds => Q (.tup ds.reverse) M1
  | d => lsOf M1 d fun _ ds => ∀ p, M1 p = none → Q (.ref p) (mupd M1 p (.lst ds.reverse))
theorem de_rev {X : Cx} {te : DTE} {e : Expr} {k : Nat} {p1 p2 p3 pos : Pos} (he : DE X e te) : DE X (.Subscript e (.Slice none none (some (.UnaryOp .USub (.Constant (.int 1) k p1) p2)) p3) pos) (dRev te) := by
  refine de_of (pe_revA he.pe) (fun h q => he.mono.go (fun d M1 q => ?_) q) fun σ H Q τ M a b q => ?_
  · split at q
    · exact h _ _ q
    · exact lsOf_mono (fun _ _ q p np => h _ _ (q p np)) q
  · refine ⟨τ, M, a, b, he.mono.go (fun d M1 q v H1 k1 r m => ?_) q⟩
    split at q
    · cases r with
      | tup h rr => exact ⟨_, _, rfl, .inr ⟨h, fun p np => q _ _ (k1.trans (Keep.new np)) (.tup (SqT.of upd_same) (rr.reverse.keep (Keep.new np))) (m.fresh np)⟩⟩
    · obtain ⟨a1, live, ds, xs, rfl, q, h, rr⟩ := lsOf_at r m q
      exact ⟨_, _, rfl, .inl ⟨h, fun p np => q p (m.free np) _ _ (k1.trans (Keep.new np)) (.ref p) (m.new (m := .lst _) np ⟨_, rfl, rr.reverse.keep (Keep.new np)⟩)⟩⟩
end DL

namespace DL
open PySem PySem.Spec PyProof.Rows L2
/-! ### == of plain values -/
def plD : Nat → D → Prop
  | _, .non => True
  | _, .int _ => True
  | _, .str x => PyData.canLay0 (.str x) = true
  | k + 1, .tup ds => ∀ d ∈ ds, plD k d
  | _, _ => False
theorem toPs_all {k : Nat} (ih : ∀ d, plD k d → ∃ p, toP d = some p ∧ p.canLay0 = true ∧ p.depth ≤ k) : ∀ ds : List D, (∀ d ∈ ds, plD k d) → ∃ ps, toPs ds = some ps ∧ PyData.canLayAll0 ps = true ∧ PyData.depthAll ps ≤ k
  | [], _ => ⟨[], rfl, rfl, Nat.zero_le _⟩
  | d :: ds, h => by
    obtain ⟨p, e1, c1, d1⟩ := ih d (h d (List.mem_cons_self ..))
    obtain ⟨ps, e2, c2, d2⟩ := toPs_all ih ds fun x hx => h x (List.mem_cons_of_mem _ hx)
    refine ⟨p :: ps, by simp only [toPs, e1, e2], by simp only [PyData.canLayAll0, c1, c2, Bool.and_self], ?_⟩
    simp only [PyData.depthAll]
    exact Nat.max_le.mpr ⟨d1, d2⟩
theorem pl_to : ∀ (k : Nat) (d : D), plD k d → ∃ p, toP d = some p ∧ p.canLay0 = true ∧ p.depth ≤ k
  | k, .non, _ => ⟨.none, rfl, rfl, Nat.zero_le _⟩
  | k, .int i, _ => ⟨.int i, rfl, rfl, Nat.zero_le _⟩
  | k, .str x, h => ⟨.str x, rfl, by cases k <;> exact h, Nat.zero_le _⟩
  | 0, .tup ds, h => h.elim
  | k + 1, .tup ds, h => by
    obtain ⟨ps, e, c, dd⟩ := toPs_all (pl_to k) ds h
    exact ⟨.tuple ps, by simp only [toP, e, Option.map_some], by simpa only [PyData.canLay0] using c, by simp only [PyData.depth]; omega⟩
  | k, .bl b, h => by cases k <;> exact h.elim
  | k, .ref b, h => by cases k <;> exact h.elim
  | k, .ty b, h => by cases k <;> exact h.elim
  | k, .kl b, h => by cases k <;> exact h.elim
theorem eqvAll_iff {P : D → Prop} {R : D → Prop} (ih : ∀ d e p q, P d → R e → toP d = some p → toP e = some q → (PyData.eqv p q = true ↔ d = e)) : ∀ (ds es : List D) (ps qs : List PyData), (∀ d ∈ ds, P d) → (∀ e ∈ es, R e) → toPs ds = some ps → toPs es = some qs → (PyData.eqvAll ps qs = true ↔ ds = es)
  | [], [], ps, qs, _, _, e1, e2 => by cases e1; cases e2; simp [PyData.eqvAll]
  | [], e :: es, ps, qs, _, _, e1, e2 => by
    cases e1
    simp only [toPs] at e2
    split at e2
    · cases e2; simp [PyData.eqvAll]
    · cases e2
  | d :: ds, [], ps, qs, _, _, e1, e2 => by
    cases e2
    simp only [toPs] at e1
    split at e1
    · cases e1; simp [PyData.eqvAll]
    · cases e1
  | d :: ds, e :: es, ps, qs, h1, h2, e1, e2 => by
    simp only [toPs] at e1 e2
    split at e1
    · rename_i p ps' a1 a2
      split at e2
      · rename_i q qs' b1 b2
        cases e1; cases e2
        have i1 := ih d e p q (h1 d (List.mem_cons_self ..)) (h2 e (List.mem_cons_self ..)) a1 b1
        have i2 := eqvAll_iff ih ds es ps' qs' (fun x hx => h1 x (List.mem_cons_of_mem _ hx)) (fun x hx => h2 x (List.mem_cons_of_mem _ hx)) a2 b2
        simp only [PyData.eqvAll, Bool.and_eq_true, i1, i2, List.cons.injEq]
      · cases e2
    · cases e1
theorem pl_eqv : ∀ (k j : Nat) (d e : D) (p q : PyData), plD k d → plD j e → toP d = some p → toP e = some q → (PyData.eqv p q = true ↔ d = e) := by
  intro k
  induction k with
  | zero =>
    intro j d e p q hd he e1 e2
    cases d with
    | non => cases e1; cases e <;> simp only [toP] at e2 <;> (first | (cases e2; simp [PyData.eqv]; done) | (cases j <;> exact he.elim) | (split at e2 <;> cases e2 <;> simp [PyData.eqv]) | (obtain ⟨x, _, rfl⟩ := Option.map_eq_some_iff.mp e2; simp [PyData.eqv]))
    | int i => cases e1; cases e <;> simp only [toP] at e2 <;> (first | (cases e2; simp [PyData.eqv]; done) | (cases j <;> exact he.elim) | (obtain ⟨x, _, rfl⟩ := Option.map_eq_some_iff.mp e2; simp [PyData.eqv]))
    | str i => cases e1; cases e <;> simp only [toP] at e2 <;> (first | (cases e2; simp [PyData.eqv]; done) | (cases j <;> exact he.elim) | (obtain ⟨x, _, rfl⟩ := Option.map_eq_some_iff.mp e2; simp [PyData.eqv]))
    | tup ds => exact hd.elim
    | bl b => exact hd.elim
    | ref b => exact hd.elim
    | ty b => exact hd.elim
    | kl b => exact hd.elim
  | succ k ih =>
    intro j d e p q hd he e1 e2
    cases d with
    | non => cases e1; cases e <;> simp only [toP] at e2 <;> (first | (cases e2; simp [PyData.eqv]; done) | (cases j <;> exact he.elim) | (obtain ⟨x, _, rfl⟩ := Option.map_eq_some_iff.mp e2; simp [PyData.eqv]))
    | int i => cases e1; cases e <;> simp only [toP] at e2 <;> (first | (cases e2; simp [PyData.eqv]; done) | (cases j <;> exact he.elim) | (obtain ⟨x, _, rfl⟩ := Option.map_eq_some_iff.mp e2; simp [PyData.eqv]))
    | str i => cases e1; cases e <;> simp only [toP] at e2 <;> (first | (cases e2; simp [PyData.eqv]; done) | (cases j <;> exact he.elim) | (obtain ⟨x, _, rfl⟩ := Option.map_eq_some_iff.mp e2; simp [PyData.eqv]))
    | tup ds =>
      simp only [toP] at e1
      obtain ⟨ps, h1, rfl⟩ := Option.map_eq_some_iff.mp e1
      cases e with
      | tup es =>
        simp only [toP] at e2
        obtain ⟨qs, h2, rfl⟩ := Option.map_eq_some_iff.mp e2
        cases j with
        | zero => exact he.elim
        | succ j =>
          simp only [PyData.eqv, D.tup.injEq]
          exact eqvAll_iff (P := plD k) (R := plD j) (fun d e p q a b c f => ih j d e p q a b c f) ds es ps qs hd he h1 h2
      | non => cases e2; simp [PyData.eqv]
      | int i => cases e2; simp [PyData.eqv]
      | str i => cases e2; simp [PyData.eqv]
      | bl b => cases j <;> exact he.elim
      | ref b => cases j <;> exact he.elim
      | ty b => cases j <;> exact he.elim
      | kl b => cases j <;> exact he.elim
    | bl b => exact hd.elim
    | ref b => exact hd.elim
    | ty b => exact hd.elim
    | kl b => exact hd.elim
theorem shaped_of {p : PyData} (c : p.canLay0 = true) (d : p.depth ≤ 64) : SeqAt.shaped p = true := by
  unfold SeqAt.shaped
  rw [c, decide_eq_true d]; rfl
theorem toPM_of {M : Mem} {k : Nat} {d : D} (h : plD k d) : toPM M d = toP d := by
  cases d <;> first | rfl | (cases k <;> exact h.elim)
theorem eqG_pl {M : Mem} {x y : D} {K : Bool → Prop} (b : Bool) (hx : plD 60 x) (hy : plD 60 y) (hb : b = true ↔ x = y) (h : K b) : eqG M x y K := by
  obtain ⟨p, e1, c1, d1⟩ := pl_to _ _ hx
  obtain ⟨q, e2, c2, d2⟩ := pl_to _ _ hy
  unfold eqG
  rw [toPM_of hx, toPM_of hy, e1, e2]
  refine ⟨shaped_of c1 (by omega), shaped_of c2 (by omega), ?_⟩
  have e : PyData.eqv p q = b := by
    have := pl_eqv _ _ _ _ _ _ hx hy e1 e2
    cases b with
    | true => exact this.mpr (hb.mp rfl)
    | false =>
      cases q3 : PyData.eqv p q with
      | false => rfl
      | true => exact absurd (hb.mpr (this.mp q3)) (by decide)
  rw [e]; exact h
theorem eqG_lst {M : Mem} {a c : Addr} {ds es : List D} {K : Bool → Prop} (b : Bool) (h1 : M a = some (.lst ds)) (h2 : M c = some (.lst es)) (hx : ∀ d ∈ ds, plD 60 d) (hy : ∀ d ∈ es, plD 60 d) (hb : b = true ↔ ds = es) (h : K b) : eqG M (.ref a) (.ref c) K := by
  obtain ⟨ps, e1, c1, d1⟩ := toPs_all (pl_to 60) _ hx
  obtain ⟨qs, e2, c2, d2⟩ := toPs_all (pl_to 60) _ hy
  unfold eqG
  simp only [toPM, h1, h2, e1, e2, Option.map_some]
  refine ⟨shaped_of (by simpa only [PyData.canLay0] using c1) (by simp only [PyData.depth]; omega), shaped_of (by simpa only [PyData.canLay0] using c2) (by simp only [PyData.depth]; omega), ?_⟩
  have e : PyData.eqv (.list ps) (.list qs) = b := by
    have := eqvAll_iff (P := plD 60) (R := plD 60) (fun d e p q a b c f => pl_eqv _ _ _ _ _ _ a b c f) ds es ps qs hx hy e1 e2
    simp only [PyData.eqv]
    cases b with
    | true => exact this.mpr (hb.mp rfl)
    | false =>
      cases q3 : PyData.eqvAll ps qs with
      | false => rfl
      | true => exact absurd (hb.mpr (this.mp q3)) (by decide)
  rw [e]; exact h
theorem pl_int {k : Nat} {i : Int} : plD k (.int i) := by cases k <;> trivial
theorem pl_non {k : Nat} : plD k .non := by cases k <;> trivial
theorem pl_tup {k : Nat} {ds : List D} (h : ∀ d ∈ ds, plD k d) : plD (k + 1) (.tup ds) := h
/-- compared with a list that was just made -/
theorem eqG_nil {M : Mem} {a p : Addr} {ds : List D} {K : Bool → Prop} (h1 : M a = some (.lst ds)) (h2 : M p = some (.lst [])) (hx : ∀ d ∈ ds, plD 60 d) (h : K ds.isEmpty) : eqG M (.ref a) (.ref p) K :=
  eqG_lst ds.isEmpty h1 h2 hx (fun d hd => by cases hd) (by cases ds <;> simp) h
/-! ### the heap of numbers that many laws draw from -/
def SubH (a l : Addr) (M M' : Mem) : Prop := ∀ x o, x ≠ a → x ≠ l → M x = some o → M' x = some o
theorem SubH.refl (a l : Addr) (M : Mem) : SubH a l M M := fun _ _ _ _ h => h
theorem SubH.trans {a l : Addr} {M M1 M2 : Mem} (h : SubH a l M M1) (k : SubH a l M1 M2) : SubH a l M M2 := fun x o n m e => k x o n m (h x o n m e)
theorem SubH.of {a l : Addr} {M M' : Mem} (h : Sub M M') : SubH a l M M' := fun x o _ _ e => h x o e
theorem SubH.seta {a l : Addr} {M M' : Mem} {o : MO} (h : SubH a l M M') : SubH a l M (mupd M' a o) := fun x u n m e => by
  rw [mupd_ne n]; exact h x u n m e
theorem SubH.setl {a l : Addr} {M M' : Mem} {o : MO} (h : SubH a l M M') : SubH a l M (mupd M' l o) := fun x u n m e => by
  rw [mupd_ne m]; exact h x u n m e
theorem SubH.new {a l p : Addr} {M M' : Mem} {o : MO} (h : SubH a l M M') (hp : M' p = none) : SubH a l M (mupd M' p o) := fun x u n m e => by
  have e' := h x u n m e
  rw [mupd_ne (fun z => by subst z; rw [e'] at hp; cases hp)]; exact e'
def Hp0 (M : Mem) (a l : Addr) (ns : List Int) (s : Int) : Prop := M a = some (.lst [.ref l, .int s]) ∧ M l = some (.lst (ns.map D.int)) ∧ a ≠ l ∧ (∀ n ∈ ns, 0 ≤ n) ∧ ns.length ≤ 63 ∧ 0 ≤ s ∧ s < 2147483647
def HpA (M : Mem) (a l : Addr) : Prop := ∃ ns s, Hp0 M a l ns s
theorem Hp0.new {M : Mem} {a l p : Addr} {ns : List Int} {s : Int} {o : MO} (h : Hp0 M a l ns s) (hp : M p = none) : Hp0 (mupd M p o) a l ns s := by
  obtain ⟨e1, e2, r⟩ := h
  exact ⟨by rw [mupd_ne (ne_new e1 hp)]; exact e1, by rw [mupd_ne (ne_new e2 hp)]; exact e2, r⟩
theorem HpA.new {M : Mem} {a l p : Addr} {o : MO} (h : HpA M a l) (hp : M p = none) : HpA (mupd M p o) a l := by
  obtain ⟨ns, s, h⟩ := h
  exact ⟨ns, s, h.new hp⟩
theorem HpA.sub {M M' : Mem} {a l : Addr} (h : HpA M a l) (k : Sub M M') : HpA M' a l := by
  obtain ⟨ns, s, e1, e2, r⟩ := h
  exact ⟨ns, s, k _ _ e1, k _ _ e2, r⟩
theorem HpA.at {M : Mem} {a l p : Addr} (h : HpA M a l) (hp : M p = none) : p ≠ a ∧ p ≠ l := by
  obtain ⟨ns, s, e1, e2, r⟩ := h
  exact ⟨(ne_new e1 hp).symm, (ne_new e2 hp).symm⟩
def sp_draw : DSp := fun ds M Q => match ds with
  | [.ref a, .int n] => ∃ l, HpA M a l ∧ 0 < n ∧ n < 2 ^ 1000 ∧ ∀ (d : Int) (M' : Mem), 0 ≤ d → d < n → SubH a l M M' → HpA M' a l → Q (.int d) M'
  | _ => False
theorem sp_draw_mono : MonoSp sp_draw := ⟨fun {ds M Q Q'} h q => by
  unfold sp_draw at q ⊢
  split at q
  · obtain ⟨l, a, b, c, e⟩ := q
    exact ⟨l, a, b, c, fun x M' u v w z => h _ _ (e x M' u v w z)⟩
  · exact q⟩
def bDraw : DTS :=
    (dSeq (dWhile (dAnd (dTest (dOp pNe (dOp pIx (dVar 0) (dC (.int 0))) (dLst dNil))) (dTest (dOp pEq (dOp pIx (dOp pIx (dVar 0) (dC (.int 0))) (dUn pNeg (dC (.int 1)))) (dC (.int 0))))) (dDrop (dBM tyL pPop (dOp pIx (dVar 0) (dC (.int 0))) dNil)))
    (dSeq (dIf (dTest (dOp pNe (dOp pIx (dVar 0) (dC (.int 0))) (dLst dNil))) (dSeq (dAsg (dBM tyL pPop (dOp pIx (dVar 0) (dC (.int 0))) dNil) (gN 2))
    (dSeq (dDrop (dBM tyL pAppend (dOp pIx (dVar 0) (dC (.int 0))) (dCons (dOp pFdiv (dVar 2) (dVar 1)) dNil)))
    (dRet (dOp pMod (dCB pInt (dCons (dVar 2) dNil)) (dVar 1))))) dNext)
    (dSeq (dAsg (dOp pMod (dCB pInt (dCons (dOp pAdd (dOp pMul (dOp pIx (dVar 0) (dC (.int 1))) (dC (.int 48271))) (dC (.int 17))) dNil)) (dC (.int 2147483647))) (gSubL (dVar 0) (dC (.int 1))))
    (dRet (dOp pMod (dCB pInt (dCons (dOp pFdiv (dOp pIx (dVar 0) (dC (.int 1))) (dC (.int 32))) dNil)) (dVar 1))))))
theorem pl_ints (ns : List Int) : ∀ d ∈ ns.map D.int, plD 60 d := by
  intro d hd
  obtain ⟨n, _, rfl⟩ := List.mem_map.mp hd
  exact pl_int
theorem ints_ne {ns : List Int} (h : (ns.map D.int).isEmpty = false) : ∃ m n, ns = m ++ [n] := by
  cases ns with
  | nil => cases h
  | cons n r => exact ⟨(n :: r).dropLast, (n :: r).getLast (by simp), (List.dropLast_concat_getLast (by simp)).symm⟩
theorem atI_m1 {α : Type} {l : List α} {x : α} : atI (l ++ [x]) (-1) = some x := by
  unfold atI ixN
  rw [if_neg (by omega), if_pos (by simp only [List.length_append, List.length_cons, List.length_nil]; omega)]
  simp only [Option.bind_some, List.length_append, List.length_cons, List.length_nil]
  rw [show (-1 + ((l.length + (0 + 1) : Nat) : Int)).toNat = l.length by omega]
  simp
theorem pop_at {α : Type} {l : List α} {x : α} : (l ++ [x])[(l ++ [x]).length - 1]? = some x := by
  rw [show (l ++ [x]).length - 1 = l.length by simp]
  simp
theorem seq_cut {t u : DTS} {E : DEnds} {τ : DS} {M : Mem} (k : ∀ R : DTS, R = u → t { E with nx := R E } τ M) : dSeq t u E τ M := k u rfl
theorem body_draw (ds : List D) (M : Mem) (Q : DQ) (hc : Clo Q) (h : sp_draw ds M Q) : bDraw { nx := fun _ M' => Q .non M', rt := Q } (dstart ["heap", "many", "rest"] ds) M := by
  unfold sp_draw at h
  split at h
  · rename_i a n
    obtain ⟨l, ⟨ns0, s0, h0⟩, n0, n1, h⟩ := h
    unfold bDraw
    refine seq_cut fun R hR => ?_
    have exit : ∀ (M1 : Mem) (ns : List Int) (s : Int), Hp0 M1 a l ns s → SubH a l M M1 → R { nx := fun _ M' => Q .non M', rt := Q } [some (.ref a), some (.int n), none] M1 := by
      intro M1 ns s hh hs
      subst hR
      refine seq_cut fun R hR => ?_
      have e1 := hh.1
      simp only [dSeq, dNext, dIf, dRet, dRetN, dDrop, dAsg, gN, gN0, gNc, gTp, gSubL, dPar, dPar3, dAug, dVar, dC, dOp, dUn, dTest, dAnd, dOr, dNot, dAndV, dOrV, dNotV, dIfE, dNil, dCons, dTup, dLst, dCB, dCall, dstart, dget, dset, dwp, dclr, asB, pI0, pI, pU, pAdd, pMul, pEqB, pIsB, pIx, pCI, pC2, pInt, pIsi, pLen, optQ, stL, lstAt, lsOf, atI0, atI1, atI2, atI3, ixN0, ixN1, ixN2, ixN3, mupd_same, mupd_mupd, dFor, iRng, List.map_cons, List.map_nil, List.length_cons, List.length_nil, List.replicate, List.cons_append, List.nil_append, List.append_nil, List.set_cons_zero, List.set_cons_succ, Nat.reduceAdd, Nat.reduceSub, Nat.sub_self, if_true, if_false, decide_eq_true_eq, Bool.false_eq_true, Bool.not_true, Bool.not_false, id_eq, ite_true, ite_false, e1, dBM, tyL, pPop, pAppend]
      refine ⟨by decide, fun p np => ?_⟩
      have hh1 := hh.new (o := .lst []) np
      have hs1 := hs.new (o := .lst []) np
      have e3 : mupd M1 p (.lst []) p = some (.lst []) := mupd_same
      generalize mupd M1 p (.lst []) = M2 at hh1 hs1 e3
      have g1 := hh1.1
      have g2 := hh1.2.1
      obtain ⟨_, _, nal, hpos, hlen, s0, s1⟩ := hh1
      refine eqG_nil g2 e3 (pl_ints _) ?_
      cases hb : (ns.map D.int).isEmpty with
      | true =>
        simp only [dSeq, dNext, dIf, dRet, dRetN, dDrop, dAsg, gN, gN0, gNc, gTp, gSubL, dPar, dPar3, dAug, dVar, dC, dOp, dUn, dTest, dAnd, dOr, dNot, dAndV, dOrV, dNotV, dIfE, dNil, dCons, dTup, dLst, dCB, dCall, dstart, dget, dset, dwp, dclr, asB, pI0, pI, pU, pAdd, pMul, pEqB, pIsB, pIx, pCI, pC2, pInt, pIsi, pLen, optQ, stL, lstAt, lsOf, atI0, atI1, atI2, atI3, ixN0, ixN1, ixN2, ixN3, mupd_same, mupd_mupd, dFor, iRng, List.map_cons, List.map_nil, List.length_cons, List.length_nil, List.replicate, List.cons_append, List.nil_append, List.append_nil, List.set_cons_zero, List.set_cons_succ, Nat.reduceAdd, Nat.reduceSub, Nat.sub_self, if_true, if_false, decide_eq_true_eq, Bool.false_eq_true, Bool.not_true, Bool.not_false, id_eq, ite_true, ite_false]
        subst hR
        simp only [dSeq, dNext, dIf, dRet, dRetN, dDrop, dAsg, gN, gN0, gNc, gTp, gSubL, dPar, dPar3, dAug, dVar, dC, dOp, dUn, dTest, dAnd, dOr, dNot, dAndV, dOrV, dNotV, dIfE, dNil, dCons, dTup, dLst, dCB, dCall, dstart, dget, dset, dwp, dclr, asB, pI0, pI, pU, pAdd, pMul, pEqB, pIsB, pIx, pCI, pC2, pInt, pIsi, pLen, optQ, stL, lstAt, lsOf, atI0, atI1, atI2, atI3, ixN0, ixN1, ixN2, ixN3, mupd_same, mupd_mupd, dFor, iRng, List.map_cons, List.map_nil, List.length_cons, List.length_nil, List.replicate, List.cons_append, List.nil_append, List.append_nil, List.set_cons_zero, List.set_cons_succ, Nat.reduceAdd, Nat.reduceSub, Nat.sub_self, if_true, if_false, decide_eq_true_eq, Bool.false_eq_true, Bool.not_true, Bool.not_false, id_eq, ite_true, ite_false, g1]
        have hm := fmod_pos (s * 48271 + 17) (b := 2147483647) (by omega)
        refine ⟨mulx_ok (a := 64) (b := 64) (by omega) (by omega) (by decide), by decide, cdv_small (by decide) (b := 64) (by decide) (by decide), by omega, ?_⟩
        have hm2 := fmod_pos (((s * 48271 + 17).fmod 2147483647).fdiv 32) n0
        exact h _ _ hm2.1 hm2.2 hs1.seta ⟨ns, _, mupd_same, by rw [mupd_ne nal.symm]; exact g2, nal, hpos, hlen, hm.1, hm.2⟩
      | false =>
        obtain ⟨m, x, rfl⟩ := ints_ne hb
        have x0 : 0 ≤ x := hpos x (by simp)
        simp only [List.map_append, List.map_cons, List.map_nil] at g2
        simp only [dSeq, dNext, dIf, dRet, dRetN, dDrop, dAsg, gN, gN0, gNc, gTp, gSubL, dPar, dPar3, dAug, dVar, dC, dOp, dUn, dTest, dAnd, dOr, dNot, dAndV, dOrV, dNotV, dIfE, dNil, dCons, dTup, dLst, dCB, dCall, dstart, dget, dset, dwp, dclr, asB, pI0, pI, pU, pAdd, pMul, pEqB, pIsB, pIx, pCI, pC2, pInt, pIsi, pLen, optQ, stL, lstAt, lsOf, atI0, atI1, atI2, atI3, ixN0, ixN1, ixN2, ixN3, mupd_same, mupd_mupd, dFor, iRng, List.map_cons, List.map_nil, List.length_cons, List.length_nil, List.replicate, List.cons_append, List.nil_append, List.append_nil, List.set_cons_zero, List.set_cons_succ, Nat.reduceAdd, Nat.reduceSub, Nat.sub_self, if_true, if_false, decide_eq_true_eq, Bool.false_eq_true, Bool.not_true, Bool.not_false, id_eq, ite_true, ite_false, g1, g2, pop_at, List.dropLast_concat]
        have e5 : mupd M2 l (.lst (m.map D.int)) a = some (.lst [.ref l, .int s]) := by rw [mupd_ne nal]; exact g1
        simp only [dSeq, dNext, dIf, dRet, dRetN, dDrop, dAsg, gN, gN0, gNc, gTp, gSubL, dPar, dPar3, dAug, dVar, dC, dOp, dUn, dTest, dAnd, dOr, dNot, dAndV, dOrV, dNotV, dIfE, dNil, dCons, dTup, dLst, dCB, dCall, dstart, dget, dset, dwp, dclr, asB, pI0, pI, pU, pAdd, pMul, pEqB, pIsB, pIx, pCI, pC2, pInt, pIsi, pLen, optQ, stL, lstAt, lsOf, atI0, atI1, atI2, atI3, ixN0, ixN1, ixN2, ixN3, mupd_same, mupd_mupd, dFor, iRng, List.map_cons, List.map_nil, List.length_cons, List.length_nil, List.replicate, List.cons_append, List.nil_append, List.append_nil, List.set_cons_zero, List.set_cons_succ, Nat.reduceAdd, Nat.reduceSub, Nat.sub_self, if_true, if_false, decide_eq_true_eq, Bool.false_eq_true, Bool.not_true, Bool.not_false, id_eq, ite_true, ite_false, e5, dBM, tyL, pAppend]
        have hl2 : m.length + 1 ≤ 63 := by simpa using hlen
        refine ⟨trivial, trivial, cdv_small (by omega) (b := 1000) (by omega) (by decide), ?_, by omega, ?_⟩
        · rw [List.length_map]; have : 100 ≤ sizeLine := by decide +kernel
          omega
        · have hm := fmod_pos x n0
          have hd := fdiv_pos x0 n0
          refine h _ _ hm.1 hm.2 hs1.setl ⟨m ++ [x.fdiv n], s, ?_, ?_, nal, ?_, by simpa using hl2, s0, s1⟩
          · rw [mupd_ne nal]; exact g1
          · rw [mupd_same]; simp
          · intro y hy
            rcases List.mem_append.mp hy with hy | hy
            · exact hpos y (by simp [hy])
            · rw [List.mem_singleton.mp hy]; exact hd.1
    refine while_inv (I := fun m τ M' => ∃ ns s, ns.length = m ∧ Hp0 M' a l ns s ∧ SubH a l M M' ∧ τ = [some (.ref a), some (.int n), none]) ?_ (n := ns0.length) ⟨ns0, s0, rfl, h0, SubH.refl _ _ _, rfl⟩
    rintro m τ M' X ⟨ns, s, hm, hh, hs, rfl⟩ hX
    have e1 := hh.1
    simp only [dSeq, dNext, dIf, dRet, dRetN, dDrop, dAsg, gN, gN0, gNc, gTp, gSubL, dPar, dPar3, dAug, dVar, dC, dOp, dUn, dTest, dAnd, dOr, dNot, dAndV, dOrV, dNotV, dIfE, dNil, dCons, dTup, dLst, dCB, dCall, dstart, dget, dset, dwp, dclr, asB, pI0, pI, pU, pAdd, pMul, pEqB, pIsB, pIx, pCI, pC2, pInt, pIsi, pLen, optQ, stL, lstAt, lsOf, atI0, atI1, atI2, atI3, ixN0, ixN1, ixN2, ixN3, mupd_same, mupd_mupd, dFor, iRng, List.map_cons, List.map_nil, List.length_cons, List.length_nil, List.replicate, List.cons_append, List.nil_append, List.append_nil, List.set_cons_zero, List.set_cons_succ, Nat.reduceAdd, Nat.reduceSub, Nat.sub_self, if_true, if_false, decide_eq_true_eq, Bool.false_eq_true, Bool.not_true, Bool.not_false, id_eq, ite_true, ite_false, e1, dBM, tyL, pPop]
    refine ⟨by decide, fun p np => ?_⟩
    have hh1 := hh.new (o := .lst []) np
    have hs1 := hs.new (o := .lst []) np
    have e3 : mupd M' p (.lst []) p = some (.lst []) := mupd_same
    generalize mupd M' p (.lst []) = M1 at hh1 hs1 e3
    have g1 := hh1.1
    have g2 := hh1.2.1
    refine eqG_nil g2 e3 (pl_ints _) ?_
    cases hb : (ns.map D.int).isEmpty with
    | true =>
      simp only [dSeq, dNext, dIf, dRet, dRetN, dDrop, dAsg, gN, gN0, gNc, gTp, gSubL, dPar, dPar3, dAug, dVar, dC, dOp, dUn, dTest, dAnd, dOr, dNot, dAndV, dOrV, dNotV, dIfE, dNil, dCons, dTup, dLst, dCB, dCall, dstart, dget, dset, dwp, dclr, asB, pI0, pI, pU, pAdd, pMul, pEqB, pIsB, pIx, pCI, pC2, pInt, pIsi, pLen, optQ, stL, lstAt, lsOf, atI0, atI1, atI2, atI3, ixN0, ixN1, ixN2, ixN3, mupd_same, mupd_mupd, dFor, iRng, List.map_cons, List.map_nil, List.length_cons, List.length_nil, List.replicate, List.cons_append, List.nil_append, List.append_nil, List.set_cons_zero, List.set_cons_succ, Nat.reduceAdd, Nat.reduceSub, Nat.sub_self, if_true, if_false, decide_eq_true_eq, Bool.false_eq_true, Bool.not_true, Bool.not_false, id_eq, ite_true, ite_false]
      exact exit _ _ _ hh1 hs1
    | false =>
      obtain ⟨r, x, rfl⟩ := ints_ne hb
      have g2' := g2
      simp only [List.map_append, List.map_cons, List.map_nil] at g2'
      simp only [dSeq, dNext, dIf, dRet, dRetN, dDrop, dAsg, gN, gN0, gNc, gTp, gSubL, dPar, dPar3, dAug, dVar, dC, dOp, dUn, dTest, dAnd, dOr, dNot, dAndV, dOrV, dNotV, dIfE, dNil, dCons, dTup, dLst, dCB, dCall, dstart, dget, dset, dwp, dclr, asB, pI0, pI, pU, pAdd, pMul, pEqB, pIsB, pIx, pCI, pC2, pInt, pIsi, pLen, optQ, stL, lstAt, lsOf, atI0, atI1, atI2, atI3, ixN0, ixN1, ixN2, ixN3, mupd_same, mupd_mupd, dFor, iRng, List.map_cons, List.map_nil, List.length_cons, List.length_nil, List.replicate, List.cons_append, List.nil_append, List.append_nil, List.set_cons_zero, List.set_cons_succ, Nat.reduceAdd, Nat.reduceSub, Nat.sub_self, if_true, if_false, decide_eq_true_eq, Bool.false_eq_true, Bool.not_true, Bool.not_false, id_eq, ite_true, ite_false, g1, g2', atI_m1, Int.reduceNeg, decide_eq_true_eq]
      by_cases hx : x = 0
      · simp only [hx, dSeq, dNext, dIf, dRet, dRetN, dDrop, dAsg, gN, gN0, gNc, gTp, gSubL, dPar, dPar3, dAug, dVar, dC, dOp, dUn, dTest, dAnd, dOr, dNot, dAndV, dOrV, dNotV, dIfE, dNil, dCons, dTup, dLst, dCB, dCall, dstart, dget, dset, dwp, dclr, asB, pI0, pI, pU, pAdd, pMul, pEqB, pIsB, pIx, pCI, pC2, pInt, pIsi, pLen, optQ, stL, lstAt, lsOf, atI0, atI1, atI2, atI3, ixN0, ixN1, ixN2, ixN3, mupd_same, mupd_mupd, dFor, iRng, List.map_cons, List.map_nil, List.length_cons, List.length_nil, List.replicate, List.cons_append, List.nil_append, List.append_nil, List.set_cons_zero, List.set_cons_succ, Nat.reduceAdd, Nat.reduceSub, Nat.sub_self, if_true, if_false, decide_eq_true_eq, Bool.false_eq_true, Bool.not_true, Bool.not_false, id_eq, ite_true, ite_false, decide_true]
        simp only [dSeq, dNext, dIf, dRet, dRetN, dDrop, dAsg, gN, gN0, gNc, gTp, gSubL, dPar, dPar3, dAug, dVar, dC, dOp, dUn, dTest, dAnd, dOr, dNot, dAndV, dOrV, dNotV, dIfE, dNil, dCons, dTup, dLst, dCB, dCall, dstart, dget, dset, dwp, dclr, asB, pI0, pI, pU, pAdd, pMul, pEqB, pIsB, pIx, pCI, pC2, pInt, pIsi, pLen, optQ, stL, lstAt, lsOf, atI0, atI1, atI2, atI3, ixN0, ixN1, ixN2, ixN3, mupd_same, mupd_mupd, dFor, iRng, List.map_cons, List.map_nil, List.length_cons, List.length_nil, List.replicate, List.cons_append, List.nil_append, List.append_nil, List.set_cons_zero, List.set_cons_succ, Nat.reduceAdd, Nat.reduceSub, Nat.sub_self, if_true, if_false, decide_eq_true_eq, Bool.false_eq_true, Bool.not_true, Bool.not_false, id_eq, ite_true, ite_false, g1, g2', pop_at, List.dropLast_concat]
        refine ⟨trivial, ?_⟩
        obtain ⟨_, _, nal, hpos, hlen, s0, s1⟩ := hh1
        refine hX r.length _ _ (by simp at hm; omega) ⟨r, s, rfl, ⟨by rw [mupd_ne nal]; exact g1, mupd_same, nal, fun y hy => hpos y (by simp [hy]), by simp at hlen; omega, s0, s1⟩, hs1.setl, rfl⟩
      · simp only [hx, dSeq, dNext, dIf, dRet, dRetN, dDrop, dAsg, gN, gN0, gNc, gTp, gSubL, dPar, dPar3, dAug, dVar, dC, dOp, dUn, dTest, dAnd, dOr, dNot, dAndV, dOrV, dNotV, dIfE, dNil, dCons, dTup, dLst, dCB, dCall, dstart, dget, dset, dwp, dclr, asB, pI0, pI, pU, pAdd, pMul, pEqB, pIsB, pIx, pCI, pC2, pInt, pIsi, pLen, optQ, stL, lstAt, lsOf, atI0, atI1, atI2, atI3, ixN0, ixN1, ixN2, ixN3, mupd_same, mupd_mupd, dFor, iRng, List.map_cons, List.map_nil, List.length_cons, List.length_nil, List.replicate, List.cons_append, List.nil_append, List.append_nil, List.set_cons_zero, List.set_cons_succ, Nat.reduceAdd, Nat.reduceSub, Nat.sub_self, if_true, if_false, decide_eq_true_eq, Bool.false_eq_true, Bool.not_true, Bool.not_false, id_eq, ite_true, ite_false, decide_false]
        exact exit _ _ _ hh1 hs1
  · exact h.elim
def bPick (sp : DSp) : DTS := (dRet (dOp pIx (dVar 1) (dCall sp [] (dCons (dVar 0) (dCons (dCB pLen (dCons (dVar 1) dNil)) dNil)))))
def sp_pick : DSp := fun ds M Q => match ds with
  | [.ref a, x] => ∃ (l : Addr) (xs : List D), seqAt M x = some xs ∧ x ≠ .ref a ∧ x ≠ .ref l ∧ HpA M a l ∧ 0 < xs.length ∧ xs.length < 2 ^ 60 ∧ ∀ (d : D) (M' : Mem), d ∈ xs → SubH a l M M' → HpA M' a l → Q d M'
  | _ => False
theorem sp_pick_mono : MonoSp sp_pick := ⟨fun {ds M Q Q'} h q => by
  unfold sp_pick at q ⊢
  split at q
  · obtain ⟨l, xs, a, b, c, d, e, f, k⟩ := q
    exact ⟨l, xs, a, b, c, d, e, f, fun x M' u v w => h _ _ (k x M' u v w)⟩
  · exact q⟩
theorem body_pick (ds : List D) (M : Mem) (Q : DQ) (hc : Clo Q) (h : sp_pick ds M Q) : bPick sp_draw { nx := fun _ M' => Q .non M', rt := Q } (dstart ["heap", "some"] ds) M := by
  unfold sp_pick at h
  split at h
  · rename_i a x
    obtain ⟨l, xs, e, nx, nl, hw, h0, h1, h⟩ := h
    unfold seqAt at e
    split at e
    · cases e
      simp only [bPick, dSeq, dNext, dIf, dRet, dRetN, dDrop, dAsg, gN, gN0, gNc, gTp, gSubL, dPar, dPar3, dAug, dVar, dC, dOp, dUn, dTest, dAnd, dOr, dNot, dAndV, dOrV, dNotV, dIfE, dNil, dCons, dTup, dLst, dCB, dCall, dstart, dget, dset, dwp, dclr, asB, pI0, pI, pU, pAdd, pMul, pEqB, pIsB, pIx, pCI, pC2, pInt, pIsi, pLen, optQ, stL, lstAt, lsOf, atI0, atI1, atI2, atI3, ixN0, ixN1, ixN2, ixN3, mupd_same, mupd_mupd, dFor, iRng, List.map_cons, List.map_nil, List.length_cons, List.length_nil, List.replicate, List.cons_append, List.nil_append, List.append_nil, List.set_cons_zero, List.set_cons_succ, Nat.reduceAdd, Nat.reduceSub, Nat.sub_self, if_true, if_false, decide_eq_true_eq, Bool.false_eq_true, Bool.not_true, Bool.not_false, id_eq, ite_true, ite_false]
      refine ⟨l, hw, by omega, by omega, fun d M' d0 d1 s w => ?_⟩
      simp only [atI_lt d0 d1]
      exact h _ _ (List.getElem_mem _) s w
    · cases e
      simp only [bPick, dSeq, dNext, dIf, dRet, dRetN, dDrop, dAsg, gN, gN0, gNc, gTp, gSubL, dPar, dPar3, dAug, dVar, dC, dOp, dUn, dTest, dAnd, dOr, dNot, dAndV, dOrV, dNotV, dIfE, dNil, dCons, dTup, dLst, dCB, dCall, dstart, dget, dset, dwp, dclr, asB, pI0, pI, pU, pAdd, pMul, pEqB, pIsB, pIx, pCI, pC2, pInt, pIsi, pLen, optQ, stL, lstAt, lsOf, atI0, atI1, atI2, atI3, ixN0, ixN1, ixN2, ixN3, mupd_same, mupd_mupd, dFor, iRng, List.map_cons, List.map_nil, List.length_cons, List.length_nil, List.replicate, List.cons_append, List.nil_append, List.append_nil, List.set_cons_zero, List.set_cons_succ, Nat.reduceAdd, Nat.reduceSub, Nat.sub_self, if_true, if_false, decide_eq_true_eq, Bool.false_eq_true, Bool.not_true, Bool.not_false, id_eq, ite_true, ite_false]
      refine ⟨l, hw, by omega, by omega, fun d M' d0 d1 s w => ?_⟩
      simp only [atI_lt d0 d1]
      exact h _ _ (List.getElem_mem _) s w
    · split at e
      · rename_i b _ _ eb
        cases e
        have nb : b ≠ a := fun z => nx (by rw [z])
        have nb2 : b ≠ l := fun z => nl (by rw [z])
        simp only [bPick, dSeq, dNext, dIf, dRet, dRetN, dDrop, dAsg, gN, gN0, gNc, gTp, gSubL, dPar, dPar3, dAug, dVar, dC, dOp, dUn, dTest, dAnd, dOr, dNot, dAndV, dOrV, dNotV, dIfE, dNil, dCons, dTup, dLst, dCB, dCall, dstart, dget, dset, dwp, dclr, asB, pI0, pI, pU, pAdd, pMul, pEqB, pIsB, pIx, pCI, pC2, pInt, pIsi, pLen, optQ, stL, lstAt, lsOf, atI0, atI1, atI2, atI3, ixN0, ixN1, ixN2, ixN3, mupd_same, mupd_mupd, dFor, iRng, List.map_cons, List.map_nil, List.length_cons, List.length_nil, List.replicate, List.cons_append, List.nil_append, List.append_nil, List.set_cons_zero, List.set_cons_succ, Nat.reduceAdd, Nat.reduceSub, Nat.sub_self, if_true, if_false, decide_eq_true_eq, Bool.false_eq_true, Bool.not_true, Bool.not_false, id_eq, ite_true, ite_false, eb]
        refine ⟨l, hw, by omega, by omega, fun d M' d0 d1 s w => ?_⟩
        simp only [s _ _ nb nb2 eb, atI_lt d0 d1]
        exact h _ _ (List.getElem_mem _) s w
      · cases e
    · cases e
  · exact h.elim
/-! ### _law_same -/
def bSame (sp : DSp) : DTS :=
    (dSeq (dIf (dTest (dCB pIsi (dCons (dVar 1) (dCons (dC (.ty "tuple")) dNil)))) (dRet (dAndV (dCB pIsi (dCons (dVar 0) (dCons (dC (.ty "tuple")) dNil))) (dAndV (dOp pEq (dCB pLen (dCons (dVar 0) dNil)) (dCB pLen (dCons (dVar 1) dNil))) (dPure (dCB pAll (dCons (dLc (iRng (dCons (dCB pLen (dCons (dVar 1) dNil)) dNil)) (gN 2) dYes (dCall sp [] (dCons (dOp pIx (dVar 0) (dVar 2)) (dCons (dOp pIx (dVar 1) (dVar 2)) dNil))) [2]) dNil)))))) dNext)
    (dSeq (dIf (dOr (dTest (dOp pIs (dVar 1) (dC .non))) (dTest (dCB pIsi (dCons (dVar 1) (dCons (dC (.ty "str")) dNil))))) (dRet (dAndV (dOp pEq (dOp pIs (dVar 0) (dC .non)) (dOp pIs (dVar 1) (dC .non))) (dAndV (dOp pEq (dCB pIsi (dCons (dVar 0) (dCons (dC (.ty "str")) dNil))) (dCB pIsi (dCons (dVar 1) (dCons (dC (.ty "str")) dNil)))) (dOp pEq (dVar 0) (dVar 1))))) dNext)
    (dRet (dAndV (dCB pIsi (dCons (dVar 0) (dCons (dC (.ty "int")) dNil))) (dAndV (dOp pEq (dCB pIsi (dCons (dVar 0) (dCons (dC (.ty "bool")) dNil))) (dCB pIsi (dCons (dVar 1) (dCons (dC (.ty "bool")) dNil)))) (dOp pEq (dVar 0) (dVar 1)))))))
theorem body_same (k : Nat) (ds : List D) (M : Mem) (Q : DQ) (hc : Clo Q) (h : sp_like (k + 1) ds M Q) : bSame (sp_like k) { nx := fun _ M' => Q .non M', rt := Q } (dstart ["value", "due", "at"] ds) M := by
  change spLikeS k ds M Q at h
  unfold spLikeS at h
  split at h
  · rename_i t d
    obtain ⟨rfl, hk, h⟩ := h
    cases t with
    | non =>
      simp only [bSame, dSeq, dNext, dIf, dRet, dRetN, dDrop, dAsg, gN, gN0, gNc, gTp, gSubL, dPar, dPar3, dAug, dVar, dC, dOp, dUn, dTest, dAnd, dOr, dNot, dAndV, dOrV, dNotV, dIfE, dNil, dCons, dTup, dLst, dCB, dCall, dstart, dget, dset, dwp, dclr, asB, pI0, pI, pU, pAdd, pMul, pEqB, pIsB, pIx, pCI, pC2, pInt, pIsi, pLen, optQ, stL, lstAt, lsOf, atI0, atI1, atI2, atI3, ixN0, ixN1, ixN2, ixN3, mupd_same, mupd_mupd, dFor, iRng, List.map_cons, List.map_nil, List.length_cons, List.length_nil, List.replicate, List.cons_append, List.nil_append, List.append_nil, List.set_cons_zero, List.set_cons_succ, Nat.reduceAdd, Nat.reduceSub, Nat.sub_self, if_true, if_false, decide_eq_true_eq, Bool.false_eq_true, Bool.not_true, Bool.not_false, id_eq, ite_true, ite_false, isi_non k_tuple, isi_non k_str, in3, in4, pIsB, decide_true]
      exact eqG_pl true pl_non pl_non (by simp) h
    | bl b => simp only [bSame, dSeq, dNext, dIf, dRet, dRetN, dDrop, dAsg, gN, gN0, gNc, gTp, gSubL, dPar, dPar3, dAug, dVar, dC, dOp, dUn, dTest, dAnd, dOr, dNot, dAndV, dOrV, dNotV, dIfE, dNil, dCons, dTup, dLst, dCB, dCall, dstart, dget, dset, dwp, dclr, asB, pI0, pI, pU, pAdd, pMul, pEqB, pIsB, pIx, pCI, pC2, pInt, pIsi, pLen, optQ, stL, lstAt, lsOf, atI0, atI1, atI2, atI3, ixN0, ixN1, ixN2, ixN3, mupd_same, mupd_mupd, dFor, iRng, List.map_cons, List.map_nil, List.length_cons, List.length_nil, List.replicate, List.cons_append, List.nil_append, List.append_nil, List.set_cons_zero, List.set_cons_succ, Nat.reduceAdd, Nat.reduceSub, Nat.sub_self, if_true, if_false, decide_eq_true_eq, Bool.false_eq_true, Bool.not_true, Bool.not_false, id_eq, ite_true, ite_false, isi_bl k_tuple, isi_bl k_bool, isi_bl k_str, isi_bl k_int, ib4, ib1, ib2, ib3, pIsB, decide_true]; exact h
    | int i => simp only [bSame, dSeq, dNext, dIf, dRet, dRetN, dDrop, dAsg, gN, gN0, gNc, gTp, gSubL, dPar, dPar3, dAug, dVar, dC, dOp, dUn, dTest, dAnd, dOr, dNot, dAndV, dOrV, dNotV, dIfE, dNil, dCons, dTup, dLst, dCB, dCall, dstart, dget, dset, dwp, dclr, asB, pI0, pI, pU, pAdd, pMul, pEqB, pIsB, pIx, pCI, pC2, pInt, pIsi, pLen, optQ, stL, lstAt, lsOf, atI0, atI1, atI2, atI3, ixN0, ixN1, ixN2, ixN3, mupd_same, mupd_mupd, dFor, iRng, List.map_cons, List.map_nil, List.length_cons, List.length_nil, List.replicate, List.cons_append, List.nil_append, List.append_nil, List.set_cons_zero, List.set_cons_succ, Nat.reduceAdd, Nat.reduceSub, Nat.sub_self, if_true, if_false, decide_eq_true_eq, Bool.false_eq_true, Bool.not_true, Bool.not_false, id_eq, ite_true, ite_false, isi_int k_tuple, isi_int k_bool, isi_int k_str, isi_int k_int, ii1, ii2, ii3, ii4, pIsB, decide_true]; exact h
    | str x => simp only [bSame, dSeq, dNext, dIf, dRet, dRetN, dDrop, dAsg, gN, gN0, gNc, gTp, gSubL, dPar, dPar3, dAug, dVar, dC, dOp, dUn, dTest, dAnd, dOr, dNot, dAndV, dOrV, dNotV, dIfE, dNil, dCons, dTup, dLst, dCB, dCall, dstart, dget, dset, dwp, dclr, asB, pI0, pI, pU, pAdd, pMul, pEqB, pIsB, pIx, pCI, pC2, pInt, pIsi, pLen, optQ, stL, lstAt, lsOf, atI0, atI1, atI2, atI3, ixN0, ixN1, ixN2, ixN3, mupd_same, mupd_mupd, dFor, iRng, List.map_cons, List.map_nil, List.length_cons, List.length_nil, List.replicate, List.cons_append, List.nil_append, List.append_nil, List.set_cons_zero, List.set_cons_succ, Nat.reduceAdd, Nat.reduceSub, Nat.sub_self, if_true, if_false, decide_eq_true_eq, Bool.false_eq_true, Bool.not_true, Bool.not_false, id_eq, ite_true, ite_false, isi_str k_tuple, isi_str k_str, is4, is3, pIsB, decide_true]; exact h
    | tup es =>
      cases k with
      | zero => exact hk.elim
      | succ k =>
        obtain ⟨hs, hd⟩ := hk
        simp only [bSame, dSeq, dNext, dIf, dRet, dRetN, dDrop, dAsg, gN, gN0, gNc, gTp, gSubL, dPar, dPar3, dAug, dVar, dC, dOp, dUn, dTest, dAnd, dOr, dNot, dAndV, dOrV, dNotV, dIfE, dNil, dCons, dTup, dLst, dCB, dCall, dstart, dget, dset, dwp, dclr, asB, pI0, pI, pU, pAdd, pMul, pEqB, pIsB, pIx, pCI, pC2, pInt, pIsi, pLen, optQ, stL, lstAt, lsOf, atI0, atI1, atI2, atI3, ixN0, ixN1, ixN2, ixN3, mupd_same, mupd_mupd, dFor, iRng, List.map_cons, List.map_nil, List.length_cons, List.length_nil, List.replicate, List.cons_append, List.nil_append, List.append_nil, List.set_cons_zero, List.set_cons_succ, Nat.reduceAdd, Nat.reduceSub, Nat.sub_self, if_true, if_false, decide_eq_true_eq, Bool.false_eq_true, Bool.not_true, Bool.not_false, id_eq, ite_true, ite_false, isi_tup k_tuple, it4, decide_true, dPure, dLc, pBs]
        have h62 : (es.length : Int) < 2 ^ 62 := by
          have : sizeLine < 2 ^ 62 := by decide +kernel
          omega
        refine ⟨⟨by omega, h62⟩, fun p np => ?_⟩
        refine lc_rng (fun _ => .bl true) (fun i hi xs K k' => ?_) hs ?_
        · simp only [dSeq, dNext, dIf, dRet, dRetN, dDrop, dAsg, gN, gN0, gNc, gTp, gSubL, dPar, dPar3, dAug, dVar, dC, dOp, dUn, dTest, dAnd, dOr, dNot, dAndV, dOrV, dNotV, dIfE, dNil, dCons, dTup, dLst, dCB, dCall, dstart, dget, dset, dwp, dclr, asB, pI0, pI, pU, pAdd, pMul, pEqB, pIsB, pIx, pCI, pC2, pInt, pIsi, pLen, optQ, stL, lstAt, lsOf, atI0, atI1, atI2, atI3, ixN0, ixN1, ixN2, ixN3, mupd_same, mupd_mupd, dFor, iRng, List.map_cons, List.map_nil, List.length_cons, List.length_nil, List.replicate, List.cons_append, List.nil_append, List.append_nil, List.set_cons_zero, List.set_cons_succ, Nat.reduceAdd, Nat.reduceSub, Nat.sub_self, if_true, if_false, decide_eq_true_eq, Bool.false_eq_true, Bool.not_true, Bool.not_false, id_eq, ite_true, ite_false]
          rw [atI_nat, List.getElem?_eq_getElem hi]
          simp only [sp_like, spLikeS]
          exact ⟨trivial, hd _ (List.getElem_mem _), k'⟩
        · simp only [dSeq, dNext, dIf, dRet, dRetN, dDrop, dAsg, gN, gN0, gNc, gTp, gSubL, dPar, dPar3, dAug, dVar, dC, dOp, dUn, dTest, dAnd, dOr, dNot, dAndV, dOrV, dNotV, dIfE, dNil, dCons, dTup, dLst, dCB, dCall, dstart, dget, dset, dwp, dclr, asB, pI0, pI, pU, pAdd, pMul, pEqB, pIsB, pIx, pCI, pC2, pInt, pIsi, pLen, optQ, stL, lstAt, lsOf, atI0, atI1, atI2, atI3, ixN0, ixN1, ixN2, ixN3, mupd_same, mupd_mupd, dFor, iRng, List.map_cons, List.map_nil, List.length_cons, List.length_nil, List.replicate, List.cons_append, List.nil_append, List.append_nil, List.set_cons_zero, List.set_cons_succ, Nat.reduceAdd, Nat.reduceSub, Nat.sub_self, if_true, if_false, decide_eq_true_eq, Bool.false_eq_true, Bool.not_true, Bool.not_false, id_eq, ite_true, ite_false, map_const, List.length_range, bsOf_rep]
          rw [show (List.replicate es.length true).all id = true by simp]
          exact ⟨Sub.new np, h⟩
    | ref a => exact absurd hk (by cases k <;> exact id)
    | ty n => exact absurd hk (by cases k <;> exact id)
    | kl ds => exact absurd hk (by cases k <;> exact id)
  · exact h.elim
end DL

namespace DL
open PySem PySem.Spec PyProof.Rows L2
section
variable {live : Mem → Prop} {g : DTG} {tt : DTT} {te : DTE} {p : Addr} {τ : DS}
/-- a comprehension with a test; test and element change nothing -/
theorem lc_filt {M0 : Mem} (b : D → Bool) (f : D → D) (hl : ∀ xs, live (mupd M0 p (.lst xs))) : ∀ (r acc : List D) (Q : Mem → Prop),
    (∀ d ∈ r, ∀ xs (K1 : DQ) (K2 : Mem → Prop), (b d = true → K1 (f d) (mupd M0 p (.lst xs))) → (b d = false → K2 (mupd M0 p (.lst xs))) → g d τ (mupd M0 p (.lst xs)) fun τ2 M2 => tt τ2 M2 fun c M3 => if c = true then te τ2 M3 K1 else K2 M3) →
    acc.length + r.length ≤ sizeLine → Q (mupd M0 p (.lst (acc ++ (r.filter b).map f))) → dLcL live g tt te p τ r acc (mupd M0 p (.lst acc)) Q
  | [], acc, Q, _, _, q => ⟨hl _, by simpa using q⟩
  | d :: r, acc, Q, h, hs, q => by
    refine ⟨hl _, ?_⟩
    have hs' : acc.length + r.length + 1 ≤ sizeLine := by simp only [List.length_cons] at hs; omega
    refine h d (List.mem_cons_self ..) acc (fun y M4 => M4 p = some (.lst acc) ∧ acc.length < sizeLine ∧ dLcL live g tt te p τ r (acc ++ [y]) (mupd M4 p (.lst (acc ++ [y]))) Q) (fun M3 => dLcL live g tt te p τ r acc M3 Q) (fun hb => ⟨mupd_same, by omega, ?_⟩) (fun hb => ?_)
    · rw [mupd_mupd]
      refine lc_filt b f hl r (acc ++ [f d]) Q (fun d hd => h d (List.mem_cons_of_mem _ hd)) (by simp only [List.length_append, List.length_cons, List.length_nil]; omega) ?_
      rw [List.filter_cons_of_pos hb] at q
      simpa using q
    · refine lc_filt b f hl r acc Q (fun d hd => h d (List.mem_cons_of_mem _ hd)) (by omega) ?_
      rw [List.filter_cons_of_neg (by rw [hb]; decide)] at q
      exact q
end
/-! ### _law_heap -/
def bHeap : DTS :=
    (dSeq (dPar 1 2 (dCons (dLc (iSeqD (dSl (dVar 0) dNoPart (dPart (dC (.int 63))))) (gN 3) dYes (dOp pAdd (dOp pMulC (dC (.int 2)) (dCB pAbs (dCons (dVar 3) dNil))) (dCB pInt (dCons (dOp pLt (dVar 3) (dC (.int 0))) dNil))) [3]) (dCons (dC (.int 26055)) dNil)))
    (dSeq (dFor (iSeqD (dVar 1)) (gN 3) (dAsg (dOp pMod (dCB pInt (dCons (dOp pAdd (dOp pAdd (dOp pMulC (dVar 2) (dC (.int 69621))) (dOp pMod (dCB pInt (dCons (dVar 3) dNil)) (dC (.int 2147483563)))) (dC (.int 31))) dNil)) (dC (.int 2147483647))) (gN 2)))
    (dRet (dLst (dCons (dRev (dLc (iSeqD (dVar 1)) (gN 3) (dTest (dOp pGe (dVar 3) (dOp pPow (dC (.int 10)) (dC (.int 18))))) (dOp pMod (dCB pInt (dCons (dVar 3) dNil)) (dOp pMul (dOp pMul (dOp pMul (dOp pPow (dC (.int 10)) (dC (.int 60))) (dOp pPow (dC (.int 10)) (dC (.int 60)))) (dOp pPow (dC (.int 10)) (dC (.int 60)))) (dOp pPow (dC (.int 10)) (dC (.int 60))))) [3])) (dCons (dVar 2) dNil))))))
def sp_heap : DSp := fun ds M Q => match ds with
  | [.kl xs] => ∃ ns : List Int, xs = ns.map D.int ∧ ∀ (a l : Addr) (M' : Mem), Sub M M' → M a = none → M l = none → HpA M' a l → Q (.ref a) M'
  | _ => False
theorem sp_heap_mono : MonoSp sp_heap := ⟨fun {ds M Q Q'} h q => by
  unfold sp_heap at q ⊢
  split at q
  · obtain ⟨ns, a, d⟩ := q
    exact ⟨ns, a, fun p l M' u v w z => h _ _ (d p l M' u v w z)⟩
  · exact q⟩
def cellI (x : Int) : Int := 2 * (x.natAbs : Int) + (if x < 0 then 1 else 0)
theorem cell0 (x : Int) : 0 ≤ cellI x := by unfold cellI; split <;> omega
theorem none_of {M : Mem} {p q : Addr} {o : MO} (h : mupd M p o q = none) : M q = none ∧ q ≠ p := by
  by_cases z : q = p
  · subst z; rw [mupd_same] at h; cases h
  · rw [mupd_ne z] at h; exact ⟨h, z⟩
theorem cut63 (ns : List Int) : cutL (ns.map D.int) none (some 63) = (ns.take 63).map D.int := by
  unfold cutL HT.sIx
  simp only [List.length_map, List.drop_zero, Nat.sub_zero]
  rw [if_neg (by decide), List.map_take, show (63 : Int).toNat = 63 from rfl]
  by_cases h : 63 ≤ ns.length
  · rw [Nat.min_eq_left h]
  · rw [Nat.min_eq_right (by omega), List.take_of_length_le (by simp), List.take_of_length_le (by simp; omega)]
theorem body_heap (ds : List D) (M : Mem) (Q : DQ) (hc : Clo Q) (h : sp_heap ds M Q) : bHeap { nx := fun _ M' => Q .non M', rt := Q } (dstart ["script", "cells", "stir", "cell"] ds) M := by
  unfold sp_heap at h
  split at h
  · rename_i xs
    obtain ⟨ns, rfl, h⟩ := h
    unfold bHeap
    refine seq_cut fun R hR => ?_
    simp only [dSeq, dNext, dIf, dRet, dRetN, dDrop, dAsg, gN, gN0, gNc, gTp, gSubL, dPar, dPar3, dAug, dVar, dC, dOp, dUn, dTest, dAnd, dOr, dNot, dAndV, dOrV, dNotV, dIfE, dNil, dCons, dTup, dLst, dCB, dCall, dstart, dget, dset, dwp, dclr, asB, pI0, pI, pU, pAdd, pMul, pEqB, pIsB, pIx, pCI, pC2, pInt, pIsi, pLen, optQ, stL, lstAt, lsOf, atI0, atI1, atI2, atI3, ixN0, ixN1, ixN2, ixN3, mupd_same, mupd_mupd, dFor, iRng, List.map_cons, List.map_nil, List.length_cons, List.length_nil, List.replicate, List.cons_append, List.nil_append, List.append_nil, List.set_cons_zero, List.set_cons_succ, Nat.reduceAdd, Nat.reduceSub, Nat.sub_self, if_true, if_false, decide_eq_true_eq, Bool.false_eq_true, Bool.not_true, Bool.not_false, id_eq, ite_true, ite_false, dLc, iSeqD, dSl, dNoPart, dPart, pSl, cut63]
    generalize hms : ns.take 63 = ms
    have hm63 : ms.length ≤ 63 := by rw [← hms]; simp; omega
    have big : 1000 ≤ sizeLine := by decide +kernel
    refine fun p0 np0 p1 np1' => ?_
    obtain ⟨np1, n10⟩ := none_of np1'
    refine lc_map (M0 := mupd M p0 (.lst (ms.map D.int))) (fun d => match d with | .int x => .int (cellI x) | d => d) (fun xs => ?_) _ [] _ (fun d hd xs K k => ?_) ?_ ?_
    · show mupd (mupd M p0 _) p1 _ p0 = _
      rw [mupd_ne n10.symm, mupd_same]
    · obtain ⟨x, _, rfl⟩ := List.mem_map.mp hd
      simp only [dSeq, dNext, dIf, dRet, dRetN, dDrop, dAsg, gN, gN0, gNc, gTp, gSubL, dPar, dPar3, dAug, dVar, dC, dOp, dUn, dTest, dAnd, dOr, dNot, dAndV, dOrV, dNotV, dIfE, dNil, dCons, dTup, dLst, dCB, dCall, dstart, dget, dset, dwp, dclr, asB, pI0, pI, pU, pAdd, pMul, pEqB, pIsB, pIx, pCI, pC2, pInt, pIsi, pLen, optQ, stL, lstAt, lsOf, atI0, atI1, atI2, atI3, ixN0, ixN1, ixN2, ixN3, mupd_same, mupd_mupd, dFor, iRng, List.map_cons, List.map_nil, List.length_cons, List.length_nil, List.replicate, List.cons_append, List.nil_append, List.append_nil, List.set_cons_zero, List.set_cons_succ, Nat.reduceAdd, Nat.reduceSub, Nat.sub_self, if_true, if_false, decide_eq_true_eq, Bool.false_eq_true, Bool.not_true, Bool.not_false, id_eq, ite_true, ite_false]
      exact ⟨.inl ⟨by decide, by decide⟩, k⟩
    · simp; omega
    · simp only [List.nil_append, List.map_map, dSeq, dNext, dIf, dRet, dRetN, dDrop, dAsg, gN, gN0, gNc, gTp, gSubL, dPar, dPar3, dAug, dVar, dC, dOp, dUn, dTest, dAnd, dOr, dNot, dAndV, dOrV, dNotV, dIfE, dNil, dCons, dTup, dLst, dCB, dCall, dstart, dget, dset, dwp, dclr, asB, pI0, pI, pU, pAdd, pMul, pEqB, pIsB, pIx, pCI, pC2, pInt, pIsi, pLen, optQ, stL, lstAt, lsOf, atI0, atI1, atI2, atI3, ixN0, ixN1, ixN2, ixN3, mupd_same, mupd_mupd, dFor, iRng, List.map_cons, List.map_nil, List.length_cons, List.length_nil, List.replicate, List.cons_append, List.nil_append, List.append_nil, List.set_cons_zero, List.set_cons_succ, Nat.reduceAdd, Nat.reduceSub, Nat.sub_self, if_true, if_false, decide_eq_true_eq, Bool.false_eq_true, Bool.not_true, Bool.not_false, id_eq, ite_true, ite_false]
      have e1 : ms.map ((fun d => match d with | D.int x => D.int (cellI x) | d => d) ∘ D.int) = (ms.map cellI).map D.int := by
        rw [List.map_map]; rfl
      rw [e1]
      have hcs : ∀ c ∈ ms.map cellI, 0 ≤ c := by
        intro c hc
        obtain ⟨x, _, rfl⟩ := List.mem_map.mp hc
        exact cell0 x
      have hcl : (ms.map cellI).length ≤ 63 := by simpa using hm63
      generalize ms.map cellI = cs at hcs hcl
      have sub1 : Sub M (mupd (mupd M p0 (.lst (ms.map D.int))) p1 (.lst (cs.map D.int))) := (Sub.new np0).new' np1
      have at1 : mupd (mupd M p0 (.lst (ms.map D.int))) p1 (.lst (cs.map D.int)) p1 = some (.lst (cs.map D.int)) := mupd_same
      generalize mupd (mupd M p0 (.lst (ms.map D.int))) p1 (.lst (cs.map D.int)) = M1 at sub1 at1
      subst hR
      refine seq_cut fun R hR => ?_
      simp only [dSeq, dNext, dIf, dRet, dRetN, dDrop, dAsg, gN, gN0, gNc, gTp, gSubL, dPar, dPar3, dAug, dVar, dC, dOp, dUn, dTest, dAnd, dOr, dNot, dAndV, dOrV, dNotV, dIfE, dNil, dCons, dTup, dLst, dCB, dCall, dstart, dget, dset, dwp, dclr, asB, pI0, pI, pU, pAdd, pMul, pEqB, pIsB, pIx, pCI, pC2, pInt, pIsi, pLen, optQ, stL, lstAt, lsOf, atI0, atI1, atI2, atI3, ixN0, ixN1, ixN2, ixN3, mupd_same, mupd_mupd, dFor, iRng, List.map_cons, List.map_nil, List.length_cons, List.length_nil, List.replicate, List.cons_append, List.nil_append, List.append_nil, List.set_cons_zero, List.set_cons_succ, Nat.reduceAdd, Nat.reduceSub, Nat.sub_self, if_true, if_false, decide_eq_true_eq, Bool.false_eq_true, Bool.not_true, Bool.not_false, id_eq, ite_true, ite_false, iSeqD, at1]
      refine loop_inv (I := fun r τ M' => M' = M1 ∧ ∃ (s : Int) (u : Option D), 0 ≤ s ∧ s < 2147483647 ∧ (∀ d ∈ r, ∃ x, d = .int x) ∧ τ = [some (.kl (ns.map D.int)), some (.ref p1), some (.int s), u]) (fun r τ M' q => by rw [q.1]; exact at1) ?_ ?_ _ _ _ ⟨rfl, 26055, none, by decide, by decide, fun d hd => ?_, rfl⟩
      · rintro d r τ M' X ⟨rfl, s, u, s0, s1, hd, rfl⟩ hX
        obtain ⟨x, rfl⟩ := hd d (List.mem_cons_self ..)
        simp only [dSeq, dNext, dIf, dRet, dRetN, dDrop, dAsg, gN, gN0, gNc, gTp, gSubL, dPar, dPar3, dAug, dVar, dC, dOp, dUn, dTest, dAnd, dOr, dNot, dAndV, dOrV, dNotV, dIfE, dNil, dCons, dTup, dLst, dCB, dCall, dstart, dget, dset, dwp, dclr, asB, pI0, pI, pU, pAdd, pMul, pEqB, pIsB, pIx, pCI, pC2, pInt, pIsi, pLen, optQ, stL, lstAt, lsOf, atI0, atI1, atI2, atI3, ixN0, ixN1, ixN2, ixN3, mupd_same, mupd_mupd, dFor, iRng, List.map_cons, List.map_nil, List.length_cons, List.length_nil, List.replicate, List.cons_append, List.nil_append, List.append_nil, List.set_cons_zero, List.set_cons_succ, Nat.reduceAdd, Nat.reduceSub, Nat.sub_self, if_true, if_false, decide_eq_true_eq, Bool.false_eq_true, Bool.not_true, Bool.not_false, id_eq, ite_true, ite_false]
        refine ⟨.inr ⟨by decide, by decide⟩, by decide, by decide, ?_⟩
        have hm := fmod_pos (s * 69621 + x.fmod 2147483563 + 31) (b := 2147483647) (by decide)
        exact hX _ _ ⟨rfl, _, _, hm.1, hm.2, fun d hd' => hd d (List.mem_cons_of_mem _ hd'), rfl⟩
      · rintro τ M' ⟨rfl, s, u, s0, s1, _, rfl⟩
        dsimp only
        subst hR
        simp only [dSeq, dNext, dIf, dRet, dRetN, dDrop, dAsg, gN, gN0, gNc, gTp, gSubL, dPar, dPar3, dAug, dVar, dC, dOp, dUn, dTest, dAnd, dOr, dNot, dAndV, dOrV, dNotV, dIfE, dNil, dCons, dTup, dLst, dCB, dCall, dstart, dget, dset, dwp, dclr, asB, pI0, pI, pU, pAdd, pMul, pEqB, pIsB, pIx, pCI, pC2, pInt, pIsi, pLen, optQ, stL, lstAt, lsOf, atI0, atI1, atI2, atI3, ixN0, ixN1, ixN2, ixN3, mupd_same, mupd_mupd, dFor, iRng, List.map_cons, List.map_nil, List.length_cons, List.length_nil, List.replicate, List.cons_append, List.nil_append, List.append_nil, List.set_cons_zero, List.set_cons_succ, Nat.reduceAdd, Nat.reduceSub, Nat.sub_self, if_true, if_false, decide_eq_true_eq, Bool.false_eq_true, Bool.not_true, Bool.not_false, id_eq, ite_true, ite_false, dRev, dLc, iSeqD, at1]
        refine fun p2 np2 => ?_
        have n21 : p1 ≠ p2 := ne_new at1 np2
        refine lc_filt (M0 := M') (fun d => match d with | .int x => decide (10 ^ (18 : Int).toNat ≤ x) | _ => false) (fun d => match d with | .int x => .int (x.fmod (10 ^ (60 : Int).toNat * 10 ^ (60 : Int).toNat * 10 ^ (60 : Int).toNat * 10 ^ (60 : Int).toNat)) | d => d) (fun xs => ?_) _ [] _ (fun d hd xs K1 K2 k1 k2 => ?_) ?_ ?_
        · show mupd M' p2 _ p1 = _
          rw [mupd_ne n21, at1]
        · obtain ⟨x, _, rfl⟩ := List.mem_map.mp hd
          simp only [dSeq, dNext, dIf, dRet, dRetN, dDrop, dAsg, gN, gN0, gNc, gTp, gSubL, dPar, dPar3, dAug, dVar, dC, dOp, dUn, dTest, dAnd, dOr, dNot, dAndV, dOrV, dNotV, dIfE, dNil, dCons, dTup, dLst, dCB, dCall, dstart, dget, dset, dwp, dclr, asB, pI0, pI, pU, pAdd, pMul, pEqB, pIsB, pIx, pCI, pC2, pInt, pIsi, pLen, optQ, stL, lstAt, lsOf, atI0, atI1, atI2, atI3, ixN0, ixN1, ixN2, ixN3, mupd_same, mupd_mupd, dFor, iRng, List.map_cons, List.map_nil, List.length_cons, List.length_nil, List.replicate, List.cons_append, List.nil_append, List.append_nil, List.set_cons_zero, List.set_cons_succ, Nat.reduceAdd, Nat.reduceSub, Nat.sub_self, if_true, if_false, decide_eq_true_eq, Bool.false_eq_true, Bool.not_true, Bool.not_false, id_eq, ite_true, ite_false]
          refine ⟨⟨by decide, by decide, by decide⟩, ?_⟩
          by_cases hx : (10 : Int) ^ (18 : Int).toNat ≤ x
          · simp only [hx, dSeq, dNext, dIf, dRet, dRetN, dDrop, dAsg, gN, gN0, gNc, gTp, gSubL, dPar, dPar3, dAug, dVar, dC, dOp, dUn, dTest, dAnd, dOr, dNot, dAndV, dOrV, dNotV, dIfE, dNil, dCons, dTup, dLst, dCB, dCall, dstart, dget, dset, dwp, dclr, asB, pI0, pI, pU, pAdd, pMul, pEqB, pIsB, pIx, pCI, pC2, pInt, pIsi, pLen, optQ, stL, lstAt, lsOf, atI0, atI1, atI2, atI3, ixN0, ixN1, ixN2, ixN3, mupd_same, mupd_mupd, dFor, iRng, List.map_cons, List.map_nil, List.length_cons, List.length_nil, List.replicate, List.cons_append, List.nil_append, List.append_nil, List.set_cons_zero, List.set_cons_succ, Nat.reduceAdd, Nat.reduceSub, Nat.sub_self, if_true, if_false, decide_eq_true_eq, Bool.false_eq_true, Bool.not_true, Bool.not_false, id_eq, ite_true, ite_false, decide_true] at k1 k2 ⊢
            refine ⟨⟨by decide, by decide, by decide⟩, ⟨by decide, by decide, by decide⟩, mulx_ok (a := 700) (b := 700) (by decide) (by decide) (by decide), ⟨by decide, by decide, by decide⟩, mulx_ok (a := 700) (b := 700) (by decide) (by decide) (by decide), ⟨by decide, by decide, by decide⟩, mulx_ok (a := 700) (b := 700) (by decide) (by decide) (by decide), by decide, k1 trivial⟩
          · simp only [hx, dSeq, dNext, dIf, dRet, dRetN, dDrop, dAsg, gN, gN0, gNc, gTp, gSubL, dPar, dPar3, dAug, dVar, dC, dOp, dUn, dTest, dAnd, dOr, dNot, dAndV, dOrV, dNotV, dIfE, dNil, dCons, dTup, dLst, dCB, dCall, dstart, dget, dset, dwp, dclr, asB, pI0, pI, pU, pAdd, pMul, pEqB, pIsB, pIx, pCI, pC2, pInt, pIsi, pLen, optQ, stL, lstAt, lsOf, atI0, atI1, atI2, atI3, ixN0, ixN1, ixN2, ixN3, mupd_same, mupd_mupd, dFor, iRng, List.map_cons, List.map_nil, List.length_cons, List.length_nil, List.replicate, List.cons_append, List.nil_append, List.append_nil, List.set_cons_zero, List.set_cons_succ, Nat.reduceAdd, Nat.reduceSub, Nat.sub_self, if_true, if_false, decide_eq_true_eq, Bool.false_eq_true, Bool.not_true, Bool.not_false, id_eq, ite_true, ite_false, decide_false] at k1 k2 ⊢
            exact k2 trivial
        · simp; omega
        · simp only [List.nil_append, dSeq, dNext, dIf, dRet, dRetN, dDrop, dAsg, gN, gN0, gNc, gTp, gSubL, dPar, dPar3, dAug, dVar, dC, dOp, dUn, dTest, dAnd, dOr, dNot, dAndV, dOrV, dNotV, dIfE, dNil, dCons, dTup, dLst, dCB, dCall, dstart, dget, dset, dwp, dclr, asB, pI0, pI, pU, pAdd, pMul, pEqB, pIsB, pIx, pCI, pC2, pInt, pIsi, pLen, optQ, stL, lstAt, lsOf, atI0, atI1, atI2, atI3, ixN0, ixN1, ixN2, ixN3, mupd_same, mupd_mupd, dFor, iRng, List.map_cons, List.map_nil, List.length_cons, List.length_nil, List.replicate, List.cons_append, List.nil_append, List.append_nil, List.set_cons_zero, List.set_cons_succ, Nat.reduceAdd, Nat.reduceSub, Nat.sub_self, if_true, if_false, decide_eq_true_eq, Bool.false_eq_true, Bool.not_true, Bool.not_false, id_eq, ite_true, ite_false]
          have e2 : ((cs.map D.int).filter fun d => match d with | .int x => decide (10 ^ (18 : Int).toNat ≤ x) | _ => false).map (fun d => match d with | .int x => D.int (x.fmod (10 ^ (60 : Int).toNat * 10 ^ (60 : Int).toNat * 10 ^ (60 : Int).toNat * 10 ^ (60 : Int).toNat)) | d => d)
              = (((cs.filter fun x => decide (10 ^ (18 : Int).toNat ≤ x))).map fun x => x.fmod (10 ^ (60 : Int).toNat * 10 ^ (60 : Int).toNat * 10 ^ (60 : Int).toNat * 10 ^ (60 : Int).toNat)).map D.int := by
            rw [List.filter_map, List.map_map, List.map_map]
            rfl
          rw [e2]
          have hz : ∀ z ∈ ((cs.filter fun x => decide (10 ^ (18 : Int).toNat ≤ x))).map (fun x => x.fmod (10 ^ (60 : Int).toNat * 10 ^ (60 : Int).toNat * 10 ^ (60 : Int).toNat * 10 ^ (60 : Int).toNat)), 0 ≤ z := by
            intro z hz
            obtain ⟨x, _, rfl⟩ := List.mem_map.mp hz
            exact (fmod_pos x (by decide)).1
          have hzl : (((cs.filter fun x => decide (10 ^ (18 : Int).toNat ≤ x))).map (fun x => x.fmod (10 ^ (60 : Int).toNat * 10 ^ (60 : Int).toNat * 10 ^ (60 : Int).toNat * 10 ^ (60 : Int).toNat))).length ≤ 63 := by
            rw [List.length_map]
            exact Nat.le_trans (List.length_filter_le ..) hcl
          generalize (((cs.filter fun x => decide (10 ^ (18 : Int).toNat ≤ x))).map (fun x => x.fmod (10 ^ (60 : Int).toNat * 10 ^ (60 : Int).toNat * 10 ^ (60 : Int).toNat * 10 ^ (60 : Int).toNat))) = zs at hz hzl
          have e3 : mupd M' p2 (.lst (zs.map D.int)) p2 = some (.lst (zs.map D.int)) := mupd_same
          have sub2 : Sub M (mupd M' p2 (.lst (zs.map D.int))) := sub1.trans (Sub.new np2)
          generalize mupd M' p2 (.lst (zs.map D.int)) = M2 at e3 sub2
          refine fun p3 np3 => ⟨by decide, fun p4 np4 => ?_⟩
          obtain ⟨np4', n43⟩ := none_of np4
          refine h p4 p3 _ ((sub2.trans (Sub.new np3)).trans (Sub.new np4)) (sub2.free np4') (sub2.free np3) ⟨zs.reverse, s, mupd_same, ?_, n43, ?_, by simpa using hzl, s0, s1⟩
          · rw [mupd_ne n43.symm, mupd_same, List.map_reverse]
          · intro z hz'
            exact hz z (List.mem_reverse.mp hz')
      · obtain ⟨x, _, rfl⟩ := List.mem_map.mp hd
        exact ⟨x, rfl⟩
  · exact h.elim
end DL

/-! fractions: the defs that many laws share -/
namespace QF
open PySem PySem.Spec PyProof.Rows L2 DL
def b_is_integer : DTS :=
    (dRet (dAndV (dCB pIsi (dCons (dVar 0) (dCons (dC (.ty "int")) dNil))) (dNotV (dCB pIsi (dCons (dVar 0) (dCons (dC (.ty "bool")) dNil))))))
def b_divisor_of : DTS :=
    (dSeq (dPar 0 1 (dCons (dCB pAbs (dCons (dVar 0) dNil)) (dCons (dCB pAbs (dCons (dVar 1) dNil)) dNil)))
    (dSeq (dWhile (dTest (dOp pGt (dVar 1) (dC (.int 0)))) (dPar 0 1 (dCons (dVar 1) (dCons (dOp pMod (dVar 0) (dVar 1)) dNil))))
    (dRet (dVar 0))))
def b_is_fraction (sp_is_integer : DSp) (sp_divisor_of : DSp) : DTS :=
    (dSeq (dIf (dOr (dNot (dTest (dCB pIsi (dCons (dVar 0) (dCons (dC (.ty "tuple")) dNil))))) (dOr (dTest (dOp pNe (dCB pLen (dCons (dVar 0) dNil)) (dC (.int 2)))) (dOr (dNot (dTest (dCall sp_is_integer [] (dCons (dOp pIx (dVar 0) (dC (.int 0))) dNil)))) (dNot (dTest (dCall sp_is_integer [] (dCons (dOp pIx (dVar 0) (dC (.int 1))) dNil))))))) (dRet (dC (.bl false))) dNext)
    (dRet (dAndV (dOp pGt (dOp pIx (dVar 0) (dC (.int 1))) (dC (.int 0))) (dOp pEq (dCall sp_divisor_of [] (dCons (dOp pIx (dVar 0) (dC (.int 0))) (dCons (dOp pIx (dVar 0) (dC (.int 1))) dNil))) (dC (.int 1))))))
def b_fraction_of (sp_divisor_of : DSp) : DTS :=
    (dSeq (dAsg (dCall sp_divisor_of [] (dCons (dVar 0) (dCons (dVar 1) dNil))) (gN 2))
    (dSeq (dIf (dTest (dOp pLt (dVar 1) (dC (.int 0)))) (dAsg (dUn pNeg (dVar 2)) (gN 2)) dNext)
    (dRet (dTup (dCons (dOp pFdiv (dVar 0) (dVar 2)) (dCons (dOp pFdiv (dVar 1) (dVar 2)) dNil))))))
def b_plus (sp_fraction_of : DSp) : DTS :=
    (dSeq (dIf (dAnd (dTest (dOp pEq (dOp pIx (dVar 0) (dC (.int 1))) (dC (.int 1)))) (dTest (dOp pEq (dOp pIx (dVar 1) (dC (.int 1))) (dC (.int 1))))) (dRet (dTup (dCons (dOp pAdd (dOp pIx (dVar 0) (dC (.int 0))) (dOp pIx (dVar 1) (dC (.int 0)))) (dCons (dC (.int 1)) dNil)))) dNext)
    (dRet (dCall sp_fraction_of [] (dCons (dOp pAdd (dOp pMul (dOp pIx (dVar 0) (dC (.int 0))) (dOp pIx (dVar 1) (dC (.int 1)))) (dOp pMul (dOp pIx (dVar 1) (dC (.int 0))) (dOp pIx (dVar 0) (dC (.int 1))))) (dCons (dOp pMul (dOp pIx (dVar 0) (dC (.int 1))) (dOp pIx (dVar 1) (dC (.int 1)))) dNil)))))
def b_minus (sp_plus : DSp) : DTS :=
    (dRet (dCall sp_plus [] (dCons (dVar 0) (dCons (dTup (dCons (dUn pNeg (dOp pIx (dVar 1) (dC (.int 0)))) (dCons (dOp pIx (dVar 1) (dC (.int 1))) dNil))) dNil))))
def b_times (sp_fraction_of : DSp) : DTS :=
    (dSeq (dIf (dAnd (dTest (dOp pEq (dOp pIx (dVar 0) (dC (.int 1))) (dC (.int 1)))) (dTest (dOp pEq (dOp pIx (dVar 1) (dC (.int 1))) (dC (.int 1))))) (dRet (dTup (dCons (dOp pMul (dOp pIx (dVar 0) (dC (.int 0))) (dOp pIx (dVar 1) (dC (.int 0)))) (dCons (dC (.int 1)) dNil)))) dNext)
    (dRet (dCall sp_fraction_of [] (dCons (dOp pMul (dOp pIx (dVar 0) (dC (.int 0))) (dOp pIx (dVar 1) (dC (.int 0)))) (dCons (dOp pMul (dOp pIx (dVar 0) (dC (.int 1))) (dOp pIx (dVar 1) (dC (.int 1)))) dNil)))))
def b_over (sp_fraction_of : DSp) : DTS :=
    (dRet (dCall sp_fraction_of [] (dCons (dOp pMul (dOp pIx (dVar 0) (dC (.int 0))) (dOp pIx (dVar 1) (dC (.int 1)))) (dCons (dOp pMul (dOp pIx (dVar 0) (dC (.int 1))) (dOp pIx (dVar 1) (dC (.int 0)))) dNil))))
def b_is_below : DTS :=
    (dRet (dOp pLt (dOp pMul (dOp pIx (dVar 0) (dC (.int 0))) (dOp pIx (dVar 1) (dC (.int 1)))) (dOp pMul (dOp pIx (dVar 1) (dC (.int 0))) (dOp pIx (dVar 0) (dC (.int 1))))))
def b__law_gcd : DTS :=
    (dSeq (dPar 0 1 (dCons (dCB pAbs (dCons (dVar 0) dNil)) (dCons (dCB pAbs (dCons (dVar 1) dNil)) dNil)))
    (dSeq (dWhile (dTest (dOp pNe (dVar 1) (dC (.int 0)))) (dPar 0 1 (dCons (dVar 1) (dCons (dOp pMod (dCB pInt (dCons (dVar 0) dNil)) (dVar 1)) dNil))))
    (dRet (dVar 0))))
def b__law_low (sp__law_gcd : DSp) : DTS :=
    (dSeq (dAsg (dCall sp__law_gcd [] (dCons (dVar 0) (dCons (dVar 1) dNil))) (gN 2))
    (dSeq (dAsg (dIfE (dTest (dOp pGt (dVar 1) (dC (.int 0)))) (dVar 2) (dOp pSub (dC (.int 0)) (dVar 2))) (gN 2))
    (dRet (dTup (dCons (dOp pFdiv (dVar 0) (dVar 2)) (dCons (dOp pFdiv (dVar 1) (dVar 2)) dNil))))))
def b__law_plus (sp__law_low : DSp) : DTS :=
    (dRet (dCall sp__law_low [] (dCons (dOp pAdd (dOp pMul (dOp pIx (dVar 0) (dC (.int 0))) (dOp pIx (dVar 1) (dC (.int 1)))) (dOp pMul (dOp pIx (dVar 1) (dC (.int 0))) (dOp pIx (dVar 0) (dC (.int 1))))) (dCons (dOp pMul (dOp pIx (dVar 0) (dC (.int 1))) (dOp pIx (dVar 1) (dC (.int 1)))) dNil))))
def b__law_times (sp__law_low : DSp) : DTS :=
    (dRet (dCall sp__law_low [] (dCons (dOp pMul (dOp pIx (dVar 0) (dC (.int 0))) (dOp pIx (dVar 1) (dC (.int 0)))) (dCons (dOp pMul (dOp pIx (dVar 0) (dC (.int 1))) (dOp pIx (dVar 1) (dC (.int 1)))) dNil))))
/-! ### plain fractions -/
def cI (a b : Int) : Int := if b < 0 then -(Int.gcd a b : Int) else (Int.gcd a b : Int)
def lowI (a b : Int) : Int × Int := (a.fdiv (cI a b), b.fdiv (cI a b))
def fr (p : Int × Int) : D := .tup [.int p.1, .int p.2]
theorem gcd_pos {a b : Int} (h : b ≠ 0) : 0 < Int.gcd a b := by
  have := Int.gcd_eq_zero_iff (a := a) (b := b)
  omega
theorem lowI_parts {a b : Int} (h : b ≠ 0) : ∃ x y s : Int, a = Int.gcd a b * x ∧ b = Int.gcd a b * y ∧ Int.gcd x y = 1 ∧ (s = 1 ∨ s = -1) ∧ lowI a b = (s * x, s * y) ∧ 0 < s * y := by
  have hg := gcd_pos (a := a) h
  obtain ⟨x, hx⟩ := Int.gcd_dvd_left (a := a) (b := b)
  obtain ⟨y, hy⟩ := Int.gcd_dvd_right (a := a) (b := b)
  have hc : Int.gcd x y = 1 := by
    have key := Int.gcd_mul_left (Int.gcd a b : Int) x y
    rw [← hx, ← hy] at key
    exact Nat.eq_of_mul_eq_mul_left hg (by rw [Nat.mul_one]; exact key.symm)
  generalize hG : Int.gcd a b = g at *
  by_cases hb : b < 0
  · refine ⟨x, y, -1, hx, hy, hc, .inr rfl, ?_, ?_⟩
    · unfold lowI cI
      rw [if_pos hb, hG]
      have e1 : a = -(g : Int) * (-1 * x) := by rw [hx]; simp [Int.neg_mul, Int.mul_neg]
      have e2 : b = -(g : Int) * (-1 * y) := by rw [hy]; simp [Int.neg_mul, Int.mul_neg]
      conv => lhs; rw [e1, e2]
      rw [Int.mul_fdiv_cancel_left _ (by omega), Int.mul_fdiv_cancel_left _ (by omega)]
    · have : ¬ 0 ≤ y := fun q => by
        have := Int.mul_nonneg (show (0 : Int) ≤ g by omega) q
        omega
      omega
  · refine ⟨x, y, 1, hx, hy, hc, .inl rfl, ?_, ?_⟩
    · unfold lowI cI
      rw [if_neg hb, hG]
      conv => lhs; rw [hx, hy]
      rw [Int.mul_fdiv_cancel_left _ (by omega), Int.mul_fdiv_cancel_left _ (by omega), Int.one_mul, Int.one_mul]
    · have : ¬ y ≤ 0 := fun q => by
        have := Int.mul_nonneg (show (0 : Int) ≤ g by omega) (show 0 ≤ -y by omega)
        rw [Int.mul_neg] at this
        omega
      omega
/-- a fraction in lowest terms -/
structure Fr (p : Int × Int) : Prop where
  pos : 0 < p.2
  cop : Int.gcd p.1 p.2 = 1
theorem lowI_fr {a b : Int} (h : b ≠ 0) : Fr (lowI a b) := by
  obtain ⟨x, y, s, _, _, hc, hs, e, hp⟩ := lowI_parts (a := a) h
  rw [e]
  refine ⟨hp, ?_⟩
  rcases hs with rfl | rfl
  · simpa using hc
  · simpa using hc
theorem natAbs_le_mul {g : Nat} {x : Int} (h : 0 < g) : x.natAbs ≤ ((g : Int) * x).natAbs := by
  rw [Int.natAbs_mul]
  exact Nat.le_mul_of_pos_left _ h
theorem lowI_le {a b : Int} (h : b ≠ 0) : (lowI a b).1.natAbs ≤ a.natAbs ∧ (lowI a b).2.natAbs ≤ b.natAbs := by
  obtain ⟨x, y, s, hx, hy, hc, hs, e, hp⟩ := lowI_parts (a := a) h
  have hg := gcd_pos (a := a) h
  have h1 := natAbs_le_mul (x := x) hg
  have h2 := natAbs_le_mul (x := y) hg
  rw [← hx] at h1
  rw [← hy] at h2
  rw [e]
  rcases hs with rfl | rfl
  · simp only [Int.one_mul]; exact ⟨h1, h2⟩
  · simp only [Int.neg_mul, Int.one_mul, Int.natAbs_neg]; exact ⟨h1, h2⟩
theorem lowI_self {p : Int × Int} (h : Fr p) : lowI p.1 p.2 = p := by
  unfold lowI cI
  rw [if_neg (by have := h.pos; omega), h.cop]
  simp
theorem lowI_one (a : Int) : lowI a 1 = (a, 1) := lowI_self (p := (a, 1)) ⟨show (0 : Int) < 1 by decide, by simp⟩
def Bd (k : Nat) (i : Int) : Prop := i.natAbs < 2 ^ k
theorem Bd.mul {j k : Nat} {a b : Int} (h : Bd j a) (h2 : Bd k b) : Bd (j + k) (a * b) := by
  unfold Bd at *
  rw [Int.natAbs_mul, Nat.pow_add]
  exact Nat.mul_lt_mul'' h h2
theorem Bd.mono {j k : Nat} {a : Int} (h : Bd j a) (l : j ≤ k) : Bd k a := Nat.lt_of_lt_of_le h (Nat.pow_le_pow_right (by decide) l)
theorem Bd.add {k : Nat} {a b : Int} (h : Bd k a) (h2 : Bd k b) : Bd (k + 1) (a + b) := by
  unfold Bd at *
  have := Int.natAbs_add_le a b
  rw [Nat.pow_succ]
  omega
theorem Bd.neg {k : Nat} {a : Int} (h : Bd k a) : Bd k (-a) := by
  unfold Bd at *
  rwa [Int.natAbs_neg]
theorem Bd.le {k : Nat} {a b : Int} (h : Bd k a) (l : b.natAbs ≤ a.natAbs) : Bd k b := Nat.lt_of_le_of_lt l h
theorem Bd.mulx {j k : Nat} {a b : Int} (h : Bd j a) (h2 : Bd k b) (l : j + k ≤ 134217728) : CMulX a b := mulx_ok h h2 l
/-! ### what the defs do -/
def nice (d : D) : Prop := match d with
  | .non => True
  | .bl _ => True
  | .int _ => True
  | .str _ => True
  | .tup _ => True
  | _ => False
def isInt (d : D) : Bool := match d with
  | .int _ => true
  | _ => false
def sp_is_integer : DSp := fun ds M Q => match ds with
  | [d] => nice d ∧ Q (.bl (isInt d)) M
  | _ => False
def sp_divisor_of : DSp := fun ds M Q => match ds with
  | [.int a, .int b] => Q (.int (Int.gcd a b : Nat)) M
  | _ => False
def isFrac (d : D) : Bool := match d with
  | .tup [.int a, .int b] => decide (0 < b) && decide (Int.gcd a b = 1)
  | _ => false
def fracOk (M : Mem) (d : D) : Prop := match d with
  | .tup [x, y] => nice x ∧ nice y
  | .ref a => kindD M (.ref a) = some "list" ∨ kindD M (.ref a) = some "dict"
  | d => nice d
def sp_is_fraction : DSp := fun ds M Q => match ds with
  | [d] => fracOk M d ∧ Q (.bl (isFrac d)) M
  | _ => False
def sp_fraction_of : DSp := fun ds M Q => match ds with
  | [.int a, .int b] => b ≠ 0 ∧ Bd 8000 b ∧ Q (fr (lowI a b)) M
  | _ => False
/-- two pairs of numbers, not too long, none below nought -/
def P2 (a b c d : Int) : Prop := b ≠ 0 ∧ d ≠ 0 ∧ Bd 3000 a ∧ Bd 3000 b ∧ Bd 3000 c ∧ Bd 3000 d
def spF2 (C : Int → Int → Int → Int → Prop) (r : Int → Int → Int → Int → D) : DSp := fun ds M Q => match ds with
  | [.tup [.int a, .int b], .tup [.int c, .int d]] => P2 a b c d ∧ C a b c d ∧ Q (r a b c d) M
  | _ => False
abbrev yes4 : Int → Int → Int → Int → Prop := fun _ _ _ _ => True
abbrev sp_plus : DSp := spF2 yes4 fun a b c d => fr (lowI (a * d + c * b) (b * d))
abbrev sp_minus : DSp := spF2 yes4 fun a b c d => fr (lowI (a * d + -c * b) (b * d))
abbrev sp_times : DSp := spF2 yes4 fun a b c d => fr (lowI (a * c) (b * d))
abbrev sp_over : DSp := spF2 (fun _ _ c _ => c ≠ 0) fun a b c d => fr (lowI (a * d) (b * c))
abbrev sp_is_below : DSp := spF2 yes4 fun a b c d => .bl (decide (a * d < c * b))
section
variable {ds : List D} {M : Mem} {Q : DQ}
theorem sp_is_integer_mono : MonoSp sp_is_integer := ⟨fun {ds M Q Q'} h q => by
  unfold sp_is_integer at q ⊢
  split at q
  · exact ⟨q.1, h _ _ q.2⟩
  · exact q⟩
theorem sp_divisor_of_mono : MonoSp sp_divisor_of := ⟨fun {ds M Q Q'} h q => by
  unfold sp_divisor_of at q ⊢
  split at q
  · exact h _ _ q
  · exact q⟩
theorem sp_is_fraction_mono : MonoSp sp_is_fraction := ⟨fun {ds M Q Q'} h q => by
  unfold sp_is_fraction at q ⊢
  split at q
  · exact ⟨q.1, h _ _ q.2⟩
  · exact q⟩
theorem sp_fraction_of_mono : MonoSp sp_fraction_of := ⟨fun {ds M Q Q'} h q => by
  unfold sp_fraction_of at q ⊢
  split at q
  · exact ⟨q.1, q.2.1, h _ _ q.2.2⟩
  · exact q⟩
theorem spF2_mono {C : Int → Int → Int → Int → Prop} {r : Int → Int → Int → Int → D} : MonoSp (spF2 C r) := ⟨fun {ds M Q Q'} h q => by
  unfold spF2 at q ⊢
  split at q
  · exact ⟨q.1, q.2.1, h _ _ q.2.2⟩
  · exact q⟩
theorem body_is_integer (h : sp_is_integer ds M Q) : b_is_integer { nx := fun _ M' => Q .non M', rt := Q } (dstart ["value"] ds) M := by
  unfold sp_is_integer at h
  split at h
  · rename_i d
    obtain ⟨n, h⟩ := h
    cases d with
    | non => simp only [b_is_integer, dSeq, dNext, dIf, dRet, dRetN, dDrop, dAsg, gN, gN0, gNc, gTp, gSubL, dPar, dPar3, dAug, dVar, dC, dOp, dUn, dTest, dAnd, dOr, dNot, dAndV, dOrV, dNotV, dIfE, dNil, dCons, dTup, dLst, dCB, dCall, dstart, dget, dset, dwp, dclr, asB, pI0, pI, pU, pAdd, pMul, pEqB, pIsB, pIx, pCI, pC2, pInt, pIsi, pLen, optQ, stL, lstAt, lsOf, atI0, atI1, atI2, atI3, ixN0, ixN1, ixN2, ixN3, mupd_same, mupd_mupd, dFor, iRng, List.map_cons, List.map_nil, List.length_cons, List.length_nil, List.replicate, List.cons_append, List.nil_append, List.append_nil, List.set_cons_zero, List.set_cons_succ, Nat.reduceAdd, Nat.reduceSub, Nat.sub_self, if_true, if_false, decide_eq_true_eq, Bool.false_eq_true, Bool.not_true, Bool.not_false, id_eq, ite_true, ite_false, isi_non k_int, in2]; exact h
    | bl b => simp only [b_is_integer, dSeq, dNext, dIf, dRet, dRetN, dDrop, dAsg, gN, gN0, gNc, gTp, gSubL, dPar, dPar3, dAug, dVar, dC, dOp, dUn, dTest, dAnd, dOr, dNot, dAndV, dOrV, dNotV, dIfE, dNil, dCons, dTup, dLst, dCB, dCall, dstart, dget, dset, dwp, dclr, asB, pI0, pI, pU, pAdd, pMul, pEqB, pIsB, pIx, pCI, pC2, pInt, pIsi, pLen, optQ, stL, lstAt, lsOf, atI0, atI1, atI2, atI3, ixN0, ixN1, ixN2, ixN3, mupd_same, mupd_mupd, dFor, iRng, List.map_cons, List.map_nil, List.length_cons, List.length_nil, List.replicate, List.cons_append, List.nil_append, List.append_nil, List.set_cons_zero, List.set_cons_succ, Nat.reduceAdd, Nat.reduceSub, Nat.sub_self, if_true, if_false, decide_eq_true_eq, Bool.false_eq_true, Bool.not_true, Bool.not_false, id_eq, ite_true, ite_false, isi_bl k_int, isi_bl k_bool, ib1, ib2]; exact h
    | int b => simp only [b_is_integer, dSeq, dNext, dIf, dRet, dRetN, dDrop, dAsg, gN, gN0, gNc, gTp, gSubL, dPar, dPar3, dAug, dVar, dC, dOp, dUn, dTest, dAnd, dOr, dNot, dAndV, dOrV, dNotV, dIfE, dNil, dCons, dTup, dLst, dCB, dCall, dstart, dget, dset, dwp, dclr, asB, pI0, pI, pU, pAdd, pMul, pEqB, pIsB, pIx, pCI, pC2, pInt, pIsi, pLen, optQ, stL, lstAt, lsOf, atI0, atI1, atI2, atI3, ixN0, ixN1, ixN2, ixN3, mupd_same, mupd_mupd, dFor, iRng, List.map_cons, List.map_nil, List.length_cons, List.length_nil, List.replicate, List.cons_append, List.nil_append, List.append_nil, List.set_cons_zero, List.set_cons_succ, Nat.reduceAdd, Nat.reduceSub, Nat.sub_self, if_true, if_false, decide_eq_true_eq, Bool.false_eq_true, Bool.not_true, Bool.not_false, id_eq, ite_true, ite_false, isi_int k_int, isi_int k_bool, ii1, ii2]; exact h
    | str b => simp only [b_is_integer, dSeq, dNext, dIf, dRet, dRetN, dDrop, dAsg, gN, gN0, gNc, gTp, gSubL, dPar, dPar3, dAug, dVar, dC, dOp, dUn, dTest, dAnd, dOr, dNot, dAndV, dOrV, dNotV, dIfE, dNil, dCons, dTup, dLst, dCB, dCall, dstart, dget, dset, dwp, dclr, asB, pI0, pI, pU, pAdd, pMul, pEqB, pIsB, pIx, pCI, pC2, pInt, pIsi, pLen, optQ, stL, lstAt, lsOf, atI0, atI1, atI2, atI3, ixN0, ixN1, ixN2, ixN3, mupd_same, mupd_mupd, dFor, iRng, List.map_cons, List.map_nil, List.length_cons, List.length_nil, List.replicate, List.cons_append, List.nil_append, List.append_nil, List.set_cons_zero, List.set_cons_succ, Nat.reduceAdd, Nat.reduceSub, Nat.sub_self, if_true, if_false, decide_eq_true_eq, Bool.false_eq_true, Bool.not_true, Bool.not_false, id_eq, ite_true, ite_false, isi_str k_int, is2]; exact h
    | tup b => simp only [b_is_integer, dSeq, dNext, dIf, dRet, dRetN, dDrop, dAsg, gN, gN0, gNc, gTp, gSubL, dPar, dPar3, dAug, dVar, dC, dOp, dUn, dTest, dAnd, dOr, dNot, dAndV, dOrV, dNotV, dIfE, dNil, dCons, dTup, dLst, dCB, dCall, dstart, dget, dset, dwp, dclr, asB, pI0, pI, pU, pAdd, pMul, pEqB, pIsB, pIx, pCI, pC2, pInt, pIsi, pLen, optQ, stL, lstAt, lsOf, atI0, atI1, atI2, atI3, ixN0, ixN1, ixN2, ixN3, mupd_same, mupd_mupd, dFor, iRng, List.map_cons, List.map_nil, List.length_cons, List.length_nil, List.replicate, List.cons_append, List.nil_append, List.append_nil, List.set_cons_zero, List.set_cons_succ, Nat.reduceAdd, Nat.reduceSub, Nat.sub_self, if_true, if_false, decide_eq_true_eq, Bool.false_eq_true, Bool.not_true, Bool.not_false, id_eq, ite_true, ite_false, isi_tup k_int, it2]; exact h
    | ref a => exact n.elim
    | ty a => exact n.elim
    | kl a => exact n.elim
  · exact h.elim
theorem gcd_loop (c : DTT) (n : Nat) (m k : Nat) (E : DEnds) (hc : ∀ (τ : DS) (M : Mem) (x y : Int) (Q : Bool → Mem → Prop), 0 ≤ y → Q (decide (0 < y)) M → c [some (.int x), some (.int y)] M Q) (tb : DTS)
    (hb : ∀ (M : Mem) (m k : Nat) (E : DEnds), 0 < k → E.nx [some (.int k), some (.int (m % k : Nat))] M → tb E [some (.int m), some (.int k)] M)
    (h : E.nx [some (.int (Nat.gcd m k : Nat)), some (.int 0)] M) : dWhile c tb E [some (.int m), some (.int k)] M := by
  refine while_inv (I := fun n τ M' => M' = M ∧ ∃ u v : Nat, τ = [some (.int u), some (.int v)] ∧ v = n ∧ Nat.gcd u v = Nat.gcd m k) ?_ (n := k) ⟨rfl, m, k, rfl, rfl, rfl⟩
  rintro n τ M' X ⟨rfl, u, v, rfl, rfl, hg⟩ hX
  refine hc [] _ _ _ _ (by omega) ?_
  by_cases hv : (0 : Int) < v
  · rw [decide_eq_true hv, if_pos rfl]
    refine hb _ _ _ _ (by omega) (hX (u % v) _ _ (Nat.mod_lt _ (by omega)) ⟨rfl, v, u % v, rfl, rfl, ?_⟩)
    rw [← hg, Nat.gcd_comm v, ← Nat.gcd_rec, Nat.gcd_comm]
  · rw [decide_eq_false hv, if_neg (by decide)]
    have e : v = 0 := by omega
    subst e
    rw [Nat.gcd_zero_right] at hg
    subst hg
    exact h
theorem body_divisor_of (h : sp_divisor_of ds M Q) : b_divisor_of { nx := fun _ M' => Q .non M', rt := Q } (dstart ["one", "other"] ds) M := by
  unfold sp_divisor_of at h
  split at h
  · rename_i a b
    simp only [b_divisor_of, dSeq, dNext, dIf, dRet, dRetN, dDrop, dAsg, gN, gN0, gNc, gTp, gSubL, dPar, dPar3, dAug, dVar, dC, dOp, dUn, dTest, dAnd, dOr, dNot, dAndV, dOrV, dNotV, dIfE, dNil, dCons, dTup, dLst, dCB, dCall, dstart, dget, dset, dwp, dclr, asB, pI0, pI, pU, pAdd, pMul, pEqB, pIsB, pIx, pCI, pC2, pInt, pIsi, pLen, optQ, stL, lstAt, lsOf, atI0, atI1, atI2, atI3, ixN0, ixN1, ixN2, ixN3, mupd_same, mupd_mupd, dFor, iRng, List.map_cons, List.map_nil, List.length_cons, List.length_nil, List.replicate, List.cons_append, List.nil_append, List.append_nil, List.set_cons_zero, List.set_cons_succ, Nat.reduceAdd, Nat.reduceSub, Nat.sub_self, if_true, if_false, decide_eq_true_eq, Bool.false_eq_true, Bool.not_true, Bool.not_false, id_eq, ite_true, ite_false]
    refine gcd_loop _ 0 a.natAbs b.natAbs _ (fun τ M x y Q hy q => q) _ (fun M m k E hk q => ⟨by omega, ?_⟩) h
    have e : (m : Int).fmod k = (m % k : Nat) := by rw [Int.fmod_eq_emod_of_nonneg _ (by omega)]; rfl
    simp only [dSeq, dNext, dIf, dRet, dRetN, dDrop, dAsg, gN, gN0, gNc, gTp, gSubL, dPar, dPar3, dAug, dVar, dC, dOp, dUn, dTest, dAnd, dOr, dNot, dAndV, dOrV, dNotV, dIfE, dNil, dCons, dTup, dLst, dCB, dCall, dstart, dget, dset, dwp, dclr, asB, pI0, pI, pU, pAdd, pMul, pEqB, pIsB, pIx, pCI, pC2, pInt, pIsi, pLen, optQ, stL, lstAt, lsOf, atI0, atI1, atI2, atI3, ixN0, ixN1, ixN2, ixN3, mupd_same, mupd_mupd, dFor, iRng, List.map_cons, List.map_nil, List.length_cons, List.length_nil, List.replicate, List.cons_append, List.nil_append, List.append_nil, List.set_cons_zero, List.set_cons_succ, Nat.reduceAdd, Nat.reduceSub, Nat.sub_self, if_true, if_false, decide_eq_true_eq, Bool.false_eq_true, Bool.not_true, Bool.not_false, id_eq, ite_true, ite_false, e]
    exact q
  · exact h.elim
theorem body__law_gcd (h : sp_divisor_of ds M Q) : b__law_gcd { nx := fun _ M' => Q .non M', rt := Q } (dstart ["one", "other"] ds) M := by
  unfold sp_divisor_of at h
  split at h
  · rename_i a b
    simp only [b__law_gcd, dSeq, dNext, dIf, dRet, dRetN, dDrop, dAsg, gN, gN0, gNc, gTp, gSubL, dPar, dPar3, dAug, dVar, dC, dOp, dUn, dTest, dAnd, dOr, dNot, dAndV, dOrV, dNotV, dIfE, dNil, dCons, dTup, dLst, dCB, dCall, dstart, dget, dset, dwp, dclr, asB, pI0, pI, pU, pAdd, pMul, pEqB, pIsB, pIx, pCI, pC2, pInt, pIsi, pLen, optQ, stL, lstAt, lsOf, atI0, atI1, atI2, atI3, ixN0, ixN1, ixN2, ixN3, mupd_same, mupd_mupd, dFor, iRng, List.map_cons, List.map_nil, List.length_cons, List.length_nil, List.replicate, List.cons_append, List.nil_append, List.append_nil, List.set_cons_zero, List.set_cons_succ, Nat.reduceAdd, Nat.reduceSub, Nat.sub_self, if_true, if_false, decide_eq_true_eq, Bool.false_eq_true, Bool.not_true, Bool.not_false, id_eq, ite_true, ite_false]
    refine gcd_loop _ 0 a.natAbs b.natAbs _ (fun τ M x y Q hy q => ?_) _ (fun M m k E hk q => ⟨by omega, ?_⟩) h
    · by_cases e : y = 0
      · subst e; exact q
      · rw [decide_eq_true (show 0 < y by omega)] at q
        show Q (!decide (y = 0)) M
        rw [decide_eq_false e]; exact q
    · have e : (m : Int).fmod k = (m % k : Nat) := by rw [Int.fmod_eq_emod_of_nonneg _ (by omega)]; rfl
      simp only [dSeq, dNext, dIf, dRet, dRetN, dDrop, dAsg, gN, gN0, gNc, gTp, gSubL, dPar, dPar3, dAug, dVar, dC, dOp, dUn, dTest, dAnd, dOr, dNot, dAndV, dOrV, dNotV, dIfE, dNil, dCons, dTup, dLst, dCB, dCall, dstart, dget, dset, dwp, dclr, asB, pI0, pI, pU, pAdd, pMul, pEqB, pIsB, pIx, pCI, pC2, pInt, pIsi, pLen, optQ, stL, lstAt, lsOf, atI0, atI1, atI2, atI3, ixN0, ixN1, ixN2, ixN3, mupd_same, mupd_mupd, dFor, iRng, List.map_cons, List.map_nil, List.length_cons, List.length_nil, List.replicate, List.cons_append, List.nil_append, List.append_nil, List.set_cons_zero, List.set_cons_succ, Nat.reduceAdd, Nat.reduceSub, Nat.sub_self, if_true, if_false, decide_eq_true_eq, Bool.false_eq_true, Bool.not_true, Bool.not_false, id_eq, ite_true, ite_false, e]
      exact q
  · exact h.elim
theorem cdv_c {a b i : Int} (h : b ≠ 0) (hb : Bd 8000 b) : CDv i (cI a b) := by
  have hg := gcd_pos (a := a) h
  have hl : Int.gcd a b ≤ b.natAbs := Nat.le_of_dvd (by omega) (Int.gcd_dvd_natAbs_right a b)
  refine cdv_small ?_ (b := 8000) ?_ (by decide)
  · unfold cI; split <;> omega
  · refine Nat.lt_of_le_of_lt ?_ hb
    unfold cI; split <;> omega
theorem body_fraction_of (h : sp_fraction_of ds M Q) : b_fraction_of sp_divisor_of { nx := fun _ M' => Q .non M', rt := Q } (dstart ["top", "bottom", "common"] ds) M := by
  unfold sp_fraction_of at h
  split at h
  · rename_i a b
    obtain ⟨h0, hb, h⟩ := h
    have c1 := cdv_c (a := a) (i := a) h0 hb
    have c2 := cdv_c (a := a) (i := b) h0 hb
    simp only [b_fraction_of, dSeq, dNext, dIf, dRet, dRetN, dDrop, dAsg, gN, gN0, gNc, gTp, gSubL, dPar, dPar3, dAug, dVar, dC, dOp, dUn, dTest, dAnd, dOr, dNot, dAndV, dOrV, dNotV, dIfE, dNil, dCons, dTup, dLst, dCB, dCall, dstart, dget, dset, dwp, dclr, asB, pI0, pI, pU, pAdd, pMul, pEqB, pIsB, pIx, pCI, pC2, pInt, pIsi, pLen, optQ, stL, lstAt, lsOf, atI0, atI1, atI2, atI3, ixN0, ixN1, ixN2, ixN3, mupd_same, mupd_mupd, dFor, iRng, List.map_cons, List.map_nil, List.length_cons, List.length_nil, List.replicate, List.cons_append, List.nil_append, List.append_nil, List.set_cons_zero, List.set_cons_succ, Nat.reduceAdd, Nat.reduceSub, Nat.sub_self, if_true, if_false, decide_eq_true_eq, Bool.false_eq_true, Bool.not_true, Bool.not_false, id_eq, ite_true, ite_false, sp_divisor_of]
    unfold cI at c1 c2
    unfold fr lowI cI at h
    by_cases hn : b < 0
    · simp only [hn, dSeq, dNext, dIf, dRet, dRetN, dDrop, dAsg, gN, gN0, gNc, gTp, gSubL, dPar, dPar3, dAug, dVar, dC, dOp, dUn, dTest, dAnd, dOr, dNot, dAndV, dOrV, dNotV, dIfE, dNil, dCons, dTup, dLst, dCB, dCall, dstart, dget, dset, dwp, dclr, asB, pI0, pI, pU, pAdd, pMul, pEqB, pIsB, pIx, pCI, pC2, pInt, pIsi, pLen, optQ, stL, lstAt, lsOf, atI0, atI1, atI2, atI3, ixN0, ixN1, ixN2, ixN3, mupd_same, mupd_mupd, dFor, iRng, List.map_cons, List.map_nil, List.length_cons, List.length_nil, List.replicate, List.cons_append, List.nil_append, List.append_nil, List.set_cons_zero, List.set_cons_succ, Nat.reduceAdd, Nat.reduceSub, Nat.sub_self, if_true, if_false, decide_eq_true_eq, Bool.false_eq_true, Bool.not_true, Bool.not_false, id_eq, ite_true, ite_false] at c1 c2 h ⊢
      exact ⟨c1, c2, by decide, h⟩
    · simp only [hn, dSeq, dNext, dIf, dRet, dRetN, dDrop, dAsg, gN, gN0, gNc, gTp, gSubL, dPar, dPar3, dAug, dVar, dC, dOp, dUn, dTest, dAnd, dOr, dNot, dAndV, dOrV, dNotV, dIfE, dNil, dCons, dTup, dLst, dCB, dCall, dstart, dget, dset, dwp, dclr, asB, pI0, pI, pU, pAdd, pMul, pEqB, pIsB, pIx, pCI, pC2, pInt, pIsi, pLen, optQ, stL, lstAt, lsOf, atI0, atI1, atI2, atI3, ixN0, ixN1, ixN2, ixN3, mupd_same, mupd_mupd, dFor, iRng, List.map_cons, List.map_nil, List.length_cons, List.length_nil, List.replicate, List.cons_append, List.nil_append, List.append_nil, List.set_cons_zero, List.set_cons_succ, Nat.reduceAdd, Nat.reduceSub, Nat.sub_self, if_true, if_false, decide_eq_true_eq, Bool.false_eq_true, Bool.not_true, Bool.not_false, id_eq, ite_true, ite_false] at c1 c2 h ⊢
      exact ⟨c1, c2, by decide, h⟩
  · exact h.elim
theorem body__law_low (h : sp_fraction_of ds M Q) : b__law_low sp_divisor_of { nx := fun _ M' => Q .non M', rt := Q } (dstart ["top", "bottom", "common"] ds) M := by
  unfold sp_fraction_of at h
  split at h
  · rename_i a b
    obtain ⟨h0, hb, h⟩ := h
    have c1 := cdv_c (a := a) (i := a) h0 hb
    have c2 := cdv_c (a := a) (i := b) h0 hb
    simp only [b__law_low, dSeq, dNext, dIf, dRet, dRetN, dDrop, dAsg, gN, gN0, gNc, gTp, gSubL, dPar, dPar3, dAug, dVar, dC, dOp, dUn, dTest, dAnd, dOr, dNot, dAndV, dOrV, dNotV, dIfE, dNil, dCons, dTup, dLst, dCB, dCall, dstart, dget, dset, dwp, dclr, asB, pI0, pI, pU, pAdd, pMul, pEqB, pIsB, pIx, pCI, pC2, pInt, pIsi, pLen, optQ, stL, lstAt, lsOf, atI0, atI1, atI2, atI3, ixN0, ixN1, ixN2, ixN3, mupd_same, mupd_mupd, dFor, iRng, List.map_cons, List.map_nil, List.length_cons, List.length_nil, List.replicate, List.cons_append, List.nil_append, List.append_nil, List.set_cons_zero, List.set_cons_succ, Nat.reduceAdd, Nat.reduceSub, Nat.sub_self, if_true, if_false, decide_eq_true_eq, Bool.false_eq_true, Bool.not_true, Bool.not_false, id_eq, ite_true, ite_false, sp_divisor_of]
    unfold cI at c1 c2
    unfold fr lowI cI at h
    by_cases hn : b < 0
    · have hp : ¬ 0 < b := by omega
      simp only [hn, hp, dSeq, dNext, dIf, dRet, dRetN, dDrop, dAsg, gN, gN0, gNc, gTp, gSubL, dPar, dPar3, dAug, dVar, dC, dOp, dUn, dTest, dAnd, dOr, dNot, dAndV, dOrV, dNotV, dIfE, dNil, dCons, dTup, dLst, dCB, dCall, dstart, dget, dset, dwp, dclr, asB, pI0, pI, pU, pAdd, pMul, pEqB, pIsB, pIx, pCI, pC2, pInt, pIsi, pLen, optQ, stL, lstAt, lsOf, atI0, atI1, atI2, atI3, ixN0, ixN1, ixN2, ixN3, mupd_same, mupd_mupd, dFor, iRng, List.map_cons, List.map_nil, List.length_cons, List.length_nil, List.replicate, List.cons_append, List.nil_append, List.append_nil, List.set_cons_zero, List.set_cons_succ, Nat.reduceAdd, Nat.reduceSub, Nat.sub_self, if_true, if_false, decide_eq_true_eq, Bool.false_eq_true, Bool.not_true, Bool.not_false, id_eq, ite_true, ite_false, Int.zero_sub] at c1 c2 h ⊢
      exact ⟨c1, c2, by decide, h⟩
    · have hp : 0 < b := by omega
      simp only [hn, hp, dSeq, dNext, dIf, dRet, dRetN, dDrop, dAsg, gN, gN0, gNc, gTp, gSubL, dPar, dPar3, dAug, dVar, dC, dOp, dUn, dTest, dAnd, dOr, dNot, dAndV, dOrV, dNotV, dIfE, dNil, dCons, dTup, dLst, dCB, dCall, dstart, dget, dset, dwp, dclr, asB, pI0, pI, pU, pAdd, pMul, pEqB, pIsB, pIx, pCI, pC2, pInt, pIsi, pLen, optQ, stL, lstAt, lsOf, atI0, atI1, atI2, atI3, ixN0, ixN1, ixN2, ixN3, mupd_same, mupd_mupd, dFor, iRng, List.map_cons, List.map_nil, List.length_cons, List.length_nil, List.replicate, List.cons_append, List.nil_append, List.append_nil, List.set_cons_zero, List.set_cons_succ, Nat.reduceAdd, Nat.reduceSub, Nat.sub_self, if_true, if_false, decide_eq_true_eq, Bool.false_eq_true, Bool.not_true, Bool.not_false, id_eq, ite_true, ite_false] at c1 c2 h ⊢
      exact ⟨c1, c2, by decide, h⟩
  · exact h.elim
theorem body_is_fraction (h : sp_is_fraction ds M Q) : b_is_fraction sp_is_integer sp_divisor_of { nx := fun _ M' => Q .non M', rt := Q } (dstart ["value"] ds) M := by
  unfold sp_is_fraction at h
  split at h
  · rename_i d
    obtain ⟨n, h⟩ := h
    cases d with
    | non => simp only [b_is_fraction, dSeq, dNext, dIf, dRet, dRetN, dDrop, dAsg, gN, gN0, gNc, gTp, gSubL, dPar, dPar3, dAug, dVar, dC, dOp, dUn, dTest, dAnd, dOr, dNot, dAndV, dOrV, dNotV, dIfE, dNil, dCons, dTup, dLst, dCB, dCall, dstart, dget, dset, dwp, dclr, asB, pI0, pI, pU, pAdd, pMul, pEqB, pIsB, pIx, pCI, pC2, pInt, pIsi, pLen, optQ, stL, lstAt, lsOf, atI0, atI1, atI2, atI3, ixN0, ixN1, ixN2, ixN3, mupd_same, mupd_mupd, dFor, iRng, List.map_cons, List.map_nil, List.length_cons, List.length_nil, List.replicate, List.cons_append, List.nil_append, List.append_nil, List.set_cons_zero, List.set_cons_succ, Nat.reduceAdd, Nat.reduceSub, Nat.sub_self, if_true, if_false, decide_eq_true_eq, Bool.false_eq_true, Bool.not_true, Bool.not_false, id_eq, ite_true, ite_false, isi_non k_tuple, in4]; exact h
    | bl b => simp only [b_is_fraction, dSeq, dNext, dIf, dRet, dRetN, dDrop, dAsg, gN, gN0, gNc, gTp, gSubL, dPar, dPar3, dAug, dVar, dC, dOp, dUn, dTest, dAnd, dOr, dNot, dAndV, dOrV, dNotV, dIfE, dNil, dCons, dTup, dLst, dCB, dCall, dstart, dget, dset, dwp, dclr, asB, pI0, pI, pU, pAdd, pMul, pEqB, pIsB, pIx, pCI, pC2, pInt, pIsi, pLen, optQ, stL, lstAt, lsOf, atI0, atI1, atI2, atI3, ixN0, ixN1, ixN2, ixN3, mupd_same, mupd_mupd, dFor, iRng, List.map_cons, List.map_nil, List.length_cons, List.length_nil, List.replicate, List.cons_append, List.nil_append, List.append_nil, List.set_cons_zero, List.set_cons_succ, Nat.reduceAdd, Nat.reduceSub, Nat.sub_self, if_true, if_false, decide_eq_true_eq, Bool.false_eq_true, Bool.not_true, Bool.not_false, id_eq, ite_true, ite_false, isi_bl k_tuple, ib4]; exact h
    | int b => simp only [b_is_fraction, dSeq, dNext, dIf, dRet, dRetN, dDrop, dAsg, gN, gN0, gNc, gTp, gSubL, dPar, dPar3, dAug, dVar, dC, dOp, dUn, dTest, dAnd, dOr, dNot, dAndV, dOrV, dNotV, dIfE, dNil, dCons, dTup, dLst, dCB, dCall, dstart, dget, dset, dwp, dclr, asB, pI0, pI, pU, pAdd, pMul, pEqB, pIsB, pIx, pCI, pC2, pInt, pIsi, pLen, optQ, stL, lstAt, lsOf, atI0, atI1, atI2, atI3, ixN0, ixN1, ixN2, ixN3, mupd_same, mupd_mupd, dFor, iRng, List.map_cons, List.map_nil, List.length_cons, List.length_nil, List.replicate, List.cons_append, List.nil_append, List.append_nil, List.set_cons_zero, List.set_cons_succ, Nat.reduceAdd, Nat.reduceSub, Nat.sub_self, if_true, if_false, decide_eq_true_eq, Bool.false_eq_true, Bool.not_true, Bool.not_false, id_eq, ite_true, ite_false, isi_int k_tuple, ii4]; exact h
    | str b => simp only [b_is_fraction, dSeq, dNext, dIf, dRet, dRetN, dDrop, dAsg, gN, gN0, gNc, gTp, gSubL, dPar, dPar3, dAug, dVar, dC, dOp, dUn, dTest, dAnd, dOr, dNot, dAndV, dOrV, dNotV, dIfE, dNil, dCons, dTup, dLst, dCB, dCall, dstart, dget, dset, dwp, dclr, asB, pI0, pI, pU, pAdd, pMul, pEqB, pIsB, pIx, pCI, pC2, pInt, pIsi, pLen, optQ, stL, lstAt, lsOf, atI0, atI1, atI2, atI3, ixN0, ixN1, ixN2, ixN3, mupd_same, mupd_mupd, dFor, iRng, List.map_cons, List.map_nil, List.length_cons, List.length_nil, List.replicate, List.cons_append, List.nil_append, List.append_nil, List.set_cons_zero, List.set_cons_succ, Nat.reduceAdd, Nat.reduceSub, Nat.sub_self, if_true, if_false, decide_eq_true_eq, Bool.false_eq_true, Bool.not_true, Bool.not_false, id_eq, ite_true, ite_false, isi_str k_tuple, is4]; exact h
    | ty a => exact n.elim
    | kl a => exact n.elim
    | ref a =>
      have e : isiD M (.ref a) "tuple" = some false := by
        rcases n with n | n
        · rw [isiD_eq n ⟨k_list, k_tuple⟩]; decide
        · rw [isiD_eq n ⟨k_dict, k_tuple⟩]; decide
      simp only [b_is_fraction, dSeq, dNext, dIf, dRet, dRetN, dDrop, dAsg, gN, gN0, gNc, gTp, gSubL, dPar, dPar3, dAug, dVar, dC, dOp, dUn, dTest, dAnd, dOr, dNot, dAndV, dOrV, dNotV, dIfE, dNil, dCons, dTup, dLst, dCB, dCall, dstart, dget, dset, dwp, dclr, asB, pI0, pI, pU, pAdd, pMul, pEqB, pIsB, pIx, pCI, pC2, pInt, pIsi, pLen, optQ, stL, lstAt, lsOf, atI0, atI1, atI2, atI3, ixN0, ixN1, ixN2, ixN3, mupd_same, mupd_mupd, dFor, iRng, List.map_cons, List.map_nil, List.length_cons, List.length_nil, List.replicate, List.cons_append, List.nil_append, List.append_nil, List.set_cons_zero, List.set_cons_succ, Nat.reduceAdd, Nat.reduceSub, Nat.sub_self, if_true, if_false, decide_eq_true_eq, Bool.false_eq_true, Bool.not_true, Bool.not_false, id_eq, ite_true, ite_false, e]; exact h
    | tup es =>
      match es, n, h with
      | [], n, h => simp only [b_is_fraction, dSeq, dNext, dIf, dRet, dRetN, dDrop, dAsg, gN, gN0, gNc, gTp, gSubL, dPar, dPar3, dAug, dVar, dC, dOp, dUn, dTest, dAnd, dOr, dNot, dAndV, dOrV, dNotV, dIfE, dNil, dCons, dTup, dLst, dCB, dCall, dstart, dget, dset, dwp, dclr, asB, pI0, pI, pU, pAdd, pMul, pEqB, pIsB, pIx, pCI, pC2, pInt, pIsi, pLen, optQ, stL, lstAt, lsOf, atI0, atI1, atI2, atI3, ixN0, ixN1, ixN2, ixN3, mupd_same, mupd_mupd, dFor, iRng, List.map_cons, List.map_nil, List.length_cons, List.length_nil, List.replicate, List.cons_append, List.nil_append, List.append_nil, List.set_cons_zero, List.set_cons_succ, Nat.reduceAdd, Nat.reduceSub, Nat.sub_self, if_true, if_false, decide_eq_true_eq, Bool.false_eq_true, Bool.not_true, Bool.not_false, id_eq, ite_true, ite_false, isi_tup k_tuple, it4]; exact h
      | [x], n, h =>
        have e : decide (((0 + 1 : Nat) : Int) = 2) = false := by decide
        have f : isFrac (.tup [x]) = false := by cases x <;> rfl
        rw [f] at h
        simp only [b_is_fraction, dSeq, dNext, dIf, dRet, dRetN, dDrop, dAsg, gN, gN0, gNc, gTp, gSubL, dPar, dPar3, dAug, dVar, dC, dOp, dUn, dTest, dAnd, dOr, dNot, dAndV, dOrV, dNotV, dIfE, dNil, dCons, dTup, dLst, dCB, dCall, dstart, dget, dset, dwp, dclr, asB, pI0, pI, pU, pAdd, pMul, pEqB, pIsB, pIx, pCI, pC2, pInt, pIsi, pLen, optQ, stL, lstAt, lsOf, atI0, atI1, atI2, atI3, ixN0, ixN1, ixN2, ixN3, mupd_same, mupd_mupd, dFor, iRng, List.map_cons, List.map_nil, List.length_cons, List.length_nil, List.replicate, List.cons_append, List.nil_append, List.append_nil, List.set_cons_zero, List.set_cons_succ, Nat.reduceAdd, Nat.reduceSub, Nat.sub_self, if_true, if_false, decide_eq_true_eq, Bool.false_eq_true, Bool.not_true, Bool.not_false, id_eq, ite_true, ite_false, isi_tup k_tuple, it4, e]; exact h
      | x :: y :: z :: r, n, h =>
        have e : decide (((r.length + 1 + 1 + 1 : Nat) : Int) = 2) = false := decide_eq_false (by omega)
        have f : isFrac (.tup (x :: y :: z :: r)) = false := by cases x <;> try rfl
                                                                cases y <;> rfl
        rw [f] at h
        simp only [b_is_fraction, dSeq, dNext, dIf, dRet, dRetN, dDrop, dAsg, gN, gN0, gNc, gTp, gSubL, dPar, dPar3, dAug, dVar, dC, dOp, dUn, dTest, dAnd, dOr, dNot, dAndV, dOrV, dNotV, dIfE, dNil, dCons, dTup, dLst, dCB, dCall, dstart, dget, dset, dwp, dclr, asB, pI0, pI, pU, pAdd, pMul, pEqB, pIsB, pIx, pCI, pC2, pInt, pIsi, pLen, optQ, stL, lstAt, lsOf, atI0, atI1, atI2, atI3, ixN0, ixN1, ixN2, ixN3, mupd_same, mupd_mupd, dFor, iRng, List.map_cons, List.map_nil, List.length_cons, List.length_nil, List.replicate, List.cons_append, List.nil_append, List.append_nil, List.set_cons_zero, List.set_cons_succ, Nat.reduceAdd, Nat.reduceSub, Nat.sub_self, if_true, if_false, decide_eq_true_eq, Bool.false_eq_true, Bool.not_true, Bool.not_false, id_eq, ite_true, ite_false, isi_tup k_tuple, it4, e]; exact h
      | [x, y], n, h =>
        have e : decide (((0 + 1 + 1 : Nat) : Int) = 2) = true := by decide
        simp only [b_is_fraction, dSeq, dNext, dIf, dRet, dRetN, dDrop, dAsg, gN, gN0, gNc, gTp, gSubL, dPar, dPar3, dAug, dVar, dC, dOp, dUn, dTest, dAnd, dOr, dNot, dAndV, dOrV, dNotV, dIfE, dNil, dCons, dTup, dLst, dCB, dCall, dstart, dget, dset, dwp, dclr, asB, pI0, pI, pU, pAdd, pMul, pEqB, pIsB, pIx, pCI, pC2, pInt, pIsi, pLen, optQ, stL, lstAt, lsOf, atI0, atI1, atI2, atI3, ixN0, ixN1, ixN2, ixN3, mupd_same, mupd_mupd, dFor, iRng, List.map_cons, List.map_nil, List.length_cons, List.length_nil, List.replicate, List.cons_append, List.nil_append, List.append_nil, List.set_cons_zero, List.set_cons_succ, Nat.reduceAdd, Nat.reduceSub, Nat.sub_self, if_true, if_false, decide_eq_true_eq, Bool.false_eq_true, Bool.not_true, Bool.not_false, id_eq, ite_true, ite_false, isi_tup k_tuple, it4, e, sp_is_integer]
        refine ⟨n.1, ?_⟩
        cases x with
        | int a =>
          simp only [isInt, dSeq, dNext, dIf, dRet, dRetN, dDrop, dAsg, gN, gN0, gNc, gTp, gSubL, dPar, dPar3, dAug, dVar, dC, dOp, dUn, dTest, dAnd, dOr, dNot, dAndV, dOrV, dNotV, dIfE, dNil, dCons, dTup, dLst, dCB, dCall, dstart, dget, dset, dwp, dclr, asB, pI0, pI, pU, pAdd, pMul, pEqB, pIsB, pIx, pCI, pC2, pInt, pIsi, pLen, optQ, stL, lstAt, lsOf, atI0, atI1, atI2, atI3, ixN0, ixN1, ixN2, ixN3, mupd_same, mupd_mupd, dFor, iRng, List.map_cons, List.map_nil, List.length_cons, List.length_nil, List.replicate, List.cons_append, List.nil_append, List.append_nil, List.set_cons_zero, List.set_cons_succ, Nat.reduceAdd, Nat.reduceSub, Nat.sub_self, if_true, if_false, decide_eq_true_eq, Bool.false_eq_true, Bool.not_true, Bool.not_false, id_eq, ite_true, ite_false]
          refine ⟨n.2, ?_⟩
          cases y with
          | int b =>
            simp only [isInt, dSeq, dNext, dIf, dRet, dRetN, dDrop, dAsg, gN, gN0, gNc, gTp, gSubL, dPar, dPar3, dAug, dVar, dC, dOp, dUn, dTest, dAnd, dOr, dNot, dAndV, dOrV, dNotV, dIfE, dNil, dCons, dTup, dLst, dCB, dCall, dstart, dget, dset, dwp, dclr, asB, pI0, pI, pU, pAdd, pMul, pEqB, pIsB, pIx, pCI, pC2, pInt, pIsi, pLen, optQ, stL, lstAt, lsOf, atI0, atI1, atI2, atI3, ixN0, ixN1, ixN2, ixN3, mupd_same, mupd_mupd, dFor, iRng, List.map_cons, List.map_nil, List.length_cons, List.length_nil, List.replicate, List.cons_append, List.nil_append, List.append_nil, List.set_cons_zero, List.set_cons_succ, Nat.reduceAdd, Nat.reduceSub, Nat.sub_self, if_true, if_false, decide_eq_true_eq, Bool.false_eq_true, Bool.not_true, Bool.not_false, id_eq, ite_true, ite_false, sp_divisor_of]
            by_cases hp : 0 < b
            · simp only [isFrac, hp, dSeq, dNext, dIf, dRet, dRetN, dDrop, dAsg, gN, gN0, gNc, gTp, gSubL, dPar, dPar3, dAug, dVar, dC, dOp, dUn, dTest, dAnd, dOr, dNot, dAndV, dOrV, dNotV, dIfE, dNil, dCons, dTup, dLst, dCB, dCall, dstart, dget, dset, dwp, dclr, asB, pI0, pI, pU, pAdd, pMul, pEqB, pIsB, pIx, pCI, pC2, pInt, pIsi, pLen, optQ, stL, lstAt, lsOf, atI0, atI1, atI2, atI3, ixN0, ixN1, ixN2, ixN3, mupd_same, mupd_mupd, dFor, iRng, List.map_cons, List.map_nil, List.length_cons, List.length_nil, List.replicate, List.cons_append, List.nil_append, List.append_nil, List.set_cons_zero, List.set_cons_succ, Nat.reduceAdd, Nat.reduceSub, Nat.sub_self, if_true, if_false, decide_eq_true_eq, Bool.false_eq_true, Bool.not_true, Bool.not_false, id_eq, ite_true, ite_false, decide_true, Bool.true_and] at h ⊢
              have e : decide (((Int.gcd a b : Nat) : Int) = 1) = decide (Int.gcd a b = 1) := by
                by_cases z : Int.gcd a b = 1
                · rw [z]; decide
                · rw [decide_eq_false z, decide_eq_false (by omega)]
              rw [e]; exact h
            · simp only [isFrac, hp, dSeq, dNext, dIf, dRet, dRetN, dDrop, dAsg, gN, gN0, gNc, gTp, gSubL, dPar, dPar3, dAug, dVar, dC, dOp, dUn, dTest, dAnd, dOr, dNot, dAndV, dOrV, dNotV, dIfE, dNil, dCons, dTup, dLst, dCB, dCall, dstart, dget, dset, dwp, dclr, asB, pI0, pI, pU, pAdd, pMul, pEqB, pIsB, pIx, pCI, pC2, pInt, pIsi, pLen, optQ, stL, lstAt, lsOf, atI0, atI1, atI2, atI3, ixN0, ixN1, ixN2, ixN3, mupd_same, mupd_mupd, dFor, iRng, List.map_cons, List.map_nil, List.length_cons, List.length_nil, List.replicate, List.cons_append, List.nil_append, List.append_nil, List.set_cons_zero, List.set_cons_succ, Nat.reduceAdd, Nat.reduceSub, Nat.sub_self, if_true, if_false, decide_eq_true_eq, Bool.false_eq_true, Bool.not_true, Bool.not_false, id_eq, ite_true, ite_false, decide_false, Bool.false_and] at h ⊢
              exact h
          | non => simp only [isInt, dSeq, dNext, dIf, dRet, dRetN, dDrop, dAsg, gN, gN0, gNc, gTp, gSubL, dPar, dPar3, dAug, dVar, dC, dOp, dUn, dTest, dAnd, dOr, dNot, dAndV, dOrV, dNotV, dIfE, dNil, dCons, dTup, dLst, dCB, dCall, dstart, dget, dset, dwp, dclr, asB, pI0, pI, pU, pAdd, pMul, pEqB, pIsB, pIx, pCI, pC2, pInt, pIsi, pLen, optQ, stL, lstAt, lsOf, atI0, atI1, atI2, atI3, ixN0, ixN1, ixN2, ixN3, mupd_same, mupd_mupd, dFor, iRng, List.map_cons, List.map_nil, List.length_cons, List.length_nil, List.replicate, List.cons_append, List.nil_append, List.append_nil, List.set_cons_zero, List.set_cons_succ, Nat.reduceAdd, Nat.reduceSub, Nat.sub_self, if_true, if_false, decide_eq_true_eq, Bool.false_eq_true, Bool.not_true, Bool.not_false, id_eq, ite_true, ite_false]; exact h
          | bl b => simp only [isInt, dSeq, dNext, dIf, dRet, dRetN, dDrop, dAsg, gN, gN0, gNc, gTp, gSubL, dPar, dPar3, dAug, dVar, dC, dOp, dUn, dTest, dAnd, dOr, dNot, dAndV, dOrV, dNotV, dIfE, dNil, dCons, dTup, dLst, dCB, dCall, dstart, dget, dset, dwp, dclr, asB, pI0, pI, pU, pAdd, pMul, pEqB, pIsB, pIx, pCI, pC2, pInt, pIsi, pLen, optQ, stL, lstAt, lsOf, atI0, atI1, atI2, atI3, ixN0, ixN1, ixN2, ixN3, mupd_same, mupd_mupd, dFor, iRng, List.map_cons, List.map_nil, List.length_cons, List.length_nil, List.replicate, List.cons_append, List.nil_append, List.append_nil, List.set_cons_zero, List.set_cons_succ, Nat.reduceAdd, Nat.reduceSub, Nat.sub_self, if_true, if_false, decide_eq_true_eq, Bool.false_eq_true, Bool.not_true, Bool.not_false, id_eq, ite_true, ite_false]; exact h
          | str b => simp only [isInt, dSeq, dNext, dIf, dRet, dRetN, dDrop, dAsg, gN, gN0, gNc, gTp, gSubL, dPar, dPar3, dAug, dVar, dC, dOp, dUn, dTest, dAnd, dOr, dNot, dAndV, dOrV, dNotV, dIfE, dNil, dCons, dTup, dLst, dCB, dCall, dstart, dget, dset, dwp, dclr, asB, pI0, pI, pU, pAdd, pMul, pEqB, pIsB, pIx, pCI, pC2, pInt, pIsi, pLen, optQ, stL, lstAt, lsOf, atI0, atI1, atI2, atI3, ixN0, ixN1, ixN2, ixN3, mupd_same, mupd_mupd, dFor, iRng, List.map_cons, List.map_nil, List.length_cons, List.length_nil, List.replicate, List.cons_append, List.nil_append, List.append_nil, List.set_cons_zero, List.set_cons_succ, Nat.reduceAdd, Nat.reduceSub, Nat.sub_self, if_true, if_false, decide_eq_true_eq, Bool.false_eq_true, Bool.not_true, Bool.not_false, id_eq, ite_true, ite_false]; exact h
          | tup b => simp only [isInt, dSeq, dNext, dIf, dRet, dRetN, dDrop, dAsg, gN, gN0, gNc, gTp, gSubL, dPar, dPar3, dAug, dVar, dC, dOp, dUn, dTest, dAnd, dOr, dNot, dAndV, dOrV, dNotV, dIfE, dNil, dCons, dTup, dLst, dCB, dCall, dstart, dget, dset, dwp, dclr, asB, pI0, pI, pU, pAdd, pMul, pEqB, pIsB, pIx, pCI, pC2, pInt, pIsi, pLen, optQ, stL, lstAt, lsOf, atI0, atI1, atI2, atI3, ixN0, ixN1, ixN2, ixN3, mupd_same, mupd_mupd, dFor, iRng, List.map_cons, List.map_nil, List.length_cons, List.length_nil, List.replicate, List.cons_append, List.nil_append, List.append_nil, List.set_cons_zero, List.set_cons_succ, Nat.reduceAdd, Nat.reduceSub, Nat.sub_self, if_true, if_false, decide_eq_true_eq, Bool.false_eq_true, Bool.not_true, Bool.not_false, id_eq, ite_true, ite_false]; exact h
          | ref a => exact n.2.elim
          | ty a => exact n.2.elim
          | kl a => exact n.2.elim
        | non => simp only [isInt, dSeq, dNext, dIf, dRet, dRetN, dDrop, dAsg, gN, gN0, gNc, gTp, gSubL, dPar, dPar3, dAug, dVar, dC, dOp, dUn, dTest, dAnd, dOr, dNot, dAndV, dOrV, dNotV, dIfE, dNil, dCons, dTup, dLst, dCB, dCall, dstart, dget, dset, dwp, dclr, asB, pI0, pI, pU, pAdd, pMul, pEqB, pIsB, pIx, pCI, pC2, pInt, pIsi, pLen, optQ, stL, lstAt, lsOf, atI0, atI1, atI2, atI3, ixN0, ixN1, ixN2, ixN3, mupd_same, mupd_mupd, dFor, iRng, List.map_cons, List.map_nil, List.length_cons, List.length_nil, List.replicate, List.cons_append, List.nil_append, List.append_nil, List.set_cons_zero, List.set_cons_succ, Nat.reduceAdd, Nat.reduceSub, Nat.sub_self, if_true, if_false, decide_eq_true_eq, Bool.false_eq_true, Bool.not_true, Bool.not_false, id_eq, ite_true, ite_false]; exact h
        | bl b => simp only [isInt, dSeq, dNext, dIf, dRet, dRetN, dDrop, dAsg, gN, gN0, gNc, gTp, gSubL, dPar, dPar3, dAug, dVar, dC, dOp, dUn, dTest, dAnd, dOr, dNot, dAndV, dOrV, dNotV, dIfE, dNil, dCons, dTup, dLst, dCB, dCall, dstart, dget, dset, dwp, dclr, asB, pI0, pI, pU, pAdd, pMul, pEqB, pIsB, pIx, pCI, pC2, pInt, pIsi, pLen, optQ, stL, lstAt, lsOf, atI0, atI1, atI2, atI3, ixN0, ixN1, ixN2, ixN3, mupd_same, mupd_mupd, dFor, iRng, List.map_cons, List.map_nil, List.length_cons, List.length_nil, List.replicate, List.cons_append, List.nil_append, List.append_nil, List.set_cons_zero, List.set_cons_succ, Nat.reduceAdd, Nat.reduceSub, Nat.sub_self, if_true, if_false, decide_eq_true_eq, Bool.false_eq_true, Bool.not_true, Bool.not_false, id_eq, ite_true, ite_false]; exact h
        | str b => simp only [isInt, dSeq, dNext, dIf, dRet, dRetN, dDrop, dAsg, gN, gN0, gNc, gTp, gSubL, dPar, dPar3, dAug, dVar, dC, dOp, dUn, dTest, dAnd, dOr, dNot, dAndV, dOrV, dNotV, dIfE, dNil, dCons, dTup, dLst, dCB, dCall, dstart, dget, dset, dwp, dclr, asB, pI0, pI, pU, pAdd, pMul, pEqB, pIsB, pIx, pCI, pC2, pInt, pIsi, pLen, optQ, stL, lstAt, lsOf, atI0, atI1, atI2, atI3, ixN0, ixN1, ixN2, ixN3, mupd_same, mupd_mupd, dFor, iRng, List.map_cons, List.map_nil, List.length_cons, List.length_nil, List.replicate, List.cons_append, List.nil_append, List.append_nil, List.set_cons_zero, List.set_cons_succ, Nat.reduceAdd, Nat.reduceSub, Nat.sub_self, if_true, if_false, decide_eq_true_eq, Bool.false_eq_true, Bool.not_true, Bool.not_false, id_eq, ite_true, ite_false]; exact h
        | tup b => simp only [isInt, dSeq, dNext, dIf, dRet, dRetN, dDrop, dAsg, gN, gN0, gNc, gTp, gSubL, dPar, dPar3, dAug, dVar, dC, dOp, dUn, dTest, dAnd, dOr, dNot, dAndV, dOrV, dNotV, dIfE, dNil, dCons, dTup, dLst, dCB, dCall, dstart, dget, dset, dwp, dclr, asB, pI0, pI, pU, pAdd, pMul, pEqB, pIsB, pIx, pCI, pC2, pInt, pIsi, pLen, optQ, stL, lstAt, lsOf, atI0, atI1, atI2, atI3, ixN0, ixN1, ixN2, ixN3, mupd_same, mupd_mupd, dFor, iRng, List.map_cons, List.map_nil, List.length_cons, List.length_nil, List.replicate, List.cons_append, List.nil_append, List.append_nil, List.set_cons_zero, List.set_cons_succ, Nat.reduceAdd, Nat.reduceSub, Nat.sub_self, if_true, if_false, decide_eq_true_eq, Bool.false_eq_true, Bool.not_true, Bool.not_false, id_eq, ite_true, ite_false]; exact h
        | ref a => exact n.1.elim
        | ty a => exact n.1.elim
        | kl a => exact n.1.elim
  · exact h.elim
end
theorem SubE.newT {a p : Addr} {M M' : Mem} {o : MO} (h : SubE a M M') (hp : M' p = none) : SubE a M (mupd M' p o) := fun x u n e => by
  have e' := h x u n e
  rw [mupd_ne (fun z => by subst z; rw [e'] at hp; cases hp)]; exact e'
theorem low_bd {a b : Int} {k : Nat} (h : b ≠ 0) (ha : Bd k a) (hb : Bd k b) : Bd k (lowI a b).1 ∧ Bd k (lowI a b).2 := by
  have l := lowI_le (a := a) h
  exact ⟨ha.le l.1, hb.le l.2⟩
theorem mul_ne {a b : Int} (ha : a ≠ 0) (hb : b ≠ 0) : a * b ≠ 0 := Int.mul_ne_zero ha hb
section
variable {ds : List D} {M : Mem} {Q : DQ}
theorem body_plus (h : sp_plus ds M Q) : b_plus sp_fraction_of { nx := fun _ M' => Q .non M', rt := Q } (dstart ["one", "other"] ds) M := by
  unfold sp_plus spF2 at h
  split at h
  · rename_i a b c d
    obtain ⟨⟨b0, d0, ha, hb, hc, hd⟩, _, h⟩ := h
    simp only [b_plus, dSeq, dNext, dIf, dRet, dRetN, dDrop, dAsg, gN, gN0, gNc, gTp, gSubL, dPar, dPar3, dAug, dVar, dC, dOp, dUn, dTest, dAnd, dOr, dNot, dAndV, dOrV, dNotV, dIfE, dNil, dCons, dTup, dLst, dCB, dCall, dstart, dget, dset, dwp, dclr, asB, pI0, pI, pU, pAdd, pMul, pEqB, pIsB, pIx, pCI, pC2, pInt, pIsi, pLen, optQ, stL, lstAt, lsOf, atI0, atI1, atI2, atI3, ixN0, ixN1, ixN2, ixN3, mupd_same, mupd_mupd, dFor, iRng, List.map_cons, List.map_nil, List.length_cons, List.length_nil, List.replicate, List.cons_append, List.nil_append, List.append_nil, List.set_cons_zero, List.set_cons_succ, Nat.reduceAdd, Nat.reduceSub, Nat.sub_self, if_true, if_false, decide_eq_true_eq, Bool.false_eq_true, Bool.not_true, Bool.not_false, id_eq, ite_true, ite_false, sp_fraction_of]
    have tail : CMulX a d ∧ CMulX c b ∧ CMulX b d ∧ b * d ≠ 0 ∧ Bd 8000 (b * d) ∧ Q (fr (lowI (a * d + c * b) (b * d))) M :=
      ⟨ha.mulx hd (by decide), hc.mulx hb (by decide), hb.mulx hd (by decide), mul_ne b0 d0, (hb.mul hd).mono (by decide), h⟩
    by_cases e1 : b = 1
    · by_cases e2 : d = 1
      · subst e1; subst e2
        simp only [dSeq, dNext, dIf, dRet, dRetN, dDrop, dAsg, gN, gN0, gNc, gTp, gSubL, dPar, dPar3, dAug, dVar, dC, dOp, dUn, dTest, dAnd, dOr, dNot, dAndV, dOrV, dNotV, dIfE, dNil, dCons, dTup, dLst, dCB, dCall, dstart, dget, dset, dwp, dclr, asB, pI0, pI, pU, pAdd, pMul, pEqB, pIsB, pIx, pCI, pC2, pInt, pIsi, pLen, optQ, stL, lstAt, lsOf, atI0, atI1, atI2, atI3, ixN0, ixN1, ixN2, ixN3, mupd_same, mupd_mupd, dFor, iRng, List.map_cons, List.map_nil, List.length_cons, List.length_nil, List.replicate, List.cons_append, List.nil_append, List.append_nil, List.set_cons_zero, List.set_cons_succ, Nat.reduceAdd, Nat.reduceSub, Nat.sub_self, if_true, if_false, decide_eq_true_eq, Bool.false_eq_true, Bool.not_true, Bool.not_false, id_eq, ite_true, ite_false, decide_true]
        refine ⟨by decide, ?_⟩
        simp only [Int.mul_one, lowI_one] at h
        exact h
      · simp only [e1, e2, dSeq, dNext, dIf, dRet, dRetN, dDrop, dAsg, gN, gN0, gNc, gTp, gSubL, dPar, dPar3, dAug, dVar, dC, dOp, dUn, dTest, dAnd, dOr, dNot, dAndV, dOrV, dNotV, dIfE, dNil, dCons, dTup, dLst, dCB, dCall, dstart, dget, dset, dwp, dclr, asB, pI0, pI, pU, pAdd, pMul, pEqB, pIsB, pIx, pCI, pC2, pInt, pIsi, pLen, optQ, stL, lstAt, lsOf, atI0, atI1, atI2, atI3, ixN0, ixN1, ixN2, ixN3, mupd_same, mupd_mupd, dFor, iRng, List.map_cons, List.map_nil, List.length_cons, List.length_nil, List.replicate, List.cons_append, List.nil_append, List.append_nil, List.set_cons_zero, List.set_cons_succ, Nat.reduceAdd, Nat.reduceSub, Nat.sub_self, if_true, if_false, decide_eq_true_eq, Bool.false_eq_true, Bool.not_true, Bool.not_false, id_eq, ite_true, ite_false] at tail ⊢
        exact tail
    · simp only [e1, dSeq, dNext, dIf, dRet, dRetN, dDrop, dAsg, gN, gN0, gNc, gTp, gSubL, dPar, dPar3, dAug, dVar, dC, dOp, dUn, dTest, dAnd, dOr, dNot, dAndV, dOrV, dNotV, dIfE, dNil, dCons, dTup, dLst, dCB, dCall, dstart, dget, dset, dwp, dclr, asB, pI0, pI, pU, pAdd, pMul, pEqB, pIsB, pIx, pCI, pC2, pInt, pIsi, pLen, optQ, stL, lstAt, lsOf, atI0, atI1, atI2, atI3, ixN0, ixN1, ixN2, ixN3, mupd_same, mupd_mupd, dFor, iRng, List.map_cons, List.map_nil, List.length_cons, List.length_nil, List.replicate, List.cons_append, List.nil_append, List.append_nil, List.set_cons_zero, List.set_cons_succ, Nat.reduceAdd, Nat.reduceSub, Nat.sub_self, if_true, if_false, decide_eq_true_eq, Bool.false_eq_true, Bool.not_true, Bool.not_false, id_eq, ite_true, ite_false] at tail ⊢
      exact tail
  · exact h.elim
theorem body_times (h : sp_times ds M Q) : b_times sp_fraction_of { nx := fun _ M' => Q .non M', rt := Q } (dstart ["one", "other"] ds) M := by
  unfold sp_times spF2 at h
  split at h
  · rename_i a b c d
    obtain ⟨⟨b0, d0, ha, hb, hc, hd⟩, _, h⟩ := h
    simp only [b_times, dSeq, dNext, dIf, dRet, dRetN, dDrop, dAsg, gN, gN0, gNc, gTp, gSubL, dPar, dPar3, dAug, dVar, dC, dOp, dUn, dTest, dAnd, dOr, dNot, dAndV, dOrV, dNotV, dIfE, dNil, dCons, dTup, dLst, dCB, dCall, dstart, dget, dset, dwp, dclr, asB, pI0, pI, pU, pAdd, pMul, pEqB, pIsB, pIx, pCI, pC2, pInt, pIsi, pLen, optQ, stL, lstAt, lsOf, atI0, atI1, atI2, atI3, ixN0, ixN1, ixN2, ixN3, mupd_same, mupd_mupd, dFor, iRng, List.map_cons, List.map_nil, List.length_cons, List.length_nil, List.replicate, List.cons_append, List.nil_append, List.append_nil, List.set_cons_zero, List.set_cons_succ, Nat.reduceAdd, Nat.reduceSub, Nat.sub_self, if_true, if_false, decide_eq_true_eq, Bool.false_eq_true, Bool.not_true, Bool.not_false, id_eq, ite_true, ite_false, sp_fraction_of]
    have tail : CMulX a c ∧ CMulX b d ∧ b * d ≠ 0 ∧ Bd 8000 (b * d) ∧ Q (fr (lowI (a * c) (b * d))) M :=
      ⟨ha.mulx hc (by decide), hb.mulx hd (by decide), mul_ne b0 d0, (hb.mul hd).mono (by decide), h⟩
    by_cases e1 : b = 1
    · by_cases e2 : d = 1
      · subst e1; subst e2
        simp only [dSeq, dNext, dIf, dRet, dRetN, dDrop, dAsg, gN, gN0, gNc, gTp, gSubL, dPar, dPar3, dAug, dVar, dC, dOp, dUn, dTest, dAnd, dOr, dNot, dAndV, dOrV, dNotV, dIfE, dNil, dCons, dTup, dLst, dCB, dCall, dstart, dget, dset, dwp, dclr, asB, pI0, pI, pU, pAdd, pMul, pEqB, pIsB, pIx, pCI, pC2, pInt, pIsi, pLen, optQ, stL, lstAt, lsOf, atI0, atI1, atI2, atI3, ixN0, ixN1, ixN2, ixN3, mupd_same, mupd_mupd, dFor, iRng, List.map_cons, List.map_nil, List.length_cons, List.length_nil, List.replicate, List.cons_append, List.nil_append, List.append_nil, List.set_cons_zero, List.set_cons_succ, Nat.reduceAdd, Nat.reduceSub, Nat.sub_self, if_true, if_false, decide_eq_true_eq, Bool.false_eq_true, Bool.not_true, Bool.not_false, id_eq, ite_true, ite_false, decide_true]
        refine ⟨tail.1, by decide, ?_⟩
        simp only [Int.mul_one, lowI_one] at h
        exact h
      · simp only [e1, e2, dSeq, dNext, dIf, dRet, dRetN, dDrop, dAsg, gN, gN0, gNc, gTp, gSubL, dPar, dPar3, dAug, dVar, dC, dOp, dUn, dTest, dAnd, dOr, dNot, dAndV, dOrV, dNotV, dIfE, dNil, dCons, dTup, dLst, dCB, dCall, dstart, dget, dset, dwp, dclr, asB, pI0, pI, pU, pAdd, pMul, pEqB, pIsB, pIx, pCI, pC2, pInt, pIsi, pLen, optQ, stL, lstAt, lsOf, atI0, atI1, atI2, atI3, ixN0, ixN1, ixN2, ixN3, mupd_same, mupd_mupd, dFor, iRng, List.map_cons, List.map_nil, List.length_cons, List.length_nil, List.replicate, List.cons_append, List.nil_append, List.append_nil, List.set_cons_zero, List.set_cons_succ, Nat.reduceAdd, Nat.reduceSub, Nat.sub_self, if_true, if_false, decide_eq_true_eq, Bool.false_eq_true, Bool.not_true, Bool.not_false, id_eq, ite_true, ite_false] at tail ⊢
        exact tail
    · simp only [e1, dSeq, dNext, dIf, dRet, dRetN, dDrop, dAsg, gN, gN0, gNc, gTp, gSubL, dPar, dPar3, dAug, dVar, dC, dOp, dUn, dTest, dAnd, dOr, dNot, dAndV, dOrV, dNotV, dIfE, dNil, dCons, dTup, dLst, dCB, dCall, dstart, dget, dset, dwp, dclr, asB, pI0, pI, pU, pAdd, pMul, pEqB, pIsB, pIx, pCI, pC2, pInt, pIsi, pLen, optQ, stL, lstAt, lsOf, atI0, atI1, atI2, atI3, ixN0, ixN1, ixN2, ixN3, mupd_same, mupd_mupd, dFor, iRng, List.map_cons, List.map_nil, List.length_cons, List.length_nil, List.replicate, List.cons_append, List.nil_append, List.append_nil, List.set_cons_zero, List.set_cons_succ, Nat.reduceAdd, Nat.reduceSub, Nat.sub_self, if_true, if_false, decide_eq_true_eq, Bool.false_eq_true, Bool.not_true, Bool.not_false, id_eq, ite_true, ite_false] at tail ⊢
      exact tail
  · exact h.elim
theorem body_minus (h : sp_minus ds M Q) : b_minus sp_plus { nx := fun _ M' => Q .non M', rt := Q } (dstart ["one", "other"] ds) M := by
  unfold sp_minus spF2 at h
  split at h
  · rename_i a b c d
    obtain ⟨⟨b0, d0, ha, hb, hc, hd⟩, _, h⟩ := h
    simp only [b_minus, dSeq, dNext, dIf, dRet, dRetN, dDrop, dAsg, gN, gN0, gNc, gTp, gSubL, dPar, dPar3, dAug, dVar, dC, dOp, dUn, dTest, dAnd, dOr, dNot, dAndV, dOrV, dNotV, dIfE, dNil, dCons, dTup, dLst, dCB, dCall, dstart, dget, dset, dwp, dclr, asB, pI0, pI, pU, pAdd, pMul, pEqB, pIsB, pIx, pCI, pC2, pInt, pIsi, pLen, optQ, stL, lstAt, lsOf, atI0, atI1, atI2, atI3, ixN0, ixN1, ixN2, ixN3, mupd_same, mupd_mupd, dFor, iRng, List.map_cons, List.map_nil, List.length_cons, List.length_nil, List.replicate, List.cons_append, List.nil_append, List.append_nil, List.set_cons_zero, List.set_cons_succ, Nat.reduceAdd, Nat.reduceSub, Nat.sub_self, if_true, if_false, decide_eq_true_eq, Bool.false_eq_true, Bool.not_true, Bool.not_false, id_eq, ite_true, ite_false, sp_plus, spF2]
    exact ⟨by decide, ⟨b0, d0, ha, hb, hc.neg, hd⟩, trivial, h⟩
  · exact h.elim
theorem body_over (h : sp_over ds M Q) : b_over sp_fraction_of { nx := fun _ M' => Q .non M', rt := Q } (dstart ["one", "other"] ds) M := by
  unfold sp_over spF2 at h
  split at h
  · rename_i a b c d
    obtain ⟨⟨b0, d0, ha, hb, hc, hd⟩, c0, h⟩ := h
    simp only [b_over, dSeq, dNext, dIf, dRet, dRetN, dDrop, dAsg, gN, gN0, gNc, gTp, gSubL, dPar, dPar3, dAug, dVar, dC, dOp, dUn, dTest, dAnd, dOr, dNot, dAndV, dOrV, dNotV, dIfE, dNil, dCons, dTup, dLst, dCB, dCall, dstart, dget, dset, dwp, dclr, asB, pI0, pI, pU, pAdd, pMul, pEqB, pIsB, pIx, pCI, pC2, pInt, pIsi, pLen, optQ, stL, lstAt, lsOf, atI0, atI1, atI2, atI3, ixN0, ixN1, ixN2, ixN3, mupd_same, mupd_mupd, dFor, iRng, List.map_cons, List.map_nil, List.length_cons, List.length_nil, List.replicate, List.cons_append, List.nil_append, List.append_nil, List.set_cons_zero, List.set_cons_succ, Nat.reduceAdd, Nat.reduceSub, Nat.sub_self, if_true, if_false, decide_eq_true_eq, Bool.false_eq_true, Bool.not_true, Bool.not_false, id_eq, ite_true, ite_false, sp_fraction_of]
    exact ⟨ha.mulx hd (by decide), hb.mulx hc (by decide), mul_ne b0 c0, (hb.mul hc).mono (by decide), h⟩
  · exact h.elim
theorem body_is_below (h : sp_is_below ds M Q) : b_is_below { nx := fun _ M' => Q .non M', rt := Q } (dstart ["one", "other"] ds) M := by
  unfold sp_is_below spF2 at h
  split at h
  · rename_i a b c d
    obtain ⟨⟨b0, d0, ha, hb, hc, hd⟩, c0, h⟩ := h
    simp only [b_is_below, dSeq, dNext, dIf, dRet, dRetN, dDrop, dAsg, gN, gN0, gNc, gTp, gSubL, dPar, dPar3, dAug, dVar, dC, dOp, dUn, dTest, dAnd, dOr, dNot, dAndV, dOrV, dNotV, dIfE, dNil, dCons, dTup, dLst, dCB, dCall, dstart, dget, dset, dwp, dclr, asB, pI0, pI, pU, pAdd, pMul, pEqB, pIsB, pIx, pCI, pC2, pInt, pIsi, pLen, optQ, stL, lstAt, lsOf, atI0, atI1, atI2, atI3, ixN0, ixN1, ixN2, ixN3, mupd_same, mupd_mupd, dFor, iRng, List.map_cons, List.map_nil, List.length_cons, List.length_nil, List.replicate, List.cons_append, List.nil_append, List.append_nil, List.set_cons_zero, List.set_cons_succ, Nat.reduceAdd, Nat.reduceSub, Nat.sub_self, if_true, if_false, decide_eq_true_eq, Bool.false_eq_true, Bool.not_true, Bool.not_false, id_eq, ite_true, ite_false]
    exact ⟨ha.mulx hd (by decide), hc.mulx hb (by decide), h⟩
  · exact h.elim
theorem body__law_plus (h : sp_plus ds M Q) : b__law_plus sp_fraction_of { nx := fun _ M' => Q .non M', rt := Q } (dstart ["one", "other"] ds) M := by
  unfold sp_plus spF2 at h
  split at h
  · rename_i a b c d
    obtain ⟨⟨b0, d0, ha, hb, hc, hd⟩, c0, h⟩ := h
    simp only [b__law_plus, dSeq, dNext, dIf, dRet, dRetN, dDrop, dAsg, gN, gN0, gNc, gTp, gSubL, dPar, dPar3, dAug, dVar, dC, dOp, dUn, dTest, dAnd, dOr, dNot, dAndV, dOrV, dNotV, dIfE, dNil, dCons, dTup, dLst, dCB, dCall, dstart, dget, dset, dwp, dclr, asB, pI0, pI, pU, pAdd, pMul, pEqB, pIsB, pIx, pCI, pC2, pInt, pIsi, pLen, optQ, stL, lstAt, lsOf, atI0, atI1, atI2, atI3, ixN0, ixN1, ixN2, ixN3, mupd_same, mupd_mupd, dFor, iRng, List.map_cons, List.map_nil, List.length_cons, List.length_nil, List.replicate, List.cons_append, List.nil_append, List.append_nil, List.set_cons_zero, List.set_cons_succ, Nat.reduceAdd, Nat.reduceSub, Nat.sub_self, if_true, if_false, decide_eq_true_eq, Bool.false_eq_true, Bool.not_true, Bool.not_false, id_eq, ite_true, ite_false, sp_fraction_of]
    exact ⟨ha.mulx hd (by decide), hc.mulx hb (by decide), hb.mulx hd (by decide), mul_ne b0 d0, (hb.mul hd).mono (by decide), h⟩
  · exact h.elim
theorem body__law_times (h : sp_times ds M Q) : b__law_times sp_fraction_of { nx := fun _ M' => Q .non M', rt := Q } (dstart ["one", "other"] ds) M := by
  unfold sp_times spF2 at h
  split at h
  · rename_i a b c d
    obtain ⟨⟨b0, d0, ha, hb, hc, hd⟩, c0, h⟩ := h
    simp only [b__law_times, dSeq, dNext, dIf, dRet, dRetN, dDrop, dAsg, gN, gN0, gNc, gTp, gSubL, dPar, dPar3, dAug, dVar, dC, dOp, dUn, dTest, dAnd, dOr, dNot, dAndV, dOrV, dNotV, dIfE, dNil, dCons, dTup, dLst, dCB, dCall, dstart, dget, dset, dwp, dclr, asB, pI0, pI, pU, pAdd, pMul, pEqB, pIsB, pIx, pCI, pC2, pInt, pIsi, pLen, optQ, stL, lstAt, lsOf, atI0, atI1, atI2, atI3, ixN0, ixN1, ixN2, ixN3, mupd_same, mupd_mupd, dFor, iRng, List.map_cons, List.map_nil, List.length_cons, List.length_nil, List.replicate, List.cons_append, List.nil_append, List.append_nil, List.set_cons_zero, List.set_cons_succ, Nat.reduceAdd, Nat.reduceSub, Nat.sub_self, if_true, if_false, decide_eq_true_eq, Bool.false_eq_true, Bool.not_true, Bool.not_false, id_eq, ite_true, ite_false, sp_fraction_of]
    exact ⟨ha.mulx hc (by decide), hb.mulx hd (by decide), mul_ne b0 d0, (hb.mul hd).mono (by decide), h⟩
  · exact h.elim
end
end QF

namespace QF
open PySem PySem.Spec PyProof.Rows L2 DL
/-! ### fractions as numbers of Rat -/
def fq (r : Rat) : D := .tup [.int r.num, .int (r.den : Nat)]
theorem rat_pair (r : Rat) : r = (r.num : Rat) / ((r.den : Int) : Rat) := by
  rw [← Rat.divInt_eq_div, Rat.num_divInt_den]
theorem fr_rat (p : Int × Int) (h : Fr p) : fr p = fq ((p.1 : Rat) / (p.2 : Rat)) := by
  have h1 := h.pos
  have h2 := h.cop
  let r : Rat := ⟨p.1, p.2.toNat, by omega, by
    show Nat.gcd p.1.natAbs p.2.toNat = 1
    have : p.2.toNat = p.2.natAbs := by omega
    rw [this]; exact h2⟩
  have e2 : ((r.den : Nat) : Int) = p.2 := by show ((p.2.toNat : Nat) : Int) = p.2; omega
  have e : r = (p.1 : Rat) / (p.2 : Rat) := by
    have := rat_pair r
    rw [e2] at this
    exact this
  rw [← e]
  unfold fr fq
  rw [e2]
theorem fq_fr (r : Rat) : Fr (r.num, (r.den : Int)) := ⟨by show (0 : Int) < r.den; have := r.den_pos; omega, by
  show Int.gcd r.num (r.den : Int) = 1
  have := r.reduced
  unfold Nat.Coprime at this
  simpa [Int.gcd] using this⟩
theorem rat_ne {b : Int} (h : b ≠ 0) : (b : Rat) ≠ 0 := fun e => h (by exact_mod_cast e)
theorem low_q {a b : Int} (h : b ≠ 0) : fr (lowI a b) = fq ((a : Rat) / (b : Rat)) := by
  rw [fr_rat _ (lowI_fr h)]
  congr 1
  obtain ⟨x, y, s, hx, hy, _, hs, e, hp⟩ := lowI_parts (a := a) h
  rw [e]
  have d0 : (s * y : Int) ≠ 0 := by omega
  have cross : a * (s * y) = (s * x) * b := by
    generalize (Int.gcd a b : Int) = g at *
    subst hx
    rw [hy]
    grind
  have c2 : (a : Rat) * ((s * y : Int) : Rat) = ((s * x : Int) : Rat) * (b : Rat) := by
    rw [← Rat.intCast_mul, ← Rat.intCast_mul, cross]
  have n1 := rat_ne h
  have n2 := rat_ne d0
  show ((s * x : Int) : Rat) / ((s * y : Int) : Rat) = _
  grind
theorem den_ne (r : Rat) : ((r.den : Int) : Rat) ≠ 0 := rat_ne (by have := r.den_pos; omega)
/-- not too long -/
def Sz (r : Rat) : Prop := Bd 3000 r.num ∧ Bd 3000 (r.den : Int)
theorem sz_p2 {r s : Rat} (hr : Sz r) (hs : Sz s) : P2 r.num (r.den : Int) s.num (s.den : Int) :=
  ⟨by have := r.den_pos; omega, by have := s.den_pos; omega, hr.1, hr.2, hs.1, hs.2⟩
def spQ2 (C : Rat → Prop) (op : Rat → Rat → Rat) : DSp := fun ds M Q => ∃ r s : Rat, ds = [fq r, fq s] ∧ Sz r ∧ Sz s ∧ C s ∧ Q (fq (op r s)) M
theorem spQ2_mono {C : Rat → Prop} {op : Rat → Rat → Rat} : MonoSp (spQ2 C op) := ⟨fun h ⟨r, s, a, b, c, d, q⟩ => ⟨r, s, a, b, c, d, h _ _ q⟩⟩
theorem spQ2_len {C : Rat → Prop} {op : Rat → Rat → Rat} (ds : List D) (M : Mem) (Q : DQ) (h : spQ2 C op ds M Q) : ds.length = 2 := by
  obtain ⟨r, s, rfl, _⟩ := h
  rfl
abbrev yesQ : Rat → Prop := fun _ => True
abbrev sq_plus : DSp := spQ2 yesQ fun r s => r + s
abbrev sq_times : DSp := spQ2 yesQ fun r s => r * s
abbrev sq_over : DSp := spQ2 (fun s => s ≠ 0) fun r s => r / s
abbrev sq_minus : DSp := spQ2 yesQ fun r s => r - s
theorem cast_mul (a b : Int) : ((a * b : Int) : Rat) = (a : Rat) * (b : Rat) := Rat.intCast_mul a b
theorem cast_add (a b : Int) : ((a + b : Int) : Rat) = (a : Rat) + (b : Rat) := Rat.intCast_add a b
theorem cast_neg (a : Int) : ((-a : Int) : Rat) = -(a : Rat) := Rat.intCast_neg a
section
variable {ds : List D} {M : Mem} {Q : DQ}
theorem q_plus (h : sq_plus ds M Q) : sp_plus ds M Q := by
  obtain ⟨r, s, rfl, hr, hs, _, q⟩ := h
  refine ⟨sz_p2 hr hs, trivial, ?_⟩
  have z := sz_p2 hr hs
  dsimp only at q ⊢
  rw [low_q (mul_ne z.1 z.2.1)]
  have e : ((r.num * (s.den : Int) + s.num * (r.den : Int) : Int) : Rat) / (((r.den : Int) * (s.den : Int) : Int) : Rat) = r + s := by
    have h1 := rat_pair r
    have h2 := rat_pair s
    have n1 := den_ne r
    have n2 := den_ne s
    rw [cast_add, cast_mul, cast_mul, cast_mul]
    conv => rhs; rw [h1, h2]
    grind
  rw [e]; exact q
theorem q_times (h : sq_times ds M Q) : sp_times ds M Q := by
  obtain ⟨r, s, rfl, hr, hs, _, q⟩ := h
  refine ⟨sz_p2 hr hs, trivial, ?_⟩
  have z := sz_p2 hr hs
  dsimp only at q ⊢
  rw [low_q (mul_ne z.1 z.2.1)]
  have e : ((r.num * s.num : Int) : Rat) / (((r.den : Int) * (s.den : Int) : Int) : Rat) = r * s := by
    have h1 := rat_pair r
    have h2 := rat_pair s
    have n1 := den_ne r
    have n2 := den_ne s
    rw [cast_mul, cast_mul]
    conv => rhs; rw [h1, h2]
    grind
  rw [e]; exact q
theorem q_minus (h : sq_minus ds M Q) : sp_minus ds M Q := by
  obtain ⟨r, s, rfl, hr, hs, _, q⟩ := h
  refine ⟨sz_p2 hr hs, trivial, ?_⟩
  have z := sz_p2 hr hs
  dsimp only at q ⊢
  rw [low_q (mul_ne z.1 z.2.1)]
  have e : ((r.num * (s.den : Int) + -s.num * (r.den : Int) : Int) : Rat) / (((r.den : Int) * (s.den : Int) : Int) : Rat) = r - s := by
    have h1 := rat_pair r
    have h2 := rat_pair s
    have n1 := den_ne r
    have n2 := den_ne s
    rw [cast_add, cast_mul, cast_mul, cast_mul, cast_neg]
    conv => rhs; rw [h1, h2]
    grind
  rw [e]; exact q
theorem num_ne {s : Rat} (h : s ≠ 0) : s.num ≠ 0 := fun e => h (Rat.num_eq_zero.mp e)
theorem q_over (h : sq_over ds M Q) : sp_over ds M Q := by
  obtain ⟨r, s, rfl, hr, hs, hn, q⟩ := h
  have z := sz_p2 hr hs
  refine ⟨z, num_ne hn, ?_⟩
  dsimp only at q ⊢
  rw [low_q (mul_ne z.1 (num_ne hn))]
  have e : ((r.num * (s.den : Int) : Int) : Rat) / (((r.den : Int) * s.num : Int) : Rat) = r / s := by
    have h1 := rat_pair r
    have h2 := rat_pair s
    have n1 := den_ne r
    have n2 := den_ne s
    have n3 := rat_ne (num_ne hn)
    rw [cast_mul, cast_mul]
    conv => rhs; rw [h1, h2]
    grind
  rw [e]; exact q
end
/-! ### how long a number is: a bottom that it has, a bound of its top -/
structure HD (D : Nat) (B : Nat) (r : Rat) : Prop where
  pos : 0 < D
  ex : ∃ n : Int, r * ((D : Int) : Rat) = n ∧ n.natAbs ≤ B
theorem HD.sz {D B : Nat} {r : Rat} (h : HD D B r) (hD : D < 2 ^ 3000) (hB : B < 2 ^ 3000) : Sz r := by
  obtain ⟨hp, n, e, hn⟩ := h
  have d0 : (D : Int) ≠ 0 := by omega
  have d1 := rat_ne d0
  have er : r = (n : Rat) / ((D : Int) : Rat) := by grind
  have l := low_q (a := n) d0
  rw [← er] at l
  unfold fr fq at l
  injection l with l
  injection l with l1 l
  injection l with l2 _
  injection l1 with l1
  injection l2 with l2
  have le := lowI_le (a := n) d0
  unfold Sz Bd
  rw [← l1, ← l2]
  exact ⟨by omega, by omega⟩
theorem HD.mono {D B C : Nat} {r : Rat} (h : HD D B r) (l : B ≤ C) : HD D C r := by
  obtain ⟨hp, n, e, hn⟩ := h
  exact ⟨hp, n, e, Nat.le_trans hn l⟩
theorem HD.add {D B C : Nat} {r s : Rat} (h : HD D B r) (k : HD D C s) : HD D (B + C) (r + s) := by
  obtain ⟨hp, n, e, hn⟩ := h
  obtain ⟨_, m, e2, hm⟩ := k
  exact ⟨hp, n + m, by rw [cast_add, ← e, ← e2]; grind, by have := Int.natAbs_add_le n m; omega⟩
theorem HD.neg {D B : Nat} {r : Rat} (h : HD D B r) : HD D B (-r) := by
  obtain ⟨hp, n, e, hn⟩ := h
  exact ⟨hp, -n, by rw [cast_neg, ← e]; grind, by rw [Int.natAbs_neg]; exact hn⟩
theorem HD.mul {D E B C : Nat} {r s : Rat} (h : HD D B r) (k : HD E C s) : HD (D * E) (B * C) (r * s) := by
  obtain ⟨hp, n, e, hn⟩ := h
  obtain ⟨hq, m, e2, hm⟩ := k
  refine ⟨Nat.mul_pos hp hq, n * m, ?_, by rw [Int.natAbs_mul]; exact Nat.mul_le_mul hn hm⟩
  rw [cast_mul, ← e, ← e2, Int.natCast_mul, cast_mul]
  grind
theorem HD.up {D B : Nat} {r : Rat} (h : HD D B r) {E : Nat} (hE : 0 < E) : HD (D * E) (B * E) r := by
  have := h.mul (show HD E E 1 from ⟨hE, E, by rw [Rat.one_mul], by omega⟩)
  rwa [Rat.mul_one] at this
theorem HD.zero {D : Nat} (hp : 0 < D) : HD D 0 0 := ⟨hp, 0, by rw [Rat.zero_mul]; rfl, by decide⟩
theorem HD.int (n : Int) : HD 1 n.natAbs (n : Rat) := ⟨by decide, n, by show (n : Rat) * ((1 : Int) : Rat) = _; rw [show ((1 : Int) : Rat) = 1 from rfl, Rat.mul_one], Nat.le_refl _⟩
theorem HD.self (r : Rat) : HD r.den r.num.natAbs r := ⟨r.den_pos, r.num, by
  have h := rat_pair r
  have n := den_ne r
  grind, Nat.le_refl _⟩
theorem fq_int (n : Int) : fq (n : Rat) = .tup [.int n, .int 1] := rfl
theorem fq_zero : fq 0 = .tup [.int 0, .int 1] := rfl
theorem fq_one : fq 1 = .tup [.int 1, .int 1] := rfl
end QF

namespace QF
open PySem PySem.Spec PyProof.Rows L2 DL
/-! ### polynomials: rows of numbers -/
def co (l : List Rat) (i : Nat) : Rat := l.getD i 0
def pq (l : List Rat) : D := .tup (l.map fq)
def cut : List Rat → List Rat
  | [] => []
  | c :: l => if c = 0 ∧ cut l = [] then [] else c :: cut l
theorem cut_nil_iff : ∀ l : List Rat, cut l = [] ↔ ∀ c ∈ l, c = 0
  | [] => by simp [cut]
  | c :: l => by
    unfold cut
    split
    · rename_i h
      simp only [true_iff, List.mem_cons]
      rintro x (rfl | hx)
      · exact h.1
      · exact (cut_nil_iff l).mp h.2 x hx
    · rename_i h
      simp only [reduceCtorEq, false_iff]
      intro k
      exact h ⟨k c (List.mem_cons_self ..), (cut_nil_iff l).mpr fun x hx => k x (List.mem_cons_of_mem _ hx)⟩
theorem cut_zero : ∀ l : List Rat, cut (l ++ [0]) = cut l
  | [] => by simp [cut]
  | c :: l => by
    rw [List.cons_append, cut, cut, cut_zero l]
theorem cut_last {c : Rat} (h : c ≠ 0) : ∀ l : List Rat, cut (l ++ [c]) = l ++ [c]
  | [] => by simp [cut, h]
  | d :: l => by
    rw [List.cons_append, cut, cut_last h l, if_neg (by simp)]
theorem co_cut : ∀ (l : List Rat) (i : Nat), co (cut l) i = co l i
  | [], i => rfl
  | c :: l, i => by
    unfold cut
    split
    · rename_i h
      have z := (cut_nil_iff (c :: l)).mp (by rw [cut, if_pos h])
      unfold co
      by_cases hi : i < (c :: l).length
      · rw [List.getD_eq_getElem?_getD, List.getD_eq_getElem?_getD, List.getElem?_eq_getElem hi]
        simp only [List.getElem?_nil, Option.getD_none, Option.getD_some]
        exact (z _ (List.getElem_mem hi)).symm
      · rw [List.getD_eq_getElem?_getD, List.getD_eq_getElem?_getD, List.getElem?_eq_none (Nat.not_lt.mp hi)]
        simp
    · cases i with
      | zero => rfl
      | succ i =>
        have := co_cut l i
        unfold co at this ⊢
        simpa using this
theorem cut_sub : ∀ (l : List Rat), ∀ c ∈ cut l, c ∈ l
  | [], c, h => h
  | d :: l, c, h => by
    unfold cut at h
    split at h
    · cases h
    · rcases List.mem_cons.mp h with rfl | h
      · exact List.mem_cons_self ..
      · exact List.mem_cons_of_mem _ (cut_sub l c h)
theorem cut_len : ∀ (l : List Rat), (cut l).length ≤ l.length
  | [] => Nat.le_refl _
  | d :: l => by
    unfold cut
    split
    · exact Nat.zero_le _
    · have := cut_len l
      simp only [List.length_cons]; omega
theorem co_lt {l : List Rat} {i : Nat} (h : i < l.length) : l[i]? = some (co l i) := by
  unfold co
  rw [List.getD_eq_getElem?_getD, List.getElem?_eq_getElem h]; rfl
theorem co_ge {l : List Rat} {i : Nat} (h : l.length ≤ i) : co l i = 0 := by
  unfold co
  rw [List.getD_eq_getElem?_getD, List.getElem?_eq_none h]; rfl
theorem co_map {n i : Nat} (f : Nat → Rat) (h : i < n) : co ((List.range n).map f) i = f i := by
  unfold co
  rw [List.getD_eq_getElem?_getD, List.getElem?_map, List.getElem?_range h]; rfl
theorem list_co (l : List Rat) : (List.range l.length).map (co l) = l := by
  apply List.ext_getElem?
  intro i
  rw [List.getElem?_map]
  by_cases h : i < l.length
  · rw [List.getElem?_range h, co_lt h]; rfl
  · rw [List.getElem?_eq_none (by simpa using h), List.getElem?_eq_none (by omega)]; rfl
theorem pow_addQ (x : Rat) (a : Nat) : ∀ b : Nat, x ^ (a + b) = x ^ a * x ^ b
  | 0 => by rw [Nat.add_zero, Rat.pow_zero, Rat.mul_one]
  | b + 1 => by rw [← Nat.add_assoc, Rat.pow_succ, Rat.pow_succ, pow_addQ x a b]; grind
/-! value at a place -/
def ev : List Rat → Rat → Rat
  | [], _ => 0
  | c :: l, x => c + x * ev l x
theorem ev_snoc (c x : Rat) : ∀ l : List Rat, ev (l ++ [c]) x = ev l x + x ^ l.length * c
  | [] => by simp [ev]; grind
  | d :: l => by
    rw [List.cons_append, ev, ev, ev_snoc c x l, List.length_cons, Rat.pow_succ]
    grind
theorem ev_zero (x : Rat) : ∀ l : List Rat, (∀ c ∈ l, c = 0) → ev l x = 0
  | [], _ => rfl
  | c :: l, h => by
    rw [ev, h c (List.mem_cons_self ..), ev_zero x l fun d hd => h d (List.mem_cons_of_mem _ hd)]
    grind
theorem ev_cut (x : Rat) : ∀ l : List Rat, ev (cut l) x = ev l x
  | [] => rfl
  | c :: l => by
    unfold cut
    split
    · rename_i h
      have z := (cut_nil_iff (c :: l)).mp (by rw [cut, if_pos h])
      rw [ev_zero x _ z]; rfl
    · rw [ev, ev, ev_cut x l]
/-- the sum of f over the first n -/
def sg (f : Nat → Rat) : Nat → Rat
  | 0 => 0
  | n + 1 => sg f n + f n
theorem ev_sg (x : Rat) (f : Nat → Rat) : ∀ n : Nat, ev ((List.range n).map f) x = sg (fun i => x ^ i * f i) n
  | 0 => rfl
  | n + 1 => by
    rw [List.range_succ, List.map_append, List.map_cons, List.map_nil, ev_snoc, ev_sg x f n, List.length_map, List.length_range]; rfl
theorem sg_congr {f g : Nat → Rat} : ∀ {n : Nat}, (∀ i, i < n → f i = g i) → sg f n = sg g n
  | 0, _ => rfl
  | n + 1, h => by rw [sg, sg, sg_congr fun i hi => h i (Nat.lt_succ_of_lt hi), h n (Nat.lt_succ_self n)]
theorem sg_add (f g : Nat → Rat) : ∀ n : Nat, sg (fun i => f i + g i) n = sg f n + sg g n
  | 0 => by simp [sg]; grind
  | n + 1 => by rw [sg, sg, sg, sg_add f g n]; grind
theorem sg_mul (c : Rat) (f : Nat → Rat) : ∀ n : Nat, sg (fun i => c * f i) n = c * sg f n
  | 0 => by simp [sg]
  | n + 1 => by rw [sg, sg, sg_mul c f n]; grind
theorem sg_zero : ∀ n : Nat, sg (fun _ => 0) n = 0
  | 0 => rfl
  | n + 1 => by rw [sg, sg_zero n, Rat.add_zero]
theorem sg_swap (f : Nat → Nat → Rat) : ∀ n m : Nat, sg (fun i => sg (fun j => f i j) m) n = sg (fun j => sg (fun i => f i j) n) m
  | 0, m => by rw [sg]; exact (sg_zero m).symm
  | n + 1, m => by
    rw [sg, sg_swap f n m, ← sg_add]; rfl
theorem sg_le {f : Nat → Rat} : ∀ {n m : Nat}, n ≤ m → (∀ i, n ≤ i → i < m → f i = 0) → sg f m = sg f n
  | n, 0, h, _ => by rw [Nat.le_zero.mp h]
  | n, m + 1, h, k => by
    by_cases e : n = m + 1
    · rw [e]
    · rw [sg, sg_le (n := n) (m := m) (by omega) fun i a b => k i a (by omega), k m (by omega) (by omega)]; grind
/-- f moved up by a -/
theorem sg_shift (f : Nat → Rat) (a : Nat) : ∀ n : Nat, sg (fun k => if a ≤ k then f (k - a) else 0) (a + n) = sg f n
  | 0 => by
    rw [Nat.add_zero, sg_congr (g := fun _ => 0) fun i hi => if_neg (by omega), sg_zero]; rfl
  | n + 1 => by
    rw [← Nat.add_assoc, sg, sg_shift f a n, sg, if_pos (by omega), show a + n - a = n by omega]
/-! products -/
def cv (a b : List Rat) (i k : Nat) : Rat := sg (fun j => if j ≤ k then co a j * co b (k - j) else 0) i
def mulL (a b : List Rat) : List Rat := if a = [] ∨ b = [] then [] else (List.range (a.length + b.length - 1)).map (cv a b a.length)
theorem ev_co (l : List Rat) (x : Rat) : ev l x = sg (fun i => x ^ i * co l i) l.length := by
  conv => lhs; rw [← list_co l]
  exact ev_sg x (co l) l.length
theorem ev_mul (a b : List Rat) (x : Rat) : ev (mulL a b) x = ev a x * ev b x := by
  unfold mulL
  by_cases h : a = [] ∨ b = []
  · rw [if_pos h]
    rcases h with rfl | rfl
    · simp [ev]
    · simp [ev]
  · rw [if_neg h, ev_sg, ev_co a, ev_co b]
    have la : 0 < a.length := by
      cases a with
      | nil => exact absurd (.inl rfl) h
      | cons => simp
    have lb : 0 < b.length := by
      cases b with
      | nil => exact absurd (.inr rfl) h
      | cons => simp
    have e1 : sg (fun k => x ^ k * cv a b a.length k) (a.length + b.length - 1) = sg (fun k => sg (fun j => if j ≤ k then (x ^ j * co a j) * (x ^ (k - j) * co b (k - j)) else 0) a.length) (a.length + b.length - 1) := by
      apply sg_congr
      intro k _
      unfold cv
      rw [← sg_mul]
      apply sg_congr
      intro j _
      split
      · rename_i hj
        have : x ^ k = x ^ j * x ^ (k - j) := by rw [← pow_addQ]; congr 1; omega
        rw [this]; grind
      · grind
    rw [e1, sg_swap]
    have e2 : sg (fun j => sg (fun k => if j ≤ k then (x ^ j * co a j) * (x ^ (k - j) * co b (k - j)) else 0) (a.length + b.length - 1)) a.length = sg (fun j => (x ^ j * co a j) * sg (fun i => x ^ i * co b i) b.length) a.length := by
      apply sg_congr
      intro j hj
      rw [← sg_mul, ← sg_shift (fun i => (x ^ j * co a j) * (x ^ i * co b i)) j b.length]
      symm
      by_cases c : j + b.length ≤ a.length + b.length - 1
      · symm
        apply sg_le c
        intro k h1 h2
        rw [if_pos (by omega), co_ge (show b.length ≤ k - j by omega)]
        grind
      · exact absurd (show j + b.length ≤ a.length + b.length - 1 by omega) c
    rw [e2]
    have e3 : sg (fun j => (x ^ j * co a j) * sg (fun i => x ^ i * co b i) b.length) a.length = sg (fun i => x ^ i * co b i) b.length * sg (fun j => x ^ j * co a j) a.length := by
      rw [← sg_mul]
      apply sg_congr
      intro i _
      grind
    rw [e3]; grind
end QF

namespace QF
open PySem PySem.Spec PyProof.Rows L2 DL
/-! ### how long the numbers of a polynomial are -/
def PB (D B : Nat) (l : List Rat) : Prop := ∀ c ∈ l, HD D B c
theorem HD.cast {D E B C : Nat} {r : Rat} (h : HD D B r) (e : D = E) (l : B ≤ C) : HD E C r := by
  subst e; exact h.mono l
theorem ev_hd {D B q m K : Nat} {x : Rat} (hD : 0 < D) (hx : HD q m x) (hq : q ≤ K) (hm : m ≤ K) : ∀ l : List Rat, PB D B l → HD (D * q ^ l.length) (l.length * (B * K ^ l.length)) (ev l x)
  | [], _ => by
    have := HD.zero hD
    simpa [ev] using this
  | c :: l, h => by
    have i := ev_hd hD hx hq hm l fun d hd => h d (List.mem_cons_of_mem _ hd)
    have hc := (h c (List.mem_cons_self ..)).up (E := q ^ (l.length + 1)) (Nat.pow_pos hx.pos)
    have hxe := hx.mul i
    have s := HD.add hc (HD.cast (C := l.length * (B * K ^ (l.length + 1))) hxe (by rw [Nat.pow_succ]; ac_rfl) (by
      calc m * (l.length * (B * K ^ l.length)) ≤ K * (l.length * (B * K ^ l.length)) := Nat.mul_le_mul_right _ hm
        _ = l.length * (B * K ^ (l.length + 1)) := by rw [Nat.pow_succ]; ac_rfl))
    rw [ev, List.length_cons]
    refine s.mono ?_
    have p : q ^ (l.length + 1) ≤ K ^ (l.length + 1) := Nat.pow_le_pow_left hq _
    have p2 : B * q ^ (l.length + 1) ≤ B * K ^ (l.length + 1) := Nat.mul_le_mul_left _ p
    rw [Nat.add_mul, Nat.one_mul]
    omega
theorem hd_pow {q m : Nat} {x : Rat} (hx : HD q m x) : ∀ k : Nat, HD (q ^ k) (m ^ k) (x ^ k)
  | 0 => by
    rw [Rat.pow_zero]
    exact ⟨by simp, 1, by simp, by simp⟩
  | k + 1 => by
    rw [Rat.pow_succ, Nat.pow_succ, Nat.pow_succ]
    exact (hd_pow hx k).mul hx
structure PZ (l : List Rat) : Prop where
  ex : ∃ D B : Nat, 0 < D ∧ D ≤ 2 ^ 1700 ∧ B ≤ 2 ^ 1800 ∧ PB D B l
  len : l.length ≤ 46
structure OZ (l : List Rat) : Prop where
  ex : ∃ D B : Nat, 0 < D ∧ D ≤ 2 ^ 1600 ∧ B ≤ 2 ^ 1650 ∧ PB D B l
  len : l.length ≤ 40
structure LZ (l : List Rat) : Prop where
  ex : ∃ D B : Nat, 0 < D ∧ D ≤ 2 ^ 60 ∧ B ≤ 2 ^ 100 ∧ PB D B l
  len : l.length ≤ 6
def XZ (x : Rat) : Prop := ∃ q m : Nat, HD q m x ∧ q ≤ 9 ∧ m ≤ 9
theorem OZ.p {l : List Rat} (h : OZ l) : PZ l := by
  obtain ⟨⟨D, B, a, b, c, d⟩, e⟩ := h
  exact ⟨⟨D, B, a, Nat.le_trans b (Nat.pow_le_pow_right (by decide) (by decide)), Nat.le_trans c (Nat.pow_le_pow_right (by decide) (by decide)), d⟩, by omega⟩
theorem LZ.o {l : List Rat} (h : LZ l) : OZ l := by
  obtain ⟨⟨D, B, a, b, c, d⟩, e⟩ := h
  exact ⟨⟨D, B, a, Nat.le_trans b (Nat.pow_le_pow_right (by decide) (by decide)), Nat.le_trans c (Nat.pow_le_pow_right (by decide) (by decide)), d⟩, by omega⟩
theorem PZ.sub {l k : List Rat} (h : PZ l) (s : ∀ c ∈ k, c ∈ l) (n : k.length ≤ l.length) : PZ k := by
  obtain ⟨⟨D, B, a, b, c, d⟩, e⟩ := h
  exact ⟨⟨D, B, a, b, c, fun x hx => d x (s x hx)⟩, by omega⟩
theorem OZ.sub {l k : List Rat} (h : OZ l) (s : ∀ c ∈ k, c ∈ l) (n : k.length ≤ l.length) : OZ k := by
  obtain ⟨⟨D, B, a, b, c, d⟩, e⟩ := h
  exact ⟨⟨D, B, a, b, c, fun x hx => d x (s x hx)⟩, by omega⟩
theorem LZ.sub {l k : List Rat} (h : LZ l) (s : ∀ c ∈ k, c ∈ l) (n : k.length ≤ l.length) : LZ k := by
  obtain ⟨⟨D, B, a, b, c, d⟩, e⟩ := h
  exact ⟨⟨D, B, a, b, c, fun x hx => d x (s x hx)⟩, by omega⟩
theorem PZ.sz {l : List Rat} (h : PZ l) : ∀ c ∈ l, Sz c := by
  obtain ⟨⟨D, B, a, b, c, d⟩, e⟩ := h
  exact fun x hx => (d x hx).sz (Nat.lt_of_le_of_lt b (Nat.pow_lt_pow_right (by decide) (by decide))) (Nat.lt_of_le_of_lt c (Nat.pow_lt_pow_right (by decide) (by decide)))
theorem XZ.sz {x : Rat} (h : XZ x) : Sz x := by
  obtain ⟨q, m, hx, hq, hm⟩ := h
  exact hx.sz (Nat.lt_of_le_of_lt hq (Nat.lt_of_lt_of_le (by decide : 9 < 2 ^ 4) (Nat.pow_le_pow_right (by decide) (by decide)))) (Nat.lt_of_le_of_lt hm (Nat.lt_of_lt_of_le (by decide : 9 < 2 ^ 4) (Nat.pow_le_pow_right (by decide) (by decide))))
theorem p9 {q n : Nat} (h : q ≤ 9) (hn : n ≤ 47) : q ^ n ≤ 2 ^ 150 :=
  Nat.le_trans (Nat.pow_le_pow_left h n) (Nat.le_trans (Nat.pow_le_pow_right (by decide) hn) (by decide))
theorem lt3000 {a : Nat} {k : Nat} (h : a ≤ 2 ^ k) (hk : k < 3000) : a < 2 ^ 3000 := Nat.lt_of_le_of_lt h (Nat.pow_lt_pow_right (by decide) hk)
theorem mul_pow2 {a b j k : Nat} (h : a ≤ 2 ^ j) (h2 : b ≤ 2 ^ k) : a * b ≤ 2 ^ (j + k) := by
  rw [Nat.pow_add]; exact Nat.mul_le_mul h h2
theorem ev_sz {l : List Rat} {x : Rat} (h : PZ l) (hx : XZ x) : Sz (ev l x) ∧ Sz (ev l x * x) := by
  obtain ⟨⟨D, B, a, b, c, d⟩, e⟩ := h
  obtain ⟨q, m, hx, hq, hm⟩ := hx
  have z := ev_hd a hx hq hm l d
  have n6 : l.length ≤ 2 ^ 6 := by omega
  have b1 : D * q ^ l.length ≤ 2 ^ 1850 := mul_pow2 b (p9 hq (by omega))
  have b2 : l.length * (B * 9 ^ l.length) ≤ 2 ^ 1956 := mul_pow2 n6 (mul_pow2 c (p9 (Nat.le_refl 9) (by omega)))
  refine ⟨z.sz (lt3000 b1 (by decide)) (lt3000 b2 (by decide)), ?_⟩
  have z2 := z.mul hx
  have q4 : q ≤ 2 ^ 4 := by omega
  have m4 : m ≤ 2 ^ 4 := by omega
  exact z2.sz (lt3000 (mul_pow2 b1 q4) (by decide)) (lt3000 (mul_pow2 b2 m4) (by decide))
theorem pow_sz {x : Rat} (hx : XZ x) {k : Nat} (hk : k ≤ 46) : Sz (x ^ k) := by
  obtain ⟨q, m, hx, hq, hm⟩ := hx
  exact (hd_pow hx k).sz (lt3000 (p9 hq (by omega)) (by decide)) (lt3000 (p9 hm (by omega)) (by decide))
theorem item_sz {l : List Rat} {x c : Rat} (h : PZ l) (hx : XZ x) (hc : c ∈ l) {k : Nat} (hk : k ≤ 46) : Sz (c * x ^ k) := by
  obtain ⟨⟨D, B, a, b, cc, d⟩, e⟩ := h
  obtain ⟨q, m, hx, hq, hm⟩ := hx
  exact ((d c hc).mul (hd_pow hx k)).sz (lt3000 (mul_pow2 b (p9 hq (by omega))) (by decide)) (lt3000 (mul_pow2 cc (p9 hm (by omega))) (by decide))
/-! sums over 1, 2, .. -/
def fc : Nat → Nat
  | 0 => 1
  | n + 1 => fc n * (n + 1)
theorem fc_pos : ∀ n, 0 < fc n
  | 0 => by decide
  | n + 1 => Nat.mul_pos (fc_pos n) (Nat.succ_pos n)
theorem fc_le : ∀ {n m : Nat}, n ≤ m → fc n ≤ fc m
  | n, 0, h => by rw [Nat.le_zero.mp h]; exact Nat.le_refl _
  | n, m + 1, h => by
    by_cases e : n = m + 1
    · rw [e]; exact Nat.le_refl _
    · exact Nat.le_trans (fc_le (n := n) (m := m) (by omega)) (Nat.le_mul_of_pos_right _ (Nat.succ_pos m))
def smP (l : List Rat) (n : Nat) : Rat := sg (fun i => co l i / ((i : Int) + 1 : Int)) n
theorem hd_inv (n : Nat) : HD (n + 1) 1 (1 / (((n : Int) + 1 : Int) : Rat)) := ⟨Nat.succ_pos n, 1, by
  have : (((n : Int) + 1 : Int) : Rat) ≠ 0 := rat_ne (by omega)
  rw [show (((n + 1 : Nat) : Int)) = (n : Int) + 1 from rfl]
  show 1 / (((n : Int) + 1 : Int) : Rat) * (((n : Int) + 1 : Int) : Rat) = ((1 : Int) : Rat)
  rw [show ((1 : Int) : Rat) = 1 from rfl]
  grind, by decide⟩
theorem co_hd {D B : Nat} {l : List Rat} (hD : 0 < D) (h : PB D B l) (i : Nat) : HD D B (co l i) := by
  by_cases hi : i < l.length
  · have e := co_lt hi
    exact h _ (List.mem_of_getElem? e)
  · rw [co_ge (by omega)]
    exact (HD.zero hD).mono (Nat.zero_le _)
theorem smP_hd {D B : Nat} {l : List Rat} (hD : 0 < D) (h : PB D B l) : ∀ n : Nat, HD (D * fc n) (n * (B * fc n)) (smP l n)
  | 0 => by
    have := HD.zero hD
    simpa [smP, sg, fc] using this
  | n + 1 => by
    have i := (smP_hd hD h n).up (E := n + 1) (Nat.succ_pos n)
    have c := ((co_hd hD h n).mul (hd_inv n)).up (fc_pos n)
    have e : co l n * (1 / (((n : Int) + 1 : Int) : Rat)) = co l n / (((n : Int) + 1 : Int) : Rat) := by
      rw [Rat.div_def, Rat.div_def, Rat.one_mul]
    rw [e] at c
    have s := HD.add (HD.cast (C := n * (B * fc (n + 1))) i (by rw [fc]; ac_rfl) (by rw [fc]; exact Nat.le_of_eq (by ac_rfl))) (HD.cast (E := D * fc (n + 1)) (C := B * fc (n + 1)) c (by rw [fc]; ac_rfl) (by
      rw [fc, Nat.mul_one]
      exact Nat.mul_le_mul_left _ (Nat.le_mul_of_pos_right _ (Nat.succ_pos n))))
    unfold smP at s ⊢
    rw [sg]
    refine s.mono ?_
    rw [Nat.add_mul, Nat.one_mul]
    exact Nat.le_refl _
theorem fc46 {n : Nat} (h : n ≤ 46) : fc n ≤ 2 ^ 200 := Nat.le_trans (fc_le h) (by decide)
theorem smP_sz {l : List Rat} (h : PZ l) {n : Nat} (hn : n ≤ 46) : Sz (smP l n) := by
  obtain ⟨⟨D, B, a, b, c, d⟩, e⟩ := h
  have n6 : n ≤ 2 ^ 6 := by omega
  exact (smP_hd a d n).sz (lt3000 (mul_pow2 b (fc46 hn)) (by decide)) (lt3000 (mul_pow2 n6 (mul_pow2 c (fc46 hn))) (by decide))
theorem div_sz {l : List Rat} (h : PZ l) {c : Rat} (hc : c ∈ l) {n : Nat} (hn : n ≤ 46) : Sz (c / (((n : Int) + 1 : Int) : Rat)) := by
  obtain ⟨⟨D, B, a, b, cc, d⟩, e⟩ := h
  have z := (d c hc).mul (hd_inv n)
  have ee : c * (1 / (((n : Int) + 1 : Int) : Rat)) = c / (((n : Int) + 1 : Int) : Rat) := by
    rw [Rat.div_def, Rat.div_def, Rat.one_mul]
  rw [ee] at z
  have n6 : n + 1 ≤ 2 ^ 6 := by omega
  exact z.sz (lt3000 (mul_pow2 b n6) (by decide)) (lt3000 (mul_pow2 cc (show 1 ≤ 2 ^ 0 by decide)) (by decide))
/-! products -/
theorem cv_hd {D B E C : Nat} {a b : List Rat} (hD : 0 < D) (hE : 0 < E) (ha : PB D B a) (hb : PB E C b) (k : Nat) : ∀ i : Nat, HD (D * E) (i * (B * C)) (cv a b i k)
  | 0 => by
    have := HD.zero (Nat.mul_pos hD hE)
    simpa [cv, sg] using this
  | i + 1 => by
    have ih := cv_hd hD hE ha hb k i
    unfold cv at ih ⊢
    rw [sg, Nat.add_mul, Nat.one_mul]
    refine ih.add ?_
    split
    · exact (co_hd hD ha i).mul (co_hd hE hb _)
    · exact (HD.zero (Nat.mul_pos hD hE)).mono (Nat.zero_le _)
theorem mulL_pz {a b : List Rat} (ha : OZ a) (hb : LZ b) : PZ (mulL a b) := by
  obtain ⟨⟨D, B, d0, d1, b1, pa⟩, la⟩ := ha
  obtain ⟨⟨E, C, e0, e1, c1, pb⟩, lb⟩ := hb
  refine ⟨⟨D * E, a.length * (B * C), Nat.mul_pos d0 e0, Nat.le_trans (mul_pow2 d1 e1) (Nat.pow_le_pow_right (by decide) (by decide)), Nat.le_trans (mul_pow2 (show a.length ≤ 2 ^ 6 by omega) (mul_pow2 b1 c1)) (Nat.pow_le_pow_right (by decide) (by decide)), ?_⟩, ?_⟩
  · intro c hc
    unfold mulL at hc
    split at hc
    · cases hc
    · obtain ⟨k, _, rfl⟩ := List.mem_map.mp hc
      exact cv_hd d0 e0 pa pb k _
  · unfold mulL
    split
    · simp
    · simp; omega
theorem prod_sz {a b : List Rat} (ha : OZ a) (hb : LZ b) (i j k : Nat) (hi : i ≤ 46) : Sz (cv a b i k) ∧ Sz (co a i * co b j) := by
  obtain ⟨⟨D, B, d0, d1, b1, pa⟩, la⟩ := ha
  obtain ⟨⟨E, C, e0, e1, c1, pb⟩, lb⟩ := hb
  refine ⟨(cv_hd d0 e0 pa pb k i).sz (lt3000 (mul_pow2 d1 e1) (by decide)) (lt3000 (mul_pow2 (show i ≤ 2 ^ 6 by omega) (mul_pow2 b1 c1)) (by decide)), ?_⟩
  exact ((co_hd d0 pa i).mul (co_hd e0 pb j)).sz (lt3000 (mul_pow2 d1 e1) (by decide)) (lt3000 (mul_pow2 b1 c1) (by decide))
/-- what has a bottom in common -/
theorem HD.den {D B : Nat} {r : Rat} (h : HD D B r) : (r.den : Int) ∣ (D : Int) ∧ ∀ b : Int, (r.den : Int) ∣ b → b ∣ (D : Int) → ∃ n : Int, r.num * (b / (r.den : Int)) = n ∧ r * (b : Rat) = n ∧ n.natAbs ≤ B := by
  obtain ⟨hp, n, e, hn⟩ := h
  have d0 : (D : Int) ≠ 0 := by omega
  have d1 := rat_ne d0
  have er : r = (n : Rat) / ((D : Int) : Rat) := by grind
  have l := low_q (a := n) d0
  rw [← er] at l
  obtain ⟨x, y, s, hx, hy, hc, hs, el, hp2⟩ := lowI_parts (a := n) d0
  rw [el] at l
  unfold fr fq at l
  injection l with l
  injection l with l1 l
  injection l with l2 _
  injection l1 with l1
  injection l2 with l2
  simp only at l1 l2
  have dv : (r.den : Int) ∣ (D : Int) := by
    rw [← l2, hy]
    rcases hs with rfl | rfl
    · exact ⟨Int.gcd n D, by rw [Int.one_mul, Int.mul_comm]⟩
    · exact ⟨-(Int.gcd n D : Int), by grind⟩
  refine ⟨dv, fun b hb hbD => ⟨_, rfl, ?_, ?_⟩⟩
  · obtain ⟨t, rfl⟩ := hb
    have dn : (r.den : Int) ≠ 0 := by have := r.den_pos; omega
    rw [Int.mul_ediv_cancel_left _ dn, cast_mul, cast_mul]
    have h1 := rat_pair r
    have n1 := den_ne r
    conv => lhs; rw [h1]
    grind
  · obtain ⟨t, rfl⟩ := hb
    have dn : (r.den : Int) ≠ 0 := by have := r.den_pos; omega
    rw [Int.mul_ediv_cancel_left _ dn]
    obtain ⟨u, hu⟩ := hbD
    have key : n = r.num * t * u := by
      have : (n : Rat) = ((r.num * t * u : Int) : Rat) := by
        rw [← e, hu, cast_mul, cast_mul, cast_mul, cast_mul]
        have h1 := rat_pair r
        have n1 := den_ne r
        conv => lhs; rw [h1]
        grind
      exact_mod_cast this
    have u0 : u ≠ 0 := fun z => by rw [z, Int.mul_zero] at hu; omega
    rw [key, Int.natAbs_mul] at hn
    exact Nat.le_trans (Nat.le_mul_of_pos_right _ (by omega)) hn
end QF

namespace K15
open PySem PySem.Spec PyProof.Rows L2 DL
def topS (i : Nat) : Stmt := PySem.Challenge.pw_slopesumskept_k15_polynomials_along_the.main.body.getD i (.Pass ⟨0, 0, 0, 0⟩)
/-! ### is_integer(value): 0 value -/
abbrev s_is_integer : Stmt := topS 1
theorem sc_is_integer : FnScope ["value"] ["value"] (defScope s_is_integer) := ⟨rfl, rfl, rfl, by decide +kernel, rfl, by decide +kernel, by decide +kernel⟩
def b_is_integer : DTS :=
    (dRet (dAndV (dCB pIsi (dCons (dVar 0) (dCons (dC (.ty "int")) dNil))) (dNotV (dCB pIsi (dCons (dVar 0) (dCons (dC (.ty "bool")) dNil))))))
theorem d_is_integer {P : Program} {w : World} {K : PySem.W.Frag} {mg : Str → Option Value} {base : Heap} {f : Addr} {cdv : Value} {A : Around} {outer : List Env} {s : Shared} {H : Hp} {E : XK} (n_isinstance : mg "isinstance" = none) (n_int : mg "int" = none) (n_bool : mg "bool" = none) :
    DSs (cxOf CX0 P w K mg base ["value"] "is_integer" (defScope s_is_integer) f cdv A outer s H E).nox (defBody s_is_integer) (b_is_integer) :=
    (dss_one (ds_ret (de_and (de_callB cr_isi cd_isi (by rfl) n_isinstance (by decide +kernel) (da_cons (dv 0) (da_cons (de_bltn (n := "int") (by rfl) n_int (by decide +kernel)) da_nil))) (de_one (de_not (de_callB cr_isi cd_isi (by rfl) n_isinstance (by decide +kernel) (da_cons (dv 0) (da_cons (de_bltn (n := "bool") (by rfl) n_bool (by decide +kernel)) da_nil))))))))
/-! ### divisor_of(one, other): 0 one 1 other -/
abbrev s_divisor_of : Stmt := topS 4
theorem sc_divisor_of : FnScope ["one", "other"] ["one", "other"] (defScope s_divisor_of) := ⟨rfl, rfl, rfl, by decide +kernel, rfl, by decide +kernel, by decide +kernel⟩
def b_divisor_of : DTS :=
    (dSeq (dPar 0 1 (dCons (dCB pAbs (dCons (dVar 0) dNil)) (dCons (dCB pAbs (dCons (dVar 1) dNil)) dNil)))
    (dSeq (dWhile (dTest (dOp pGt (dVar 1) (dC (.int 0)))) (dPar 0 1 (dCons (dVar 1) (dCons (dOp pMod (dVar 0) (dVar 1)) dNil))))
    (dRet (dVar 0))))
theorem d_divisor_of {P : Program} {w : World} {K : PySem.W.Frag} {mg : Str → Option Value} {base : Heap} {f : Addr} {cdv : Value} {A : Around} {outer : List Env} {s : Shared} {H : Hp} {E : XK} (n_abs : mg "abs" = none) :
    DSs (cxOf CX0 P w K mg base ["one", "other"] "divisor_of" (defScope s_divisor_of) f cdv A outer s H E).nox (defBody s_divisor_of) (b_divisor_of) :=
    (dss_cons (ds_par (i := 0) (j := 1) rfl sc_divisor_of.nd rfl rfl (by decide) rfl rfl (da_cons (de_callB call_abs cd_abs (by rfl) n_abs (by decide +kernel) (da_cons (dv 0) da_nil)) (da_cons (de_callB call_abs cd_abs (by rfl) n_abs (by decide +kernel) (da_cons (dv 1) da_nil)) da_nil)) (by rfl))
    (dss_cons (ds_while PassesOwn.never (dt_cmp op_gt opd_gt (dv 1) de_int (nomark _)) (dss_one (ds_par (i := 0) (j := 1) rfl sc_divisor_of.nd rfl rfl (by decide) rfl rfl (da_cons (dv 1) (da_cons (de_op op_modN opd_mod (dv 0) (dv 1)) da_nil)) (by rfl))))
    (dss_one (ds_ret (dv 0)))))
/-! ### is_fraction(value): 0 value -/
abbrev s_is_fraction : Stmt := topS 5
theorem sc_is_fraction : FnScope ["value"] ["value"] (defScope s_is_fraction) := ⟨rfl, rfl, rfl, by decide +kernel, rfl, by decide +kernel, by decide +kernel⟩
def b_is_fraction (sp_is_integer : DSp) (sp_divisor_of : DSp) : DTS :=
    (dSeq (dIf (dOr (dNot (dTest (dCB pIsi (dCons (dVar 0) (dCons (dC (.ty "tuple")) dNil))))) (dOr (dTest (dOp pNe (dCB pLen (dCons (dVar 0) dNil)) (dC (.int 2)))) (dOr (dNot (dTest (dCall sp_is_integer [] (dCons (dOp pIx (dVar 0) (dC (.int 0))) dNil)))) (dNot (dTest (dCall sp_is_integer [] (dCons (dOp pIx (dVar 0) (dC (.int 1))) dNil))))))) (dRet (dC (.bl false))) dNext)
    (dRet (dAndV (dOp pGt (dOp pIx (dVar 0) (dC (.int 1))) (dC (.int 0))) (dOp pEq (dCall sp_divisor_of [] (dCons (dOp pIx (dVar 0) (dC (.int 0))) (dCons (dOp pIx (dVar 0) (dC (.int 1))) dNil))) (dC (.int 1))))))
theorem d_is_fraction {P : Program} {w : World} {K : PySem.W.Frag} {mg : Str → Option Value} {base : Heap} {f : Addr} {cdv : Value} {A : Around} {outer : List Env} {s : Shared} {H : Hp} {E : XK} {sp_is_integer : DSp} {sp_divisor_of : DSp} (c_is_integer_1 : Can P w K mg base (A.deeper (envOfC "is_fraction" (defScope s_is_fraction) s.heap.objs.size f cdv)) "is_integer" [] sp_is_integer) (c_divisor_of_2 : Can P w K mg base (A.deeper (envOfC "is_fraction" (defScope s_is_fraction) s.heap.objs.size f cdv)) "divisor_of" [] sp_divisor_of) (n_isinstance : mg "isinstance" = none) (n_tuple : mg "tuple" = none) (n_len : mg "len" = none) (hu : (A.deeper (envOfC "is_fraction" (defScope s_is_fraction) s.heap.objs.size f cdv)).units + 64 < cLine) :
    DSs (cxOf CX0 P w K mg base ["value"] "is_fraction" (defScope s_is_fraction) f cdv A outer s H E).nox (defBody s_is_fraction) (b_is_fraction sp_is_integer sp_divisor_of) :=
    (dss_cons (ds_if (DW.dt (dw_or (dt_not (dt_val (de_callB cr_isi cd_isi (by rfl) n_isinstance (by decide +kernel) (da_cons (dv 0) (da_cons (de_bltn (n := "tuple") (by rfl) n_tuple (by decide +kernel)) da_nil))))) (dw_or (dt_cmp (op_neAll hu) opd_ne (de_callB cr_len cd_len (by rfl) n_len (by decide +kernel) (da_cons (dv 0) da_nil)) de_int (nomark _)) (dw_or (dt_not (dt_val (de_call c_is_integer_1 (by rfl) (da_cons (de_ix (dv 0) de_int (fun _ _ => rfl)) da_nil)))) (dw_or1 (dt_not (dt_val (de_call c_is_integer_1 (by rfl) (da_cons (de_ix (dv 0) de_int (fun _ _ => rfl)) da_nil))))))))) (dss_one (ds_ret de_bl)) dss_nil)
    (dss_one (ds_ret (de_and (de_cmp op_gt opd_gt (de_ix (dv 0) de_int (fun _ _ => rfl)) de_int (nomark _)) (de_one (de_cmp (op_eqAll hu) opd_eq (de_call c_divisor_of_2 (by rfl) (da_cons (de_ix (dv 0) de_int (fun _ _ => rfl)) (da_cons (de_ix (dv 0) de_int (fun _ _ => rfl)) da_nil))) de_int (nomark _)))))))
/-! ### fraction_of(top, bottom): 0 top 1 bottom 2 common -/
abbrev s_fraction_of : Stmt := topS 6
theorem sc_fraction_of : FnScope ["top", "bottom", "common"] ["top", "bottom"] (defScope s_fraction_of) := ⟨rfl, rfl, rfl, by decide +kernel, rfl, by decide +kernel, by decide +kernel⟩
def b_fraction_of (sp_divisor_of : DSp) : DTS :=
    (dSeq (dAsg (dCall sp_divisor_of [] (dCons (dVar 0) (dCons (dVar 1) dNil))) (gN 2))
    (dSeq (dIf (dTest (dOp pLt (dVar 1) (dC (.int 0)))) (dAsg (dUn pNeg (dVar 2)) (gN 2)) dNext)
    (dRet (dTup (dCons (dOp pFdiv (dVar 0) (dVar 2)) (dCons (dOp pFdiv (dVar 1) (dVar 2)) dNil))))))
theorem d_fraction_of {P : Program} {w : World} {K : PySem.W.Frag} {mg : Str → Option Value} {base : Heap} {f : Addr} {cdv : Value} {A : Around} {outer : List Env} {s : Shared} {H : Hp} {E : XK} {sp_divisor_of : DSp} (c_divisor_of_2 : Can P w K mg base (A.deeper (envOfC "fraction_of" (defScope s_fraction_of) s.heap.objs.size f cdv)) "divisor_of" [] sp_divisor_of) :
    DSs (cxOf CX0 P w K mg base ["top", "bottom", "common"] "fraction_of" (defScope s_fraction_of) f cdv A outer s H E).nox (defBody s_fraction_of) (b_fraction_of sp_divisor_of) :=
    (dss_cons (ds_set (i := 2) sc_fraction_of.nd rfl (by first | exact Or.inl rfl | exact Or.inr rfl) (de_call c_divisor_of_2 (by rfl) (da_cons (dv 0) (da_cons (dv 1) da_nil))))
    (dss_cons (ds_if (dt_cmp op_lt opd_lt (dv 1) de_int (nomark _)) (dss_one (ds_set (i := 2) sc_fraction_of.nd rfl (by first | exact Or.inl rfl | exact Or.inr rfl) (de_un un_neg und_neg (dv 2)))) dss_nil)
    (dss_one (ds_ret (de_tup (da_cons (de_op op_fdivV opd_fdiv (dv 0) (dv 2)) (da_cons (de_op op_fdivV opd_fdiv (dv 1) (dv 2)) da_nil)))))))
/-! ### plus(one, other): 0 one 1 other -/
abbrev s_plus : Stmt := topS 7
theorem sc_plus : FnScope ["one", "other"] ["one", "other"] (defScope s_plus) := ⟨rfl, rfl, rfl, by decide +kernel, rfl, by decide +kernel, by decide +kernel⟩
def b_plus (sp_fraction_of : DSp) : DTS :=
    (dSeq (dIf (dAnd (dTest (dOp pEq (dOp pIx (dVar 0) (dC (.int 1))) (dC (.int 1)))) (dTest (dOp pEq (dOp pIx (dVar 1) (dC (.int 1))) (dC (.int 1))))) (dRet (dTup (dCons (dOp pAdd (dOp pIx (dVar 0) (dC (.int 0))) (dOp pIx (dVar 1) (dC (.int 0)))) (dCons (dC (.int 1)) dNil)))) dNext)
    (dRet (dCall sp_fraction_of [] (dCons (dOp pAdd (dOp pMul (dOp pIx (dVar 0) (dC (.int 0))) (dOp pIx (dVar 1) (dC (.int 1)))) (dOp pMul (dOp pIx (dVar 1) (dC (.int 0))) (dOp pIx (dVar 0) (dC (.int 1))))) (dCons (dOp pMul (dOp pIx (dVar 0) (dC (.int 1))) (dOp pIx (dVar 1) (dC (.int 1)))) dNil)))))
theorem d_plus {P : Program} {w : World} {K : PySem.W.Frag} {mg : Str → Option Value} {base : Heap} {f : Addr} {cdv : Value} {A : Around} {outer : List Env} {s : Shared} {H : Hp} {E : XK} {sp_fraction_of : DSp} (c_fraction_of_2 : Can P w K mg base (A.deeper (envOfC "plus" (defScope s_plus) s.heap.objs.size f cdv)) "fraction_of" [] sp_fraction_of) (hu : (A.deeper (envOfC "plus" (defScope s_plus) s.heap.objs.size f cdv)).units + 64 < cLine) :
    DSs (cxOf CX0 P w K mg base ["one", "other"] "plus" (defScope s_plus) f cdv A outer s H E).nox (defBody s_plus) (b_plus sp_fraction_of) :=
    (dss_cons (ds_if (DW.dt (dw_and (dt_cmp (op_eqAll hu) opd_eq (de_ix (dv 0) de_int (fun _ _ => rfl)) de_int (nomark _)) (dw_and1 (dt_cmp (op_eqAll hu) opd_eq (de_ix (dv 1) de_int (fun _ _ => rfl)) de_int (nomark _))))) (dss_one (ds_ret (de_tup (da_cons (de_op op_addAll opd_add (de_ix (dv 0) de_int (fun _ _ => rfl)) (de_ix (dv 1) de_int (fun _ _ => rfl))) (da_cons de_int da_nil))))) dss_nil)
    (dss_one (ds_ret (de_call c_fraction_of_2 (by rfl) (da_cons (de_op op_addAll opd_add (de_op op_mulAll opd_mul (de_ix (dv 0) de_int (fun _ _ => rfl)) (de_ix (dv 1) de_int (fun _ _ => rfl))) (de_op op_mulAll opd_mul (de_ix (dv 1) de_int (fun _ _ => rfl)) (de_ix (dv 0) de_int (fun _ _ => rfl)))) (da_cons (de_op op_mulAll opd_mul (de_ix (dv 0) de_int (fun _ _ => rfl)) (de_ix (dv 1) de_int (fun _ _ => rfl))) da_nil))))))
/-! ### times(one, other): 0 one 1 other -/
abbrev s_times : Stmt := topS 8
theorem sc_times : FnScope ["one", "other"] ["one", "other"] (defScope s_times) := ⟨rfl, rfl, rfl, by decide +kernel, rfl, by decide +kernel, by decide +kernel⟩
def b_times (sp_fraction_of : DSp) : DTS :=
    (dSeq (dIf (dAnd (dTest (dOp pEq (dOp pIx (dVar 0) (dC (.int 1))) (dC (.int 1)))) (dTest (dOp pEq (dOp pIx (dVar 1) (dC (.int 1))) (dC (.int 1))))) (dRet (dTup (dCons (dOp pMul (dOp pIx (dVar 0) (dC (.int 0))) (dOp pIx (dVar 1) (dC (.int 0)))) (dCons (dC (.int 1)) dNil)))) dNext)
    (dRet (dCall sp_fraction_of [] (dCons (dOp pMul (dOp pIx (dVar 0) (dC (.int 0))) (dOp pIx (dVar 1) (dC (.int 0)))) (dCons (dOp pMul (dOp pIx (dVar 0) (dC (.int 1))) (dOp pIx (dVar 1) (dC (.int 1)))) dNil)))))
theorem d_times {P : Program} {w : World} {K : PySem.W.Frag} {mg : Str → Option Value} {base : Heap} {f : Addr} {cdv : Value} {A : Around} {outer : List Env} {s : Shared} {H : Hp} {E : XK} {sp_fraction_of : DSp} (c_fraction_of_2 : Can P w K mg base (A.deeper (envOfC "times" (defScope s_times) s.heap.objs.size f cdv)) "fraction_of" [] sp_fraction_of) (hu : (A.deeper (envOfC "times" (defScope s_times) s.heap.objs.size f cdv)).units + 64 < cLine) :
    DSs (cxOf CX0 P w K mg base ["one", "other"] "times" (defScope s_times) f cdv A outer s H E).nox (defBody s_times) (b_times sp_fraction_of) :=
    (dss_cons (ds_if (DW.dt (dw_and (dt_cmp (op_eqAll hu) opd_eq (de_ix (dv 0) de_int (fun _ _ => rfl)) de_int (nomark _)) (dw_and1 (dt_cmp (op_eqAll hu) opd_eq (de_ix (dv 1) de_int (fun _ _ => rfl)) de_int (nomark _))))) (dss_one (ds_ret (de_tup (da_cons (de_op op_mulAll opd_mul (de_ix (dv 0) de_int (fun _ _ => rfl)) (de_ix (dv 1) de_int (fun _ _ => rfl))) (da_cons de_int da_nil))))) dss_nil)
    (dss_one (ds_ret (de_call c_fraction_of_2 (by rfl) (da_cons (de_op op_mulAll opd_mul (de_ix (dv 0) de_int (fun _ _ => rfl)) (de_ix (dv 1) de_int (fun _ _ => rfl))) (da_cons (de_op op_mulAll opd_mul (de_ix (dv 0) de_int (fun _ _ => rfl)) (de_ix (dv 1) de_int (fun _ _ => rfl))) da_nil))))))
/-! ### over(one, other): 0 one 1 other -/
abbrev s_over : Stmt := topS 9
theorem sc_over : FnScope ["one", "other"] ["one", "other"] (defScope s_over) := ⟨rfl, rfl, rfl, by decide +kernel, rfl, by decide +kernel, by decide +kernel⟩
def b_over (sp_fraction_of : DSp) : DTS :=
    (dRet (dCall sp_fraction_of [] (dCons (dOp pMul (dOp pIx (dVar 0) (dC (.int 0))) (dOp pIx (dVar 1) (dC (.int 1)))) (dCons (dOp pMul (dOp pIx (dVar 0) (dC (.int 1))) (dOp pIx (dVar 1) (dC (.int 0)))) dNil))))
theorem d_over {P : Program} {w : World} {K : PySem.W.Frag} {mg : Str → Option Value} {base : Heap} {f : Addr} {cdv : Value} {A : Around} {outer : List Env} {s : Shared} {H : Hp} {E : XK} {sp_fraction_of : DSp} (c_fraction_of_2 : Can P w K mg base (A.deeper (envOfC "over" (defScope s_over) s.heap.objs.size f cdv)) "fraction_of" [] sp_fraction_of) :
    DSs (cxOf CX0 P w K mg base ["one", "other"] "over" (defScope s_over) f cdv A outer s H E).nox (defBody s_over) (b_over sp_fraction_of) :=
    (dss_one (ds_ret (de_call c_fraction_of_2 (by rfl) (da_cons (de_op op_mulAll opd_mul (de_ix (dv 0) de_int (fun _ _ => rfl)) (de_ix (dv 1) de_int (fun _ _ => rfl))) (da_cons (de_op op_mulAll opd_mul (de_ix (dv 0) de_int (fun _ _ => rfl)) (de_ix (dv 1) de_int (fun _ _ => rfl))) da_nil)))))
/-! ### is_polynomial(value): 0 value 1 item -/
abbrev s_is_polynomial : Stmt := topS 11
theorem sc_is_polynomial : FnScope ["value", "item"] ["value"] (defScope s_is_polynomial) := ⟨rfl, rfl, rfl, by decide +kernel, rfl, by decide +kernel, by decide +kernel⟩
def b_is_polynomial (sp_is_fraction : DSp) : DTS :=
    (dSeq (dIf (dOr (dNot (dTest (dCB pIsi (dCons (dVar 0) (dCons (dC (.ty "tuple")) dNil))))) (dNot (dTest (dPure (dCB pAll (dCons (dLc (iSeqD (dVar 0)) (gN 1) dYes (dCall sp_is_fraction [] (dCons (dVar 1) dNil)) [1]) dNil)))))) (dRet (dC (.bl false))) dNext)
    (dRet (dOrV (dOp pEq (dVar 0) (dTup dNil)) (dOp pNe (dOp pIx (dOp pIx (dVar 0) (dUn pNeg (dC (.int 1)))) (dC (.int 0))) (dC (.int 0))))))
theorem d_is_polynomial {P : Program} {w : World} {K : PySem.W.Frag} {mg : Str → Option Value} {base : Heap} {f : Addr} {cdv : Value} {A : Around} {outer : List Env} {s : Shared} {H : Hp} {E : XK} {sp_is_fraction : DSp} (c_is_fraction_1 : Can P w K mg base (A.deeper (envOfC "is_polynomial" (defScope s_is_polynomial) s.heap.objs.size f cdv)) "is_fraction" [] sp_is_fraction) (n_isinstance : mg "isinstance" = none) (n_tuple : mg "tuple" = none) (n_all : mg "all" = none) (hu : (A.deeper (envOfC "is_polynomial" (defScope s_is_polynomial) s.heap.objs.size f cdv)).units + 64 < cLine) :
    DSs (cxOf CX0 P w K mg base ["value", "item"] "is_polynomial" (defScope s_is_polynomial) f cdv A outer s H E).nox (defBody s_is_polynomial) (b_is_polynomial sp_is_fraction) :=
    (dss_cons (ds_if (DW.dt (dw_or (dt_not (dt_val (de_callB cr_isi cd_isi (by rfl) n_isinstance (by decide +kernel) (da_cons (dv 0) (da_cons (de_bltn (n := "tuple") (by rfl) n_tuple (by decide +kernel)) da_nil))))) (dw_or1 (dt_not (dt_val (de_pure (de_callB (cr_all rfl) cd_all (by rfl) n_all (by decide +kernel) (da_cons (de_lc rfl sc_is_polynomial.nd (di_seq (dv 0)) (own := [("item", 1)]) (by exact blkOk_by (N := ["value", "item"]) (sc := defScope s_is_polynomial) (by first | decide +kernel | rfl)) (fun _ _ _ _ _ => (dgc_name (i := 1) (by decide) sc_is_polynomial.nd rfl (by first | exact Or.inl rfl | exact Or.inr rfl))) (fun _ _ _ _ _ => dts_nil) (fun _ _ _ _ _ => (de_call c_is_fraction_1 (by rfl) (da_cons (dv 1) da_nil)))) da_nil)))))))) (dss_one (ds_ret de_bl)) dss_nil)
    (dss_one (ds_ret (de_or (de_cmp (op_eqAll hu) opd_eq (dv 0) (de_tup da_nil) (nomark _)) (de_one (de_cmp (op_neAll hu) opd_ne (de_ix (de_ix (dv 0) (de_un un_neg und_neg de_int) (fun _ _ => rfl)) de_int (fun _ _ => rfl)) de_int (nomark _)))))))
/-! ### poly_of(row): 0 row 1 many -/
abbrev s_poly_of : Stmt := topS 12
theorem sc_poly_of : FnScope ["row", "many"] ["row"] (defScope s_poly_of) := ⟨rfl, rfl, rfl, by decide +kernel, rfl, by decide +kernel, by decide +kernel⟩
def b_poly_of : DTS :=
    (dSeq (dAsg (dCB pLen (dCons (dVar 0) dNil)) (gN 1))
    (dSeq (dWhile (dAnd (dTest (dOp pGt (dVar 1) (dC (.int 0)))) (dTest (dOp pEq (dOp pIx (dOp pIx (dVar 0) (dOp pSub (dVar 1) (dC (.int 1)))) (dC (.int 0))) (dC (.int 0))))) (dAug 1 (dC (.int 1)) pSub))
    (dRet (dPure (dCB pTuple (dCons (dSl (dVar 0) dNoPart (dPart (dVar 1))) dNil))))))
theorem d_poly_of {P : Program} {w : World} {K : PySem.W.Frag} {mg : Str → Option Value} {base : Heap} {f : Addr} {cdv : Value} {A : Around} {outer : List Env} {s : Shared} {H : Hp} {E : XK} (n_len : mg "len" = none) (n_tuple : mg "tuple" = none) (hu : (A.deeper (envOfC "poly_of" (defScope s_poly_of) s.heap.objs.size f cdv)).units + 64 < cLine) :
    DSs (cxOf CX0 P w K mg base ["row", "many"] "poly_of" (defScope s_poly_of) f cdv A outer s H E).nox (defBody s_poly_of) (b_poly_of) :=
    (dss_cons (ds_set (i := 1) sc_poly_of.nd rfl (by first | exact Or.inl rfl | exact Or.inr rfl) (de_callB cr_len cd_len (by rfl) n_len (by decide +kernel) (da_cons (dv 0) da_nil)))
    (dss_cons (ds_while PassesOwn.never (DW.dt (dw_and (dt_cmp op_gt opd_gt (dv 1) de_int (nomark _)) (dw_and1 (dt_cmp (op_eqAll hu) opd_eq (de_ix (de_ix (dv 0) (de_op op_sub opd_sub (dv 1) de_int) (fun _ _ => rfl)) de_int (fun _ _ => rfl)) de_int (nomark _))))) (dss_one (ds_aug (i := 1) sc_poly_of.nd rfl (by first | exact Or.inl rfl | exact Or.inr rfl) de_int iop_sub opd_sub)))
    (dss_one (ds_ret (de_pure (de_callTy call_tuple_of cd_tuple (by rfl) n_tuple (by decide +kernel) (da_cons (de_slice (dv 0) do_none (do_some (dv 1))) da_nil)))))))
/-! ### poly_added(one, other): 0 one 1 other 2 most 3 longer 4 row 5 first 6 second -/
abbrev s_poly_added : Stmt := topS 13
theorem sc_poly_added : FnScope ["one", "other", "most", "longer", "row", "first", "second"] ["one", "other"] (defScope s_poly_added) := ⟨rfl, rfl, rfl, by decide +kernel, rfl, by decide +kernel, by decide +kernel⟩
def b_poly_added (sp_poly_of : DSp) (sp_plus : DSp) : DTS :=
    (dSeq (dAsg (dCB pMax2 (dCons (dCB pLen (dCons (dVar 0) dNil)) (dCons (dCB pLen (dCons (dVar 1) dNil)) dNil))) (gN 2))
    (dSeq (dAsg (dLc (iSeqD (dTup (dCons (dVar 0) (dCons (dVar 1) dNil)))) (gN 4) dYes (dOp pAdd (dCB pTuple (dCons (dVar 4) dNil)) (dOp pRepT (dTup (dCons (dC (.tup [(.int 0), (.int 1)])) dNil)) (dOp pSub (dVar 2) (dCB pLen (dCons (dVar 4) dNil))))) [4]) (gN 3))
    (dRet (dCall sp_poly_of [] (dCons (dLc (iZipD (dOp pIx (dVar 3) (dC (.int 0))) (dOp pIx (dVar 3) (dC (.int 1)))) (gTp 2 (gNc (gN 5) (gNc (gN 6) gN0))) dYes (dCall sp_plus [] (dCons (dVar 5) (dCons (dVar 6) dNil))) [5, 6]) dNil)))))
theorem d_poly_added {P : Program} {w : World} {K : PySem.W.Frag} {mg : Str → Option Value} {base : Heap} {f : Addr} {cdv : Value} {A : Around} {outer : List Env} {s : Shared} {H : Hp} {E : XK} {sp_poly_of : DSp} {sp_plus : DSp} (c_poly_of_1 : Can P w K mg base (A.deeper (envOfC "poly_added" (defScope s_poly_added) s.heap.objs.size f cdv)) "poly_of" [] sp_poly_of) (c_plus_2 : Can P w K mg base (A.deeper (envOfC "poly_added" (defScope s_poly_added) s.heap.objs.size f cdv)) "plus" [] sp_plus) (g_ZERO : GC K mg "ZERO" (.tup [(.int 0), (.int 1)])) (n_max : mg "max" = none) (n_len : mg "len" = none) (n_tuple : mg "tuple" = none) (n_zip : mg "zip" = none) :
    DSs (cxOf CX0 P w K mg base ["one", "other", "most", "longer", "row", "first", "second"] "poly_added" (defScope s_poly_added) f cdv A outer s H E).nox (defBody s_poly_added) (b_poly_added sp_poly_of sp_plus) :=
    (dss_cons (ds_set (i := 2) sc_poly_added.nd rfl (by first | exact Or.inl rfl | exact Or.inr rfl) (de_callB (call_max2 rfl) cd_max2 (by rfl) n_max (by decide +kernel) (da_cons (de_callB cr_len cd_len (by rfl) n_len (by decide +kernel) (da_cons (dv 0) da_nil)) (da_cons (de_callB cr_len cd_len (by rfl) n_len (by decide +kernel) (da_cons (dv 1) da_nil)) da_nil))))
    (dss_cons (ds_setLc (i := 3) rfl sc_poly_added.nd rfl rfl (sw_true rfl rfl rfl (by decide +kernel)) (di_seq (de_tup (da_cons (dv 0) (da_cons (dv 1) da_nil)))) (own := [("row", 4)]) (by exact blkOk_by (N := ["one", "other", "most", "longer", "row", "first", "second"]) (sc := defScope s_poly_added) (by first | decide +kernel | rfl)) (fun _ _ _ _ _ => (dgc_name (i := 4) (by decide) sc_poly_added.nd rfl (by first | exact Or.inl rfl | exact Or.inr rfl))) (fun _ _ _ _ _ => dts_nil) (fun _ _ _ _ _ => (de_op op_addAll opd_add (de_callTy call_tuple_of cd_tuple (by rfl) n_tuple (by decide +kernel) (da_cons (dv 4) da_nil)) (de_op op_repT0 opd_repT (de_tup (da_cons (de_glob (by rfl) g_ZERO) da_nil)) (de_op op_sub opd_sub (dv 2) (de_callB cr_len cd_len (by rfl) n_len (by decide +kernel) (da_cons (dv 4) da_nil)))))))
    (dss_one (ds_ret (de_call c_poly_of_1 (by rfl) (da_cons (de_lc rfl sc_poly_added.nd (di_zip (by rfl) n_zip (de_ix (dv 3) de_int (fun _ _ => rfl)) (de_ix (dv 3) de_int (fun _ _ => rfl))) (own := [("first", 5), ("second", 6)]) (by exact blkOk_by (N := ["one", "other", "most", "longer", "row", "first", "second"]) (sc := defScope s_poly_added) (by first | decide +kernel | rfl)) (fun _ _ _ _ _ => (dgc_tup rfl (dgcs_cons (dgc_name (i := 5) (by decide) sc_poly_added.nd rfl (by first | exact Or.inl rfl | exact Or.inr rfl)) (dgcs_cons (dgc_name (i := 6) (by decide) sc_poly_added.nd rfl (by first | exact Or.inl rfl | exact Or.inr rfl)) dgcs_nil)))) (fun _ _ _ _ _ => dts_nil) (fun _ _ _ _ _ => (de_call c_plus_2 (by rfl) (da_cons (dv 5) (da_cons (dv 6) da_nil))))) da_nil))))))
/-! ### poly_scaled(one, fraction): 0 one 1 fraction 2 item -/
abbrev s_poly_scaled : Stmt := topS 14
theorem sc_poly_scaled : FnScope ["one", "fraction", "item"] ["one", "fraction"] (defScope s_poly_scaled) := ⟨rfl, rfl, rfl, by decide +kernel, rfl, by decide +kernel, by decide +kernel⟩
def b_poly_scaled (sp_poly_of : DSp) (sp_times : DSp) : DTS :=
    (dRet (dCall sp_poly_of [] (dCons (dLc (iSeqD (dVar 0)) (gN 2) dYes (dCall sp_times [] (dCons (dVar 2) (dCons (dVar 1) dNil))) [2]) dNil)))
theorem d_poly_scaled {P : Program} {w : World} {K : PySem.W.Frag} {mg : Str → Option Value} {base : Heap} {f : Addr} {cdv : Value} {A : Around} {outer : List Env} {s : Shared} {H : Hp} {E : XK} {sp_poly_of : DSp} {sp_times : DSp} (c_poly_of_1 : Can P w K mg base (A.deeper (envOfC "poly_scaled" (defScope s_poly_scaled) s.heap.objs.size f cdv)) "poly_of" [] sp_poly_of) (c_times_2 : Can P w K mg base (A.deeper (envOfC "poly_scaled" (defScope s_poly_scaled) s.heap.objs.size f cdv)) "times" [] sp_times) :
    DSs (cxOf CX0 P w K mg base ["one", "fraction", "item"] "poly_scaled" (defScope s_poly_scaled) f cdv A outer s H E).nox (defBody s_poly_scaled) (b_poly_scaled sp_poly_of sp_times) :=
    (dss_one (ds_ret (de_call c_poly_of_1 (by rfl) (da_cons (de_lc rfl sc_poly_scaled.nd (di_seq (dv 0)) (own := [("item", 2)]) (by exact blkOk_by (N := ["one", "fraction", "item"]) (sc := defScope s_poly_scaled) (by first | decide +kernel | rfl)) (fun _ _ _ _ _ => (dgc_name (i := 2) (by decide) sc_poly_scaled.nd rfl (by first | exact Or.inl rfl | exact Or.inr rfl))) (fun _ _ _ _ _ => dts_nil) (fun _ _ _ _ _ => (de_call c_times_2 (by rfl) (da_cons (dv 2) (da_cons (dv 1) da_nil))))) da_nil))))
/-! ### whole_of(one): 0 one 1 bottom 2 item -/
abbrev s_whole_of : Stmt := topS 15
theorem sc_whole_of : FnScope ["one", "bottom", "item"] ["one"] (defScope s_whole_of) := ⟨rfl, rfl, rfl, by decide +kernel, rfl, by decide +kernel, by decide +kernel⟩
def b_whole_of (sp_divisor_of : DSp) : DTS :=
    (dSeq (dAsg (dC (.int 1)) (gN 1))
    (dSeq (dFor (iSeqD (dVar 0)) (gN 2) (dAsg (dOp pMul (dVar 1) (dOp pFdiv (dOp pIx (dVar 2) (dC (.int 1))) (dCall sp_divisor_of [] (dCons (dVar 1) (dCons (dOp pIx (dVar 2) (dC (.int 1))) dNil))))) (gN 1)))
    (dRet (dTup (dCons (dLc (iSeqD (dVar 0)) (gN 2) dYes (dOp pMul (dOp pIx (dVar 2) (dC (.int 0))) (dOp pFdiv (dVar 1) (dOp pIx (dVar 2) (dC (.int 1))))) [2]) (dCons (dVar 1) dNil))))))
theorem d_whole_of {P : Program} {w : World} {K : PySem.W.Frag} {mg : Str → Option Value} {base : Heap} {f : Addr} {cdv : Value} {A : Around} {outer : List Env} {s : Shared} {H : Hp} {E : XK} {sp_divisor_of : DSp} (c_divisor_of_2 : Can P w K mg base (A.deeper (envOfC "whole_of" (defScope s_whole_of) s.heap.objs.size f cdv)) "divisor_of" [] sp_divisor_of) :
    DSs (cxOf CX0 P w K mg base ["one", "bottom", "item"] "whole_of" (defScope s_whole_of) f cdv A outer s H E).nox (defBody s_whole_of) (b_whole_of sp_divisor_of) :=
    (dss_cons (ds_set (i := 1) sc_whole_of.nd rfl (by first | exact Or.inl rfl | exact Or.inr rfl) de_int)
    (dss_cons (ds_for PassesOwn.never rfl (di_seq (dv 0)) (dg_name (i := 2) sc_whole_of.nd rfl (by first | exact Or.inl rfl | exact Or.inr rfl)) (dss_one (ds_set (i := 1) sc_whole_of.nd rfl (by first | exact Or.inl rfl | exact Or.inr rfl) (de_op op_mulAll opd_mul (dv 1) (de_op op_fdivV opd_fdiv (de_ix (dv 2) de_int (fun _ _ => rfl)) (de_call c_divisor_of_2 (by rfl) (da_cons (dv 1) (da_cons (de_ix (dv 2) de_int (fun _ _ => rfl)) da_nil))))))))
    (dss_one (ds_ret (de_tup (da_cons (de_lc rfl sc_whole_of.nd (di_seq (dv 0)) (own := [("item", 2)]) (by exact blkOk_by (N := ["one", "bottom", "item"]) (sc := defScope s_whole_of) (by first | decide +kernel | rfl)) (fun _ _ _ _ _ => (dgc_name (i := 2) (by decide) sc_whole_of.nd rfl (by first | exact Or.inl rfl | exact Or.inr rfl))) (fun _ _ _ _ _ => dts_nil) (fun _ _ _ _ _ => (de_op op_mulAll opd_mul (de_ix (dv 2) de_int (fun _ _ => rfl)) (de_op op_fdivV opd_fdiv (dv 1) (de_ix (dv 2) de_int (fun _ _ => rfl)))))) (da_cons (dv 1) da_nil)))))))
/-! ### whole_timed(one, other): 0 one 1 other 2 found 3 at 4 first 5 beside 6 second -/
abbrev s_whole_timed : Stmt := topS 16
theorem sc_whole_timed : FnScope ["one", "other", "found", "at", "first", "beside", "second"] ["one", "other"] (defScope s_whole_timed) := ⟨rfl, rfl, rfl, by decide +kernel, rfl, by decide +kernel, by decide +kernel⟩
def b_whole_timed : DTS :=
    (dSeq (dIf (dOr (dTest (dOp pEq (dOp pIx (dVar 0) (dC (.int 0))) (dLst dNil))) (dTest (dOp pEq (dOp pIx (dVar 1) (dC (.int 0))) (dLst dNil)))) (dRet (dTup (dCons (dLst dNil) (dCons (dC (.int 1)) dNil)))) dNext)
    (dSeq (dAsg (dOp pMul (dLst (dCons (dC (.int 0)) dNil)) (dOp pSub (dOp pAdd (dPure (dCB pLen (dCons (dOp pIx (dVar 0) (dC (.int 0))) dNil))) (dPure (dCB pLen (dCons (dOp pIx (dVar 1) (dC (.int 0))) dNil)))) (dC (.int 1)))) (gN 2))
    (dSeq (dFor (iEnumD (dOp pIx (dVar 0) (dC (.int 0)))) (gTp 2 (gNc (gN 3) (gNc (gN 4) gN0))) (dIf (dTest (dOp pNe (dVar 4) (dC (.int 0)))) (dFor (iEnumD (dOp pIx (dVar 1) (dC (.int 0)))) (gTp 2 (gNc (gN 5) (gNc (gN 6) gN0))) (dAugS (dVar 2) (dOp pAdd (dVar 3) (dVar 5)) (dOp pMul (dVar 4) (dVar 6)) pIAdd)) dNext))
    (dRet (dTup (dCons (dVar 2) (dCons (dOp pMul (dOp pIx (dVar 0) (dC (.int 1))) (dOp pIx (dVar 1) (dC (.int 1)))) dNil)))))))
theorem d_whole_timed {P : Program} {w : World} {K : PySem.W.Frag} {mg : Str → Option Value} {base : Heap} {f : Addr} {cdv : Value} {A : Around} {outer : List Env} {s : Shared} {H : Hp} {E : XK} (n_len : mg "len" = none) (n_enumerate : mg "enumerate" = none) (hu : (A.deeper (envOfC "whole_timed" (defScope s_whole_timed) s.heap.objs.size f cdv)).units + 64 < cLine) :
    DSs (cxOf CX0 P w K mg base ["one", "other", "found", "at", "first", "beside", "second"] "whole_timed" (defScope s_whole_timed) f cdv A outer s H E).nox (defBody s_whole_timed) (b_whole_timed) :=
    (dss_cons (ds_if (DW.dt (dw_or (dt_cmp (op_eqAll hu) opd_eq (de_ix (dv 0) de_int (fun _ _ => rfl)) (de_lst da_nil) (nomark _)) (dw_or1 (dt_cmp (op_eqAll hu) opd_eq (de_ix (dv 1) de_int (fun _ _ => rfl)) (de_lst da_nil) (nomark _))))) (dss_one (ds_ret (de_tup (da_cons (de_lst da_nil) (da_cons de_int da_nil))))) dss_nil)
    (dss_cons (ds_set (i := 2) sc_whole_timed.nd rfl (by first | exact Or.inl rfl | exact Or.inr rfl) (de_op op_mulAll opd_mul (de_lst (da_cons de_int da_nil)) (de_op op_sub opd_sub (de_op op_addAll opd_add (de_pure (de_callB cr_len cd_len (by rfl) n_len (by decide +kernel) (da_cons (de_ix (dv 0) de_int (fun _ _ => rfl)) da_nil))) (de_pure (de_callB cr_len cd_len (by rfl) n_len (by decide +kernel) (da_cons (de_ix (dv 1) de_int (fun _ _ => rfl)) da_nil)))) de_int)))
    (dss_cons (ds_for PassesOwn.never rfl (di_enum (by rfl) n_enumerate (de_ix (dv 0) de_int (fun _ _ => rfl))) (dg_tup rfl (dgs_cons (dg_name (i := 3) sc_whole_timed.nd rfl (by first | exact Or.inl rfl | exact Or.inr rfl)) (dgs_cons (dg_name (i := 4) sc_whole_timed.nd rfl (by first | exact Or.inl rfl | exact Or.inr rfl)) dgs_nil))) (dss_one (ds_if (dt_cmp (op_neAll hu) opd_ne (dv 4) de_int (nomark _)) (dss_one (ds_for PassesOwn.never rfl (di_enum (by rfl) n_enumerate (de_ix (dv 1) de_int (fun _ _ => rfl))) (dg_tup rfl (dgs_cons (dg_name (i := 5) sc_whole_timed.nd rfl (by first | exact Or.inl rfl | exact Or.inr rfl)) (dgs_cons (dg_name (i := 6) sc_whole_timed.nd rfl (by first | exact Or.inl rfl | exact Or.inr rfl)) dgs_nil))) (dss_one (ds_augS (dv 2) (de_op op_addAll opd_add (dv 3) (dv 5)) (de_op op_mulAll opd_mul (dv 4) (dv 6)) iop_add opd_iadd)))) dss_nil)))
    (dss_one (ds_ret (de_tup (da_cons (dv 2) (da_cons (de_op op_mulAll opd_mul (de_ix (dv 0) de_int (fun _ _ => rfl)) (de_ix (dv 1) de_int (fun _ _ => rfl))) da_nil))))))))
/-! ### poly_from(whole): 0 whole 1 top -/
abbrev s_poly_from : Stmt := topS 17
theorem sc_poly_from : FnScope ["whole", "top"] ["whole"] (defScope s_poly_from) := ⟨rfl, rfl, rfl, by decide +kernel, rfl, by decide +kernel, by decide +kernel⟩
def b_poly_from (sp_poly_of : DSp) (sp_fraction_of : DSp) : DTS :=
    (dRet (dCall sp_poly_of [] (dCons (dLc (iSeqD (dOp pIx (dVar 0) (dC (.int 0)))) (gN 1) dYes (dCall sp_fraction_of [] (dCons (dVar 1) (dCons (dOp pIx (dVar 0) (dC (.int 1))) dNil))) [1]) dNil)))
theorem d_poly_from {P : Program} {w : World} {K : PySem.W.Frag} {mg : Str → Option Value} {base : Heap} {f : Addr} {cdv : Value} {A : Around} {outer : List Env} {s : Shared} {H : Hp} {E : XK} {sp_poly_of : DSp} {sp_fraction_of : DSp} (c_poly_of_1 : Can P w K mg base (A.deeper (envOfC "poly_from" (defScope s_poly_from) s.heap.objs.size f cdv)) "poly_of" [] sp_poly_of) (c_fraction_of_2 : Can P w K mg base (A.deeper (envOfC "poly_from" (defScope s_poly_from) s.heap.objs.size f cdv)) "fraction_of" [] sp_fraction_of) :
    DSs (cxOf CX0 P w K mg base ["whole", "top"] "poly_from" (defScope s_poly_from) f cdv A outer s H E).nox (defBody s_poly_from) (b_poly_from sp_poly_of sp_fraction_of) :=
    (dss_one (ds_ret (de_call c_poly_of_1 (by rfl) (da_cons (de_lc rfl sc_poly_from.nd (di_seq (de_ix (dv 0) de_int (fun _ _ => rfl))) (own := [("top", 1)]) (by exact blkOk_by (N := ["whole", "top"]) (sc := defScope s_poly_from) (by first | decide +kernel | rfl)) (fun _ _ _ _ _ => (dgc_name (i := 1) (by decide) sc_poly_from.nd rfl (by first | exact Or.inl rfl | exact Or.inr rfl))) (fun _ _ _ _ _ => dts_nil) (fun _ _ _ _ _ => (de_call c_fraction_of_2 (by rfl) (da_cons (dv 1) (da_cons (de_ix (dv 0) de_int (fun _ _ => rfl)) da_nil))))) da_nil))))
/-! ### poly_timed(one, other): 0 one 1 other -/
abbrev s_poly_timed : Stmt := topS 18
theorem sc_poly_timed : FnScope ["one", "other"] ["one", "other"] (defScope s_poly_timed) := ⟨rfl, rfl, rfl, by decide +kernel, rfl, by decide +kernel, by decide +kernel⟩
def b_poly_timed (sp_poly_from : DSp) (sp_whole_timed : DSp) (sp_whole_of : DSp) : DTS :=
    (dRet (dCall sp_poly_from [] (dCons (dCall sp_whole_timed [] (dCons (dCall sp_whole_of [] (dCons (dVar 0) dNil)) (dCons (dCall sp_whole_of [] (dCons (dVar 1) dNil)) dNil))) dNil)))
theorem d_poly_timed {P : Program} {w : World} {K : PySem.W.Frag} {mg : Str → Option Value} {base : Heap} {f : Addr} {cdv : Value} {A : Around} {outer : List Env} {s : Shared} {H : Hp} {E : XK} {sp_poly_from : DSp} {sp_whole_timed : DSp} {sp_whole_of : DSp} (c_poly_from_1 : Can P w K mg base (A.deeper (envOfC "poly_timed" (defScope s_poly_timed) s.heap.objs.size f cdv)) "poly_from" [] sp_poly_from) (c_whole_timed_2 : Can P w K mg base (A.deeper (envOfC "poly_timed" (defScope s_poly_timed) s.heap.objs.size f cdv)) "whole_timed" [] sp_whole_timed) (c_whole_of_1 : Can P w K mg base (A.deeper (envOfC "poly_timed" (defScope s_poly_timed) s.heap.objs.size f cdv)) "whole_of" [] sp_whole_of) :
    DSs (cxOf CX0 P w K mg base ["one", "other"] "poly_timed" (defScope s_poly_timed) f cdv A outer s H E).nox (defBody s_poly_timed) (b_poly_timed sp_poly_from sp_whole_timed sp_whole_of) :=
    (dss_one (ds_ret (de_call c_poly_from_1 (by rfl) (da_cons (de_call c_whole_timed_2 (by rfl) (da_cons (de_call c_whole_of_1 (by rfl) (da_cons (dv 0) da_nil)) (da_cons (de_call c_whole_of_1 (by rfl) (da_cons (dv 1) da_nil)) da_nil))) da_nil))))
/-! ### poly_slope(one): 0 one 1 at -/
abbrev s_poly_slope : Stmt := topS 19
theorem sc_poly_slope : FnScope ["one", "at"] ["one"] (defScope s_poly_slope) := ⟨rfl, rfl, rfl, by decide +kernel, rfl, by decide +kernel, by decide +kernel⟩
def b_poly_slope (sp_poly_of : DSp) (sp_times : DSp) : DTS :=
    (dRet (dCall sp_poly_of [] (dCons (dLc (iRng (dCons (dC (.int 1)) (dCons (dCB pLen (dCons (dVar 0) dNil)) dNil))) (gN 1) dYes (dCall sp_times [] (dCons (dOp pIx (dVar 0) (dVar 1)) (dCons (dTup (dCons (dVar 1) (dCons (dC (.int 1)) dNil))) dNil))) [1]) dNil)))
theorem d_poly_slope {P : Program} {w : World} {K : PySem.W.Frag} {mg : Str → Option Value} {base : Heap} {f : Addr} {cdv : Value} {A : Around} {outer : List Env} {s : Shared} {H : Hp} {E : XK} {sp_poly_of : DSp} {sp_times : DSp} (c_poly_of_1 : Can P w K mg base (A.deeper (envOfC "poly_slope" (defScope s_poly_slope) s.heap.objs.size f cdv)) "poly_of" [] sp_poly_of) (c_times_2 : Can P w K mg base (A.deeper (envOfC "poly_slope" (defScope s_poly_slope) s.heap.objs.size f cdv)) "times" [] sp_times) (n_range : mg "range" = none) (n_len : mg "len" = none) :
    DSs (cxOf CX0 P w K mg base ["one", "at"] "poly_slope" (defScope s_poly_slope) f cdv A outer s H E).nox (defBody s_poly_slope) (b_poly_slope sp_poly_of sp_times) :=
    (dss_one (ds_ret (de_call c_poly_of_1 (by rfl) (da_cons (de_lc rfl sc_poly_slope.nd (di_range2 (by rfl) n_range de_int (de_callB cr_len cd_len (by rfl) n_len (by decide +kernel) (da_cons (dv 0) da_nil))) (own := [("at", 1)]) (by exact blkOk_by (N := ["one", "at"]) (sc := defScope s_poly_slope) (by first | decide +kernel | rfl)) (fun _ _ _ _ _ => (dgc_name (i := 1) (by decide) sc_poly_slope.nd rfl (by first | exact Or.inl rfl | exact Or.inr rfl))) (fun _ _ _ _ _ => dts_nil) (fun _ _ _ _ _ => (de_call c_times_2 (by rfl) (da_cons (de_ix (dv 0) (dv 1) (fun _ _ => rfl)) (da_cons (de_tup (da_cons (dv 1) (da_cons de_int da_nil))) da_nil))))) da_nil))))
/-! ### poly_sum(one): 0 one 1 found 2 at 3 item -/
abbrev s_poly_sum : Stmt := topS 20
theorem sc_poly_sum : FnScope ["one", "found", "at", "item"] ["one"] (defScope s_poly_sum) := ⟨rfl, rfl, rfl, by decide +kernel, rfl, by decide +kernel, by decide +kernel⟩
def b_poly_sum (sp_plus : DSp) (sp_over : DSp) : DTS :=
    (dSeq (dAsg (dC (.tup [(.int 0), (.int 1)])) (gN 1))
    (dSeq (dFor (iEnumD (dVar 0)) (gTp 2 (gNc (gN 2) (gNc (gN 3) gN0))) (dAsg (dCall sp_plus [] (dCons (dVar 1) (dCons (dCall sp_over [] (dCons (dVar 3) (dCons (dTup (dCons (dOp pAdd (dVar 2) (dC (.int 1))) (dCons (dC (.int 1)) dNil))) dNil))) dNil))) (gN 1)))
    (dRet (dVar 1))))
theorem d_poly_sum {P : Program} {w : World} {K : PySem.W.Frag} {mg : Str → Option Value} {base : Heap} {f : Addr} {cdv : Value} {A : Around} {outer : List Env} {s : Shared} {H : Hp} {E : XK} {sp_plus : DSp} {sp_over : DSp} (c_plus_2 : Can P w K mg base (A.deeper (envOfC "poly_sum" (defScope s_poly_sum) s.heap.objs.size f cdv)) "plus" [] sp_plus) (c_over_2 : Can P w K mg base (A.deeper (envOfC "poly_sum" (defScope s_poly_sum) s.heap.objs.size f cdv)) "over" [] sp_over) (g_ZERO : GC K mg "ZERO" (.tup [(.int 0), (.int 1)])) (n_enumerate : mg "enumerate" = none) :
    DSs (cxOf CX0 P w K mg base ["one", "found", "at", "item"] "poly_sum" (defScope s_poly_sum) f cdv A outer s H E).nox (defBody s_poly_sum) (b_poly_sum sp_plus sp_over) :=
    (dss_cons (ds_set (i := 1) sc_poly_sum.nd rfl (by first | exact Or.inl rfl | exact Or.inr rfl) (de_glob (by rfl) g_ZERO))
    (dss_cons (ds_for PassesOwn.never rfl (di_enum (by rfl) n_enumerate (dv 0)) (dg_tup rfl (dgs_cons (dg_name (i := 2) sc_poly_sum.nd rfl (by first | exact Or.inl rfl | exact Or.inr rfl)) (dgs_cons (dg_name (i := 3) sc_poly_sum.nd rfl (by first | exact Or.inl rfl | exact Or.inr rfl)) dgs_nil))) (dss_one (ds_set (i := 1) sc_poly_sum.nd rfl (by first | exact Or.inl rfl | exact Or.inr rfl) (de_call c_plus_2 (by rfl) (da_cons (dv 1) (da_cons (de_call c_over_2 (by rfl) (da_cons (dv 3) (da_cons (de_tup (da_cons (de_op op_addAll opd_add (dv 2) de_int) (da_cons de_int da_nil))) da_nil))) da_nil))))))
    (dss_one (ds_ret (dv 1)))))
/-! ### poly_at(one, place): 0 one 1 place 2 found 3 item -/
abbrev s_poly_at : Stmt := topS 21
theorem sc_poly_at : FnScope ["one", "place", "found", "item"] ["one", "place"] (defScope s_poly_at) := ⟨rfl, rfl, rfl, by decide +kernel, rfl, by decide +kernel, by decide +kernel⟩
def b_poly_at (sp_plus : DSp) (sp_times : DSp) : DTS :=
    (dSeq (dAsg (dC (.tup [(.int 0), (.int 1)])) (gN 2))
    (dSeq (dFor (iSeqD (dRev (dVar 0))) (gN 3) (dAsg (dCall sp_plus [] (dCons (dCall sp_times [] (dCons (dVar 2) (dCons (dVar 1) dNil))) (dCons (dVar 3) dNil))) (gN 2)))
    (dRet (dVar 2))))
theorem d_poly_at {P : Program} {w : World} {K : PySem.W.Frag} {mg : Str → Option Value} {base : Heap} {f : Addr} {cdv : Value} {A : Around} {outer : List Env} {s : Shared} {H : Hp} {E : XK} {sp_plus : DSp} {sp_times : DSp} (c_plus_2 : Can P w K mg base (A.deeper (envOfC "poly_at" (defScope s_poly_at) s.heap.objs.size f cdv)) "plus" [] sp_plus) (c_times_2 : Can P w K mg base (A.deeper (envOfC "poly_at" (defScope s_poly_at) s.heap.objs.size f cdv)) "times" [] sp_times) (g_ZERO : GC K mg "ZERO" (.tup [(.int 0), (.int 1)])) :
    DSs (cxOf CX0 P w K mg base ["one", "place", "found", "item"] "poly_at" (defScope s_poly_at) f cdv A outer s H E).nox (defBody s_poly_at) (b_poly_at sp_plus sp_times) :=
    (dss_cons (ds_set (i := 2) sc_poly_at.nd rfl (by first | exact Or.inl rfl | exact Or.inr rfl) (de_glob (by rfl) g_ZERO))
    (dss_cons (ds_for PassesOwn.never rfl (di_seq (de_rev (dv 0))) (dg_name (i := 3) sc_poly_at.nd rfl (by first | exact Or.inl rfl | exact Or.inr rfl)) (dss_one (ds_set (i := 2) sc_poly_at.nd rfl (by first | exact Or.inl rfl | exact Or.inr rfl) (de_call c_plus_2 (by rfl) (da_cons (de_call c_times_2 (by rfl) (da_cons (dv 2) (da_cons (dv 1) da_nil))) (da_cons (dv 3) da_nil))))))
    (dss_one (ds_ret (dv 2)))))
/-! ### _law_heap(script): 0 script 1 cells 2 stir 3 cell -/
abbrev s__law_heap : Stmt := topS 23
theorem sc__law_heap : FnScope ["script", "cells", "stir", "cell"] ["script"] (defScope s__law_heap) := ⟨rfl, rfl, rfl, by decide +kernel, rfl, by decide +kernel, by decide +kernel⟩
def b__law_heap : DTS :=
    (dSeq (dPar 1 2 (dCons (dLc (iSeqD (dSl (dVar 0) dNoPart (dPart (dC (.int 63))))) (gN 3) dYes (dOp pAdd (dOp pMulC (dC (.int 2)) (dCB pAbs (dCons (dVar 3) dNil))) (dCB pInt (dCons (dOp pLt (dVar 3) (dC (.int 0))) dNil))) [3]) (dCons (dC (.int 26055)) dNil)))
    (dSeq (dFor (iSeqD (dVar 1)) (gN 3) (dAsg (dOp pMod (dCB pInt (dCons (dOp pAdd (dOp pAdd (dOp pMulC (dVar 2) (dC (.int 69621))) (dOp pMod (dCB pInt (dCons (dVar 3) dNil)) (dC (.int 2147483563)))) (dC (.int 31))) dNil)) (dC (.int 2147483647))) (gN 2)))
    (dRet (dLst (dCons (dRev (dLc (iSeqD (dVar 1)) (gN 3) (dTest (dOp pGe (dVar 3) (dOp pPow (dC (.int 10)) (dC (.int 18))))) (dOp pMod (dCB pInt (dCons (dVar 3) dNil)) (dOp pMul (dOp pMul (dOp pMul (dOp pPow (dC (.int 10)) (dC (.int 60))) (dOp pPow (dC (.int 10)) (dC (.int 60)))) (dOp pPow (dC (.int 10)) (dC (.int 60)))) (dOp pPow (dC (.int 10)) (dC (.int 60))))) [3])) (dCons (dVar 2) dNil))))))
theorem d__law_heap {P : Program} {w : World} {K : PySem.W.Frag} {mg : Str → Option Value} {base : Heap} {f : Addr} {cdv : Value} {A : Around} {outer : List Env} {s : Shared} {H : Hp} {E : XK} (n_abs : mg "abs" = none) (n_int : mg "int" = none) :
    DSs (cxOf CX0 P w K mg base ["script", "cells", "stir", "cell"] "_law_heap" (defScope s__law_heap) f cdv A outer s H E).nox (defBody s__law_heap) (b__law_heap) :=
    (dss_cons (ds_par (i := 1) (j := 2) rfl sc__law_heap.nd rfl rfl (by decide) rfl rfl (da_cons (de_lc rfl sc__law_heap.nd (di_seq (de_slice (dv 0) do_none (do_some de_int))) (own := [("cell", 3)]) (by exact blkOk_by (N := ["script", "cells", "stir", "cell"]) (sc := defScope s__law_heap) (by first | decide +kernel | rfl)) (fun _ _ _ _ _ => (dgc_name (i := 3) (by decide) sc__law_heap.nd rfl (by first | exact Or.inl rfl | exact Or.inr rfl))) (fun _ _ _ _ _ => dts_nil) (fun _ _ _ _ _ => (de_op op_addAll opd_add (de_op op_mul opd_mulC de_int (de_callB call_abs cd_abs (by rfl) n_abs (by decide +kernel) (da_cons (dv 3) da_nil))) (de_callTy call_int1 cd_int (by rfl) n_int (by decide +kernel) (da_cons (de_cmp op_lt opd_lt (dv 3) de_int (nomark _)) da_nil))))) (da_cons de_int da_nil)) (by rfl))
    (dss_cons (ds_for PassesOwn.never rfl (di_seq (dv 1)) (dg_name (i := 3) sc__law_heap.nd rfl (by first | exact Or.inl rfl | exact Or.inr rfl)) (dss_one (ds_set (i := 2) sc__law_heap.nd rfl (by first | exact Or.inl rfl | exact Or.inr rfl) (de_op op_modN opd_mod (de_callTy call_int1 cd_int (by rfl) n_int (by decide +kernel) (da_cons (de_op op_addAll opd_add (de_op op_addAll opd_add (de_op op_mul opd_mulC (dv 2) de_int) (de_op op_modN opd_mod (de_callTy call_int1 cd_int (by rfl) n_int (by decide +kernel) (da_cons (dv 3) da_nil)) de_int)) de_int) da_nil)) de_int))))
    (dss_one (ds_ret (de_lst (da_cons (de_rev (de_lc rfl sc__law_heap.nd (di_seq (dv 1)) (own := [("cell", 3)]) (by exact blkOk_by (N := ["script", "cells", "stir", "cell"]) (sc := defScope s__law_heap) (by first | decide +kernel | rfl)) (fun _ _ _ _ _ => (dgc_name (i := 3) (by decide) sc__law_heap.nd rfl (by first | exact Or.inl rfl | exact Or.inr rfl))) (fun _ _ _ _ _ => (dts_one (dt_cmp op_ge opd_ge (dv 3) (de_op op_pow opd_pow de_int de_int) (nomark _)))) (fun _ _ _ _ _ => (de_op op_modN opd_mod (de_callTy call_int1 cd_int (by rfl) n_int (by decide +kernel) (da_cons (dv 3) da_nil)) (de_op op_mulAll opd_mul (de_op op_mulAll opd_mul (de_op op_mulAll opd_mul (de_op op_pow opd_pow de_int de_int) (de_op op_pow opd_pow de_int de_int)) (de_op op_pow opd_pow de_int de_int)) (de_op op_pow opd_pow de_int de_int)))))) (da_cons (dv 2) da_nil)))))))
/-! ### _law_draw(heap, many): 0 heap 1 many 2 rest -/
abbrev s__law_draw : Stmt := topS 24
theorem sc__law_draw : FnScope ["heap", "many", "rest"] ["heap", "many"] (defScope s__law_draw) := ⟨rfl, rfl, rfl, by decide +kernel, rfl, by decide +kernel, by decide +kernel⟩
def b__law_draw : DTS :=
    (dSeq (dWhile (dAnd (dTest (dOp pNe (dOp pIx (dVar 0) (dC (.int 0))) (dLst dNil))) (dTest (dOp pEq (dOp pIx (dOp pIx (dVar 0) (dC (.int 0))) (dUn pNeg (dC (.int 1)))) (dC (.int 0))))) (dDrop (dBM tyL pPop (dOp pIx (dVar 0) (dC (.int 0))) dNil)))
    (dSeq (dIf (dTest (dOp pNe (dOp pIx (dVar 0) (dC (.int 0))) (dLst dNil))) (dSeq (dAsg (dBM tyL pPop (dOp pIx (dVar 0) (dC (.int 0))) dNil) (gN 2))
    (dSeq (dDrop (dBM tyL pAppend (dOp pIx (dVar 0) (dC (.int 0))) (dCons (dOp pFdiv (dVar 2) (dVar 1)) dNil)))
    (dRet (dOp pMod (dCB pInt (dCons (dVar 2) dNil)) (dVar 1))))) dNext)
    (dSeq (dAsg (dOp pMod (dCB pInt (dCons (dOp pAdd (dOp pMul (dOp pIx (dVar 0) (dC (.int 1))) (dC (.int 48271))) (dC (.int 17))) dNil)) (dC (.int 2147483647))) (gSubL (dVar 0) (dC (.int 1))))
    (dRet (dOp pMod (dCB pInt (dCons (dOp pFdiv (dOp pIx (dVar 0) (dC (.int 1))) (dC (.int 32))) dNil)) (dVar 1))))))
theorem d__law_draw {P : Program} {w : World} {K : PySem.W.Frag} {mg : Str → Option Value} {base : Heap} {f : Addr} {cdv : Value} {A : Around} {outer : List Env} {s : Shared} {H : Hp} {E : XK} (n_int : mg "int" = none) (hu : (A.deeper (envOfC "_law_draw" (defScope s__law_draw) s.heap.objs.size f cdv)).units + 64 < cLine) :
    DSs (cxOf CX0 P w K mg base ["heap", "many", "rest"] "_law_draw" (defScope s__law_draw) f cdv A outer s H E).nox (defBody s__law_draw) (b__law_draw) :=
    (dss_cons (ds_while PassesOwn.never (DW.dt (dw_and (dt_cmp (op_neAll hu) opd_ne (de_ix (dv 0) de_int (fun _ _ => rfl)) (de_lst da_nil) (nomark _)) (dw_and1 (dt_cmp (op_eqAll hu) opd_eq (de_ix (de_ix (dv 0) de_int (fun _ _ => rfl)) (de_un un_neg und_neg de_int) (fun _ _ => rfl)) de_int (nomark _))))) (dss_one (ds_expr (de_bm0 PySem.F.plainAttrs_list PySem.F.slot_list_pop PySem.F.type_list_pop mt_pop md_pop (de_ix (dv 0) de_int (fun _ _ => rfl))))))
    (dss_cons (ds_if (dt_cmp (op_neAll hu) opd_ne (de_ix (dv 0) de_int (fun _ _ => rfl)) (de_lst da_nil) (nomark _)) (dss_cons (ds_set (i := 2) sc__law_draw.nd rfl (by first | exact Or.inl rfl | exact Or.inr rfl) (de_bm0 PySem.F.plainAttrs_list PySem.F.slot_list_pop PySem.F.type_list_pop mt_pop md_pop (de_ix (dv 0) de_int (fun _ _ => rfl))))
    (dss_cons (ds_expr (de_bm PySem.F.plainAttrs_list PySem.F.slot_list_append PySem.F.type_list_append mt_append md_append (de_ix (dv 0) de_int (fun _ _ => rfl)) (da_cons (de_op op_fdivV opd_fdiv (dv 2) (dv 1)) da_nil)))
    (dss_one (ds_ret (de_op op_modN opd_mod (de_callTy call_int1 cd_int (by rfl) n_int (by decide +kernel) (da_cons (dv 2) da_nil)) (dv 1)))))) dss_nil)
    (dss_cons (ds_asg (de_op op_modN opd_mod (de_callTy call_int1 cd_int (by rfl) n_int (by decide +kernel) (da_cons (de_op op_addAll opd_add (de_op op_mulAll opd_mul (de_ix (dv 0) de_int (fun _ _ => rfl)) de_int) de_int) da_nil)) de_int) (dg_subL (dv 0) de_int))
    (dss_one (ds_ret (de_op op_modN opd_mod (de_callTy call_int1 cd_int (by rfl) n_int (by decide +kernel) (da_cons (de_op op_fdivV opd_fdiv (de_ix (dv 0) de_int (fun _ _ => rfl)) de_int) da_nil)) (dv 1)))))))
/-! ### _law_pick(heap, some): 0 heap 1 some -/
abbrev s__law_pick : Stmt := topS 25
theorem sc__law_pick : FnScope ["heap", "some"] ["heap", "some"] (defScope s__law_pick) := ⟨rfl, rfl, rfl, by decide +kernel, rfl, by decide +kernel, by decide +kernel⟩
def b__law_pick (sp__law_draw : DSp) : DTS :=
    (dRet (dOp pIx (dVar 1) (dCall sp__law_draw [] (dCons (dVar 0) (dCons (dCB pLen (dCons (dVar 1) dNil)) dNil)))))
theorem d__law_pick {P : Program} {w : World} {K : PySem.W.Frag} {mg : Str → Option Value} {base : Heap} {f : Addr} {cdv : Value} {A : Around} {outer : List Env} {s : Shared} {H : Hp} {E : XK} {sp__law_draw : DSp} (c__law_draw_2 : Can P w K mg base (A.deeper (envOfC "_law_pick" (defScope s__law_pick) s.heap.objs.size f cdv)) "_law_draw" [] sp__law_draw) (n_len : mg "len" = none) :
    DSs (cxOf CX0 P w K mg base ["heap", "some"] "_law_pick" (defScope s__law_pick) f cdv A outer s H E).nox (defBody s__law_pick) (b__law_pick sp__law_draw) :=
    (dss_one (ds_ret (de_ix (dv 1) (de_call c__law_draw_2 (by rfl) (da_cons (dv 0) (da_cons (de_callB cr_len cd_len (by rfl) n_len (by decide +kernel) (da_cons (dv 1) da_nil)) da_nil))) (fun _ _ => rfl))))
/-! ### _law_same(value, due): 0 value 1 due 2 at -/
abbrev s__law_same : Stmt := topS 26
theorem sc__law_same : FnScope ["value", "due", "at"] ["value", "due"] (defScope s__law_same) := ⟨rfl, rfl, rfl, by decide +kernel, rfl, by decide +kernel, by decide +kernel⟩
def b__law_same (sp__law_same : DSp) : DTS :=
    (dSeq (dIf (dTest (dCB pIsi (dCons (dVar 1) (dCons (dC (.ty "tuple")) dNil)))) (dRet (dAndV (dCB pIsi (dCons (dVar 0) (dCons (dC (.ty "tuple")) dNil))) (dAndV (dOp pEq (dCB pLen (dCons (dVar 0) dNil)) (dCB pLen (dCons (dVar 1) dNil))) (dPure (dCB pAll (dCons (dLc (iRng (dCons (dCB pLen (dCons (dVar 1) dNil)) dNil)) (gN 2) dYes (dCall sp__law_same [] (dCons (dOp pIx (dVar 0) (dVar 2)) (dCons (dOp pIx (dVar 1) (dVar 2)) dNil))) [2]) dNil)))))) dNext)
    (dSeq (dIf (dOr (dTest (dOp pIs (dVar 1) (dC .non))) (dTest (dCB pIsi (dCons (dVar 1) (dCons (dC (.ty "str")) dNil))))) (dRet (dAndV (dOp pEq (dOp pIs (dVar 0) (dC .non)) (dOp pIs (dVar 1) (dC .non))) (dAndV (dOp pEq (dCB pIsi (dCons (dVar 0) (dCons (dC (.ty "str")) dNil))) (dCB pIsi (dCons (dVar 1) (dCons (dC (.ty "str")) dNil)))) (dOp pEq (dVar 0) (dVar 1))))) dNext)
    (dRet (dAndV (dCB pIsi (dCons (dVar 0) (dCons (dC (.ty "int")) dNil))) (dAndV (dOp pEq (dCB pIsi (dCons (dVar 0) (dCons (dC (.ty "bool")) dNil))) (dCB pIsi (dCons (dVar 1) (dCons (dC (.ty "bool")) dNil)))) (dOp pEq (dVar 0) (dVar 1)))))))
theorem d__law_same {P : Program} {w : World} {K : PySem.W.Frag} {mg : Str → Option Value} {base : Heap} {f : Addr} {cdv : Value} {A : Around} {outer : List Env} {s : Shared} {H : Hp} {E : XK} {sp__law_same : DSp} (c__law_same_2 : Can P w K mg base (A.deeper (envOfC "_law_same" (defScope s__law_same) s.heap.objs.size f cdv)) "_law_same" [] sp__law_same) (n_isinstance : mg "isinstance" = none) (n_tuple : mg "tuple" = none) (n_len : mg "len" = none) (n_all : mg "all" = none) (n_range : mg "range" = none) (n_str : mg "str" = none) (n_int : mg "int" = none) (n_bool : mg "bool" = none) (hu : (A.deeper (envOfC "_law_same" (defScope s__law_same) s.heap.objs.size f cdv)).units + 64 < cLine) :
    DSs (cxOf CX0 P w K mg base ["value", "due", "at"] "_law_same" (defScope s__law_same) f cdv A outer s H E).nox (defBody s__law_same) (b__law_same sp__law_same) :=
    (dss_cons (ds_if (dt_val (de_callB cr_isi cd_isi (by rfl) n_isinstance (by decide +kernel) (da_cons (dv 1) (da_cons (de_bltn (n := "tuple") (by rfl) n_tuple (by decide +kernel)) da_nil)))) (dss_one (ds_ret (de_and (de_callB cr_isi cd_isi (by rfl) n_isinstance (by decide +kernel) (da_cons (dv 0) (da_cons (de_bltn (n := "tuple") (by rfl) n_tuple (by decide +kernel)) da_nil))) (de_and (de_cmp (op_eqAll hu) opd_eq (de_callB cr_len cd_len (by rfl) n_len (by decide +kernel) (da_cons (dv 0) da_nil)) (de_callB cr_len cd_len (by rfl) n_len (by decide +kernel) (da_cons (dv 1) da_nil)) (nomark _)) (de_one (de_pure (de_callB (cr_all rfl) cd_all (by rfl) n_all (by decide +kernel) (da_cons (de_lc rfl sc__law_same.nd (di_range1 (by rfl) n_range (de_callB cr_len cd_len (by rfl) n_len (by decide +kernel) (da_cons (dv 1) da_nil))) (own := [("at", 2)]) (by exact blkOk_by (N := ["value", "due", "at"]) (sc := defScope s__law_same) (by first | decide +kernel | rfl)) (fun _ _ _ _ _ => (dgc_name (i := 2) (by decide) sc__law_same.nd rfl (by first | exact Or.inl rfl | exact Or.inr rfl))) (fun _ _ _ _ _ => dts_nil) (fun _ _ _ _ _ => (de_call c__law_same_2 (by rfl) (da_cons (de_ix (dv 0) (dv 2) (fun _ _ => rfl)) (da_cons (de_ix (dv 1) (dv 2) (fun _ _ => rfl)) da_nil))))) da_nil)))))))) dss_nil)
    (dss_cons (ds_if (DW.dt (dw_or (dt_cmp op_isAll opd_is (dv 1) de_non (nomark _)) (dw_or1 (dt_val (de_callB cr_isi cd_isi (by rfl) n_isinstance (by decide +kernel) (da_cons (dv 1) (da_cons (de_bltn (n := "str") (by rfl) n_str (by decide +kernel)) da_nil))))))) (dss_one (ds_ret (de_and (de_cmp (op_eqAll hu) opd_eq (de_cmp op_isAll opd_is (dv 0) de_non (nomark _)) (de_cmp op_isAll opd_is (dv 1) de_non (nomark _)) (nomark _)) (de_and (de_cmp (op_eqAll hu) opd_eq (de_callB cr_isi cd_isi (by rfl) n_isinstance (by decide +kernel) (da_cons (dv 0) (da_cons (de_bltn (n := "str") (by rfl) n_str (by decide +kernel)) da_nil))) (de_callB cr_isi cd_isi (by rfl) n_isinstance (by decide +kernel) (da_cons (dv 1) (da_cons (de_bltn (n := "str") (by rfl) n_str (by decide +kernel)) da_nil))) (nomark _)) (de_one (de_cmp (op_eqAll hu) opd_eq (dv 0) (dv 1) (nomark _))))))) dss_nil)
    (dss_one (ds_ret (de_and (de_callB cr_isi cd_isi (by rfl) n_isinstance (by decide +kernel) (da_cons (dv 0) (da_cons (de_bltn (n := "int") (by rfl) n_int (by decide +kernel)) da_nil))) (de_and (de_cmp (op_eqAll hu) opd_eq (de_callB cr_isi cd_isi (by rfl) n_isinstance (by decide +kernel) (da_cons (dv 0) (da_cons (de_bltn (n := "bool") (by rfl) n_bool (by decide +kernel)) da_nil))) (de_callB cr_isi cd_isi (by rfl) n_isinstance (by decide +kernel) (da_cons (dv 1) (da_cons (de_bltn (n := "bool") (by rfl) n_bool (by decide +kernel)) da_nil))) (nomark _)) (de_one (de_cmp (op_eqAll hu) opd_eq (dv 0) (dv 1) (nomark _)))))))))
/-! ### _law_gcd(one, other): 0 one 1 other -/
abbrev s__law_gcd : Stmt := topS 27
theorem sc__law_gcd : FnScope ["one", "other"] ["one", "other"] (defScope s__law_gcd) := ⟨rfl, rfl, rfl, by decide +kernel, rfl, by decide +kernel, by decide +kernel⟩
def b__law_gcd : DTS :=
    (dSeq (dPar 0 1 (dCons (dCB pAbs (dCons (dVar 0) dNil)) (dCons (dCB pAbs (dCons (dVar 1) dNil)) dNil)))
    (dSeq (dWhile (dTest (dOp pNe (dVar 1) (dC (.int 0)))) (dPar 0 1 (dCons (dVar 1) (dCons (dOp pMod (dCB pInt (dCons (dVar 0) dNil)) (dVar 1)) dNil))))
    (dRet (dVar 0))))
theorem d__law_gcd {P : Program} {w : World} {K : PySem.W.Frag} {mg : Str → Option Value} {base : Heap} {f : Addr} {cdv : Value} {A : Around} {outer : List Env} {s : Shared} {H : Hp} {E : XK} (n_abs : mg "abs" = none) (n_int : mg "int" = none) (hu : (A.deeper (envOfC "_law_gcd" (defScope s__law_gcd) s.heap.objs.size f cdv)).units + 64 < cLine) :
    DSs (cxOf CX0 P w K mg base ["one", "other"] "_law_gcd" (defScope s__law_gcd) f cdv A outer s H E).nox (defBody s__law_gcd) (b__law_gcd) :=
    (dss_cons (ds_par (i := 0) (j := 1) rfl sc__law_gcd.nd rfl rfl (by decide) rfl rfl (da_cons (de_callB call_abs cd_abs (by rfl) n_abs (by decide +kernel) (da_cons (dv 0) da_nil)) (da_cons (de_callB call_abs cd_abs (by rfl) n_abs (by decide +kernel) (da_cons (dv 1) da_nil)) da_nil)) (by rfl))
    (dss_cons (ds_while PassesOwn.never (dt_cmp (op_neAll hu) opd_ne (dv 1) de_int (nomark _)) (dss_one (ds_par (i := 0) (j := 1) rfl sc__law_gcd.nd rfl rfl (by decide) rfl rfl (da_cons (dv 1) (da_cons (de_op op_modN opd_mod (de_callTy call_int1 cd_int (by rfl) n_int (by decide +kernel) (da_cons (dv 0) da_nil)) (dv 1)) da_nil)) (by rfl))))
    (dss_one (ds_ret (dv 0)))))
/-! ### _law_f(top, bottom): 0 top 1 bottom 2 by -/
abbrev s__law_f : Stmt := topS 28
theorem sc__law_f : FnScope ["top", "bottom", "by"] ["top", "bottom"] (defScope s__law_f) := ⟨rfl, rfl, rfl, by decide +kernel, rfl, by decide +kernel, by decide +kernel⟩
def b__law_f (sp__law_gcd : DSp) : DTS :=
    (dSeq (dAsg (dOp pMul (dCall sp__law_gcd [] (dCons (dVar 0) (dCons (dVar 1) dNil))) (dIfE (dTest (dOp pGt (dVar 1) (dC (.int 0)))) (dC (.int 1)) (dOp pSub (dC (.int 0)) (dC (.int 1))))) (gN 2))
    (dRet (dTup (dCons (dOp pFdiv (dVar 0) (dVar 2)) (dCons (dOp pFdiv (dVar 1) (dVar 2)) dNil)))))
theorem d__law_f {P : Program} {w : World} {K : PySem.W.Frag} {mg : Str → Option Value} {base : Heap} {f : Addr} {cdv : Value} {A : Around} {outer : List Env} {s : Shared} {H : Hp} {E : XK} {sp__law_gcd : DSp} (c__law_gcd_2 : Can P w K mg base (A.deeper (envOfC "_law_f" (defScope s__law_f) s.heap.objs.size f cdv)) "_law_gcd" [] sp__law_gcd) :
    DSs (cxOf CX0 P w K mg base ["top", "bottom", "by"] "_law_f" (defScope s__law_f) f cdv A outer s H E).nox (defBody s__law_f) (b__law_f sp__law_gcd) :=
    (dss_cons (ds_set (i := 2) sc__law_f.nd rfl (by first | exact Or.inl rfl | exact Or.inr rfl) (de_op op_mulAll opd_mul (de_call c__law_gcd_2 (by rfl) (da_cons (dv 0) (da_cons (dv 1) da_nil))) (de_ifExp (dt_cmp op_gt opd_gt (dv 1) de_int (nomark _)) de_int (de_op op_sub opd_sub de_int de_int))))
    (dss_one (ds_ret (de_tup (da_cons (de_op op_fdivV opd_fdiv (dv 0) (dv 2)) (da_cons (de_op op_fdivV opd_fdiv (dv 1) (dv 2)) da_nil))))))
/-! ### _law_plus(one, other): 0 one 1 other -/
abbrev s__law_plus : Stmt := topS 29
theorem sc__law_plus : FnScope ["one", "other"] ["one", "other"] (defScope s__law_plus) := ⟨rfl, rfl, rfl, by decide +kernel, rfl, by decide +kernel, by decide +kernel⟩
def b__law_plus (sp__law_f : DSp) : DTS :=
    (dRet (dCall sp__law_f [] (dCons (dOp pAdd (dOp pMul (dOp pIx (dVar 0) (dC (.int 0))) (dOp pIx (dVar 1) (dC (.int 1)))) (dOp pMul (dOp pIx (dVar 1) (dC (.int 0))) (dOp pIx (dVar 0) (dC (.int 1))))) (dCons (dOp pMul (dOp pIx (dVar 0) (dC (.int 1))) (dOp pIx (dVar 1) (dC (.int 1)))) dNil))))
theorem d__law_plus {P : Program} {w : World} {K : PySem.W.Frag} {mg : Str → Option Value} {base : Heap} {f : Addr} {cdv : Value} {A : Around} {outer : List Env} {s : Shared} {H : Hp} {E : XK} {sp__law_f : DSp} (c__law_f_2 : Can P w K mg base (A.deeper (envOfC "_law_plus" (defScope s__law_plus) s.heap.objs.size f cdv)) "_law_f" [] sp__law_f) :
    DSs (cxOf CX0 P w K mg base ["one", "other"] "_law_plus" (defScope s__law_plus) f cdv A outer s H E).nox (defBody s__law_plus) (b__law_plus sp__law_f) :=
    (dss_one (ds_ret (de_call c__law_f_2 (by rfl) (da_cons (de_op op_addAll opd_add (de_op op_mulAll opd_mul (de_ix (dv 0) de_int (fun _ _ => rfl)) (de_ix (dv 1) de_int (fun _ _ => rfl))) (de_op op_mulAll opd_mul (de_ix (dv 1) de_int (fun _ _ => rfl)) (de_ix (dv 0) de_int (fun _ _ => rfl)))) (da_cons (de_op op_mulAll opd_mul (de_ix (dv 0) de_int (fun _ _ => rfl)) (de_ix (dv 1) de_int (fun _ _ => rfl))) da_nil)))))
/-! ### _law_times(one, other): 0 one 1 other -/
abbrev s__law_times : Stmt := topS 30
theorem sc__law_times : FnScope ["one", "other"] ["one", "other"] (defScope s__law_times) := ⟨rfl, rfl, rfl, by decide +kernel, rfl, by decide +kernel, by decide +kernel⟩
def b__law_times (sp__law_f : DSp) : DTS :=
    (dRet (dCall sp__law_f [] (dCons (dOp pMul (dOp pIx (dVar 0) (dC (.int 0))) (dOp pIx (dVar 1) (dC (.int 0)))) (dCons (dOp pMul (dOp pIx (dVar 0) (dC (.int 1))) (dOp pIx (dVar 1) (dC (.int 1)))) dNil))))
theorem d__law_times {P : Program} {w : World} {K : PySem.W.Frag} {mg : Str → Option Value} {base : Heap} {f : Addr} {cdv : Value} {A : Around} {outer : List Env} {s : Shared} {H : Hp} {E : XK} {sp__law_f : DSp} (c__law_f_2 : Can P w K mg base (A.deeper (envOfC "_law_times" (defScope s__law_times) s.heap.objs.size f cdv)) "_law_f" [] sp__law_f) :
    DSs (cxOf CX0 P w K mg base ["one", "other"] "_law_times" (defScope s__law_times) f cdv A outer s H E).nox (defBody s__law_times) (b__law_times sp__law_f) :=
    (dss_one (ds_ret (de_call c__law_f_2 (by rfl) (da_cons (de_op op_mulAll opd_mul (de_ix (dv 0) de_int (fun _ _ => rfl)) (de_ix (dv 1) de_int (fun _ _ => rfl))) (da_cons (de_op op_mulAll opd_mul (de_ix (dv 0) de_int (fun _ _ => rfl)) (de_ix (dv 1) de_int (fun _ _ => rfl))) da_nil)))))
/-! ### _law_over(one, other): 0 one 1 other -/
abbrev s__law_over : Stmt := topS 31
theorem sc__law_over : FnScope ["one", "other"] ["one", "other"] (defScope s__law_over) := ⟨rfl, rfl, rfl, by decide +kernel, rfl, by decide +kernel, by decide +kernel⟩
def b__law_over (sp__law_f : DSp) : DTS :=
    (dRet (dCall sp__law_f [] (dCons (dOp pMul (dOp pIx (dVar 0) (dC (.int 0))) (dOp pIx (dVar 1) (dC (.int 1)))) (dCons (dOp pMul (dOp pIx (dVar 0) (dC (.int 1))) (dOp pIx (dVar 1) (dC (.int 0)))) dNil))))
theorem d__law_over {P : Program} {w : World} {K : PySem.W.Frag} {mg : Str → Option Value} {base : Heap} {f : Addr} {cdv : Value} {A : Around} {outer : List Env} {s : Shared} {H : Hp} {E : XK} {sp__law_f : DSp} (c__law_f_2 : Can P w K mg base (A.deeper (envOfC "_law_over" (defScope s__law_over) s.heap.objs.size f cdv)) "_law_f" [] sp__law_f) :
    DSs (cxOf CX0 P w K mg base ["one", "other"] "_law_over" (defScope s__law_over) f cdv A outer s H E).nox (defBody s__law_over) (b__law_over sp__law_f) :=
    (dss_one (ds_ret (de_call c__law_f_2 (by rfl) (da_cons (de_op op_mulAll opd_mul (de_ix (dv 0) de_int (fun _ _ => rfl)) (de_ix (dv 1) de_int (fun _ _ => rfl))) (da_cons (de_op op_mulAll opd_mul (de_ix (dv 0) de_int (fun _ _ => rfl)) (de_ix (dv 1) de_int (fun _ _ => rfl))) da_nil)))))
/-! ### _law_less(one, other): 0 one 1 other -/
abbrev s__law_less : Stmt := topS 32
theorem sc__law_less : FnScope ["one", "other"] ["one", "other"] (defScope s__law_less) := ⟨rfl, rfl, rfl, by decide +kernel, rfl, by decide +kernel, by decide +kernel⟩
def b__law_less (sp__law_f : DSp) : DTS :=
    (dRet (dCall sp__law_f [] (dCons (dOp pSub (dOp pMul (dOp pIx (dVar 0) (dC (.int 0))) (dOp pIx (dVar 1) (dC (.int 1)))) (dOp pMul (dOp pIx (dVar 1) (dC (.int 0))) (dOp pIx (dVar 0) (dC (.int 1))))) (dCons (dOp pMul (dOp pIx (dVar 0) (dC (.int 1))) (dOp pIx (dVar 1) (dC (.int 1)))) dNil))))
theorem d__law_less {P : Program} {w : World} {K : PySem.W.Frag} {mg : Str → Option Value} {base : Heap} {f : Addr} {cdv : Value} {A : Around} {outer : List Env} {s : Shared} {H : Hp} {E : XK} {sp__law_f : DSp} (c__law_f_2 : Can P w K mg base (A.deeper (envOfC "_law_less" (defScope s__law_less) s.heap.objs.size f cdv)) "_law_f" [] sp__law_f) :
    DSs (cxOf CX0 P w K mg base ["one", "other"] "_law_less" (defScope s__law_less) f cdv A outer s H E).nox (defBody s__law_less) (b__law_less sp__law_f) :=
    (dss_one (ds_ret (de_call c__law_f_2 (by rfl) (da_cons (de_op op_sub opd_sub (de_op op_mulAll opd_mul (de_ix (dv 0) de_int (fun _ _ => rfl)) (de_ix (dv 1) de_int (fun _ _ => rfl))) (de_op op_mulAll opd_mul (de_ix (dv 1) de_int (fun _ _ => rfl)) (de_ix (dv 0) de_int (fun _ _ => rfl)))) (da_cons (de_op op_mulAll opd_mul (de_ix (dv 0) de_int (fun _ _ => rfl)) (de_ix (dv 1) de_int (fun _ _ => rfl))) da_nil)))))
/-! ### _law_fraction(heap, most): 0 heap 1 most 2 top -/
abbrev s__law_fraction : Stmt := topS 33
theorem sc__law_fraction : FnScope ["heap", "most", "top"] ["heap", "most"] (defScope s__law_fraction) := ⟨rfl, rfl, rfl, by decide +kernel, rfl, by decide +kernel, by decide +kernel⟩
def b__law_fraction (sp__law_draw : DSp) (sp__law_f : DSp) (sp__law_pick : DSp) : DTS :=
    (dSeq (dAsg (dOp pAdd (dC (.int 1)) (dCall sp__law_draw [] (dCons (dVar 0) (dCons (dVar 1) dNil)))) (gN 2))
    (dRet (dCall sp__law_f [] (dCons (dOp pMul (dVar 2) (dCall sp__law_pick [] (dCons (dVar 0) (dCons (dLst (dCons (dC (.int 1)) (dCons (dC (.int 1)) (dCons (dOp pSub (dC (.int 0)) (dC (.int 1))) dNil)))) dNil)))) (dCons (dCall sp__law_pick [] (dCons (dVar 0) (dCons (dLst (dCons (dC (.int 1)) (dCons (dC (.int 1)) (dCons (dC (.int 1)) (dCons (dC (.int 2)) (dCons (dC (.int 3)) (dCons (dOp pAdd (dC (.int 1)) (dCall sp__law_draw [] (dCons (dVar 0) (dCons (dVar 1) dNil)))) dNil))))))) dNil))) dNil)))))
theorem d__law_fraction {P : Program} {w : World} {K : PySem.W.Frag} {mg : Str → Option Value} {base : Heap} {f : Addr} {cdv : Value} {A : Around} {outer : List Env} {s : Shared} {H : Hp} {E : XK} {sp__law_draw : DSp} {sp__law_f : DSp} {sp__law_pick : DSp} (c__law_draw_2 : Can P w K mg base (A.deeper (envOfC "_law_fraction" (defScope s__law_fraction) s.heap.objs.size f cdv)) "_law_draw" [] sp__law_draw) (c__law_f_2 : Can P w K mg base (A.deeper (envOfC "_law_fraction" (defScope s__law_fraction) s.heap.objs.size f cdv)) "_law_f" [] sp__law_f) (c__law_pick_2 : Can P w K mg base (A.deeper (envOfC "_law_fraction" (defScope s__law_fraction) s.heap.objs.size f cdv)) "_law_pick" [] sp__law_pick) :
    DSs (cxOf CX0 P w K mg base ["heap", "most", "top"] "_law_fraction" (defScope s__law_fraction) f cdv A outer s H E).nox (defBody s__law_fraction) (b__law_fraction sp__law_draw sp__law_f sp__law_pick) :=
    (dss_cons (ds_set (i := 2) sc__law_fraction.nd rfl (by first | exact Or.inl rfl | exact Or.inr rfl) (de_op op_addAll opd_add de_int (de_call c__law_draw_2 (by rfl) (da_cons (dv 0) (da_cons (dv 1) da_nil)))))
    (dss_one (ds_ret (de_call c__law_f_2 (by rfl) (da_cons (de_op op_mulAll opd_mul (dv 2) (de_call c__law_pick_2 (by rfl) (da_cons (dv 0) (da_cons (de_lst (da_cons de_int (da_cons de_int (da_cons (de_op op_sub opd_sub de_int de_int) da_nil)))) da_nil)))) (da_cons (de_call c__law_pick_2 (by rfl) (da_cons (dv 0) (da_cons (de_lst (da_cons de_int (da_cons de_int (da_cons de_int (da_cons de_int (da_cons de_int (da_cons (de_op op_addAll opd_add de_int (de_call c__law_draw_2 (by rfl) (da_cons (dv 0) (da_cons (dv 1) da_nil)))) da_nil))))))) da_nil))) da_nil))))))
/-! ### _law_cut(row): 0 row 1 turn -/
abbrev s__law_cut : Stmt := topS 34
theorem sc__law_cut : FnScope ["row", "turn"] ["row"] (defScope s__law_cut) := ⟨rfl, rfl, rfl, by decide +kernel, rfl, by decide +kernel, by decide +kernel⟩
def b__law_cut : DTS :=
    (dSeq (dAsg (dCB pList (dCons (dVar 0) dNil)) (gN 0))
    (dSeq (dFor (iRng (dCons (dCB pLen (dCons (dVar 0) dNil)) dNil)) (gN 1) (dIf (dAnd (dTest (dOp pNe (dVar 0) (dLst dNil))) (dTest (dOp pEq (dOp pIx (dOp pIx (dVar 0) (dUn pNeg (dC (.int 1)))) (dC (.int 0))) (dC (.int 0))))) (dDrop (dBM tyL pPop (dVar 0) dNil)) dNext))
    (dRet (dCB pTuple (dCons (dVar 0) dNil)))))
theorem d__law_cut {P : Program} {w : World} {K : PySem.W.Frag} {mg : Str → Option Value} {base : Heap} {f : Addr} {cdv : Value} {A : Around} {outer : List Env} {s : Shared} {H : Hp} {E : XK} (n_list : mg "list" = none) (n_range : mg "range" = none) (n_len : mg "len" = none) (n_tuple : mg "tuple" = none) (hu : (A.deeper (envOfC "_law_cut" (defScope s__law_cut) s.heap.objs.size f cdv)).units + 64 < cLine) :
    DSs (cxOf CX0 P w K mg base ["row", "turn"] "_law_cut" (defScope s__law_cut) f cdv A outer s H E).nox (defBody s__law_cut) (b__law_cut) :=
    (dss_cons (ds_set (i := 0) sc__law_cut.nd rfl (by first | exact Or.inl rfl | exact Or.inr rfl) (de_callTy call_list_of cd_list (by rfl) n_list (by decide +kernel) (da_cons (dv 0) da_nil)))
    (dss_cons (ds_for PassesOwn.never rfl (di_range1 (by rfl) n_range (de_callB cr_len cd_len (by rfl) n_len (by decide +kernel) (da_cons (dv 0) da_nil))) (dg_name (i := 1) sc__law_cut.nd rfl (by first | exact Or.inl rfl | exact Or.inr rfl)) (dss_one (ds_if (DW.dt (dw_and (dt_cmp (op_neAll hu) opd_ne (dv 0) (de_lst da_nil) (nomark _)) (dw_and1 (dt_cmp (op_eqAll hu) opd_eq (de_ix (de_ix (dv 0) (de_un un_neg und_neg de_int) (fun _ _ => rfl)) de_int (fun _ _ => rfl)) de_int (nomark _))))) (dss_one (ds_expr (de_bm0 PySem.F.plainAttrs_list PySem.F.slot_list_pop PySem.F.type_list_pop mt_pop md_pop (dv 0)))) dss_nil)))
    (dss_one (ds_ret (de_callTy call_tuple_of cd_tuple (by rfl) n_tuple (by decide +kernel) (da_cons (dv 0) da_nil))))))
/-! ### _law_poly(heap, many, most): 0 heap 1 many 2 most 3 row 4 at -/
abbrev s__law_poly : Stmt := topS 35
theorem sc__law_poly : FnScope ["heap", "many", "most", "row", "at"] ["heap", "many", "most"] (defScope s__law_poly) := ⟨rfl, rfl, rfl, by decide +kernel, rfl, by decide +kernel, by decide +kernel⟩
def b__law_poly (sp__law_draw : DSp) (sp__law_pick : DSp) (sp__law_fraction : DSp) (sp__law_cut : DSp) : DTS :=
    (dSeq (dAsg (dLc (iRng (dCons (dCall sp__law_draw [] (dCons (dVar 0) (dCons (dOp pAdd (dVar 1) (dC (.int 1))) dNil))) dNil)) (gN 4) dYes (dCall sp__law_pick [] (dCons (dVar 0) (dCons (dLst (dCons (dTup (dCons (dC (.int 0)) (dCons (dC (.int 1)) dNil))) (dCons (dCall sp__law_fraction [] (dCons (dVar 0) (dCons (dVar 2) dNil))) (dCons (dCall sp__law_fraction [] (dCons (dVar 0) (dCons (dVar 2) dNil))) dNil)))) dNil))) [4]) (gN 3))
    (dRet (dCall sp__law_cut [] (dCons (dVar 3) dNil))))
theorem d__law_poly {P : Program} {w : World} {K : PySem.W.Frag} {mg : Str → Option Value} {base : Heap} {f : Addr} {cdv : Value} {A : Around} {outer : List Env} {s : Shared} {H : Hp} {E : XK} {sp__law_draw : DSp} {sp__law_pick : DSp} {sp__law_fraction : DSp} {sp__law_cut : DSp} (c__law_draw_2 : Can P w K mg base (A.deeper (envOfC "_law_poly" (defScope s__law_poly) s.heap.objs.size f cdv)) "_law_draw" [] sp__law_draw) (c__law_pick_2 : Can P w K mg base (A.deeper (envOfC "_law_poly" (defScope s__law_poly) s.heap.objs.size f cdv)) "_law_pick" [] sp__law_pick) (c__law_fraction_2 : Can P w K mg base (A.deeper (envOfC "_law_poly" (defScope s__law_poly) s.heap.objs.size f cdv)) "_law_fraction" [] sp__law_fraction) (c__law_cut_1 : Can P w K mg base (A.deeper (envOfC "_law_poly" (defScope s__law_poly) s.heap.objs.size f cdv)) "_law_cut" [] sp__law_cut) (n_range : mg "range" = none) :
    DSs (cxOf CX0 P w K mg base ["heap", "many", "most", "row", "at"] "_law_poly" (defScope s__law_poly) f cdv A outer s H E).nox (defBody s__law_poly) (b__law_poly sp__law_draw sp__law_pick sp__law_fraction sp__law_cut) :=
    (dss_cons (ds_setLc (i := 3) rfl sc__law_poly.nd rfl rfl (sw_true rfl rfl rfl (by decide +kernel)) (di_range1 (by rfl) n_range (de_call c__law_draw_2 (by rfl) (da_cons (dv 0) (da_cons (de_op op_addAll opd_add (dv 1) de_int) da_nil)))) (own := [("at", 4)]) (by exact blkOk_by (N := ["heap", "many", "most", "row", "at"]) (sc := defScope s__law_poly) (by first | decide +kernel | rfl)) (fun _ _ _ _ _ => (dgc_name (i := 4) (by decide) sc__law_poly.nd rfl (by first | exact Or.inl rfl | exact Or.inr rfl))) (fun _ _ _ _ _ => dts_nil) (fun _ _ _ _ _ => (de_call c__law_pick_2 (by rfl) (da_cons (dv 0) (da_cons (de_lst (da_cons (de_tup (da_cons de_int (da_cons de_int da_nil))) (da_cons (de_call c__law_fraction_2 (by rfl) (da_cons (dv 0) (da_cons (dv 2) da_nil))) (da_cons (de_call c__law_fraction_2 (by rfl) (da_cons (dv 0) (da_cons (dv 2) da_nil))) da_nil)))) da_nil)))))
    (dss_one (ds_ret (de_call c__law_cut_1 (by rfl) (da_cons (dv 3) da_nil)))))
/-! ### _law_sum_of(one, other, by): 0 one 1 other 2 by 3 row 4 at 5 first 6 second -/
abbrev s__law_sum_of : Stmt := topS 36
theorem sc__law_sum_of : FnScope ["one", "other", "by", "row", "at", "first", "second"] ["one", "other", "by"] (defScope s__law_sum_of) := ⟨rfl, rfl, rfl, by decide +kernel, rfl, by decide +kernel, by decide +kernel⟩
def b__law_sum_of (sp__law_plus : DSp) (sp__law_times : DSp) (sp__law_cut : DSp) : DTS :=
    (dSeq (dAsg (dLst dNil) (gN 3))
    (dSeq (dFor (iRng (dCons (dCB pMax2 (dCons (dCB pLen (dCons (dVar 0) dNil)) (dCons (dCB pLen (dCons (dVar 1) dNil)) dNil))) dNil)) (gN 4) (dSeq (dPar 5 6 (dCons (dIfE (dTest (dOp pLt (dVar 4) (dCB pLen (dCons (dVar 0) dNil)))) (dOp pIx (dVar 0) (dVar 4)) (dTup (dCons (dC (.int 0)) (dCons (dC (.int 1)) dNil)))) (dCons (dIfE (dTest (dOp pLt (dVar 4) (dCB pLen (dCons (dVar 1) dNil)))) (dOp pIx (dVar 1) (dVar 4)) (dTup (dCons (dC (.int 0)) (dCons (dC (.int 1)) dNil)))) dNil)))
    (dDrop (dBM tyL pAppend (dVar 3) (dCons (dCall sp__law_plus [] (dCons (dVar 5) (dCons (dCall sp__law_times [] (dCons (dVar 6) (dCons (dVar 2) dNil))) dNil))) dNil)))))
    (dRet (dCall sp__law_cut [] (dCons (dVar 3) dNil)))))
theorem d__law_sum_of {P : Program} {w : World} {K : PySem.W.Frag} {mg : Str → Option Value} {base : Heap} {f : Addr} {cdv : Value} {A : Around} {outer : List Env} {s : Shared} {H : Hp} {E : XK} {sp__law_plus : DSp} {sp__law_times : DSp} {sp__law_cut : DSp} (c__law_plus_2 : Can P w K mg base (A.deeper (envOfC "_law_sum_of" (defScope s__law_sum_of) s.heap.objs.size f cdv)) "_law_plus" [] sp__law_plus) (c__law_times_2 : Can P w K mg base (A.deeper (envOfC "_law_sum_of" (defScope s__law_sum_of) s.heap.objs.size f cdv)) "_law_times" [] sp__law_times) (c__law_cut_1 : Can P w K mg base (A.deeper (envOfC "_law_sum_of" (defScope s__law_sum_of) s.heap.objs.size f cdv)) "_law_cut" [] sp__law_cut) (n_range : mg "range" = none) (n_max : mg "max" = none) (n_len : mg "len" = none) :
    DSs (cxOf CX0 P w K mg base ["one", "other", "by", "row", "at", "first", "second"] "_law_sum_of" (defScope s__law_sum_of) f cdv A outer s H E).nox (defBody s__law_sum_of) (b__law_sum_of sp__law_plus sp__law_times sp__law_cut) :=
    (dss_cons (ds_set (i := 3) sc__law_sum_of.nd rfl (by first | exact Or.inl rfl | exact Or.inr rfl) (de_lst da_nil))
    (dss_cons (ds_for PassesOwn.never rfl (di_range1 (by rfl) n_range (de_callB (call_max2 rfl) cd_max2 (by rfl) n_max (by decide +kernel) (da_cons (de_callB cr_len cd_len (by rfl) n_len (by decide +kernel) (da_cons (dv 0) da_nil)) (da_cons (de_callB cr_len cd_len (by rfl) n_len (by decide +kernel) (da_cons (dv 1) da_nil)) da_nil)))) (dg_name (i := 4) sc__law_sum_of.nd rfl (by first | exact Or.inl rfl | exact Or.inr rfl)) (dss_cons (ds_par (i := 5) (j := 6) rfl sc__law_sum_of.nd rfl rfl (by decide) rfl rfl (da_cons (de_ifExp (dt_cmp op_lt opd_lt (dv 4) (de_callB cr_len cd_len (by rfl) n_len (by decide +kernel) (da_cons (dv 0) da_nil)) (nomark _)) (de_ix (dv 0) (dv 4) (fun _ _ => rfl)) (de_tup (da_cons de_int (da_cons de_int da_nil)))) (da_cons (de_ifExp (dt_cmp op_lt opd_lt (dv 4) (de_callB cr_len cd_len (by rfl) n_len (by decide +kernel) (da_cons (dv 1) da_nil)) (nomark _)) (de_ix (dv 1) (dv 4) (fun _ _ => rfl)) (de_tup (da_cons de_int (da_cons de_int da_nil)))) da_nil)) (by rfl))
    (dss_one (ds_expr (de_bm PySem.F.plainAttrs_list PySem.F.slot_list_append PySem.F.type_list_append mt_append md_append (dv 3) (da_cons (de_call c__law_plus_2 (by rfl) (da_cons (dv 5) (da_cons (de_call c__law_times_2 (by rfl) (da_cons (dv 6) (da_cons (dv 2) da_nil))) da_nil))) da_nil))))))
    (dss_one (ds_ret (de_call c__law_cut_1 (by rfl) (da_cons (dv 3) da_nil))))))
/-! ### _law_product_of(one, other): 0 one 1 other 2 row 3 at 4 to -/
abbrev s__law_product_of : Stmt := topS 37
theorem sc__law_product_of : FnScope ["one", "other", "row", "at", "to"] ["one", "other"] (defScope s__law_product_of) := ⟨rfl, rfl, rfl, by decide +kernel, rfl, by decide +kernel, by decide +kernel⟩
def b__law_product_of (sp__law_plus : DSp) (sp__law_times : DSp) (sp__law_cut : DSp) : DTS :=
    (dSeq (dAsg (dOp pMul (dLst (dCons (dTup (dCons (dC (.int 0)) (dCons (dC (.int 1)) dNil))) dNil)) (dCB pMax2 (dCons (dC (.int 0)) (dCons (dOp pSub (dOp pAdd (dCB pLen (dCons (dVar 0) dNil)) (dCB pLen (dCons (dVar 1) dNil))) (dC (.int 1))) dNil)))) (gN 2))
    (dSeq (dFor (iRng (dCons (dCB pLen (dCons (dVar 0) dNil)) dNil)) (gN 3) (dFor (iRng (dCons (dCB pLen (dCons (dVar 1) dNil)) dNil)) (gN 4) (dAsg (dCall sp__law_plus [] (dCons (dOp pIx (dVar 2) (dOp pAdd (dVar 3) (dVar 4))) (dCons (dCall sp__law_times [] (dCons (dOp pIx (dVar 0) (dVar 3)) (dCons (dOp pIx (dVar 1) (dVar 4)) dNil))) dNil))) (gSubL (dVar 2) (dOp pAdd (dVar 3) (dVar 4))))))
    (dRet (dCall sp__law_cut [] (dCons (dVar 2) dNil)))))
theorem d__law_product_of {P : Program} {w : World} {K : PySem.W.Frag} {mg : Str → Option Value} {base : Heap} {f : Addr} {cdv : Value} {A : Around} {outer : List Env} {s : Shared} {H : Hp} {E : XK} {sp__law_plus : DSp} {sp__law_times : DSp} {sp__law_cut : DSp} (c__law_plus_2 : Can P w K mg base (A.deeper (envOfC "_law_product_of" (defScope s__law_product_of) s.heap.objs.size f cdv)) "_law_plus" [] sp__law_plus) (c__law_times_2 : Can P w K mg base (A.deeper (envOfC "_law_product_of" (defScope s__law_product_of) s.heap.objs.size f cdv)) "_law_times" [] sp__law_times) (c__law_cut_1 : Can P w K mg base (A.deeper (envOfC "_law_product_of" (defScope s__law_product_of) s.heap.objs.size f cdv)) "_law_cut" [] sp__law_cut) (n_max : mg "max" = none) (n_len : mg "len" = none) (n_range : mg "range" = none) :
    DSs (cxOf CX0 P w K mg base ["one", "other", "row", "at", "to"] "_law_product_of" (defScope s__law_product_of) f cdv A outer s H E).nox (defBody s__law_product_of) (b__law_product_of sp__law_plus sp__law_times sp__law_cut) :=
    (dss_cons (ds_set (i := 2) sc__law_product_of.nd rfl (by first | exact Or.inl rfl | exact Or.inr rfl) (de_op op_mulAll opd_mul (de_lst (da_cons (de_tup (da_cons de_int (da_cons de_int da_nil))) da_nil)) (de_callB (call_max2 rfl) cd_max2 (by rfl) n_max (by decide +kernel) (da_cons de_int (da_cons (de_op op_sub opd_sub (de_op op_addAll opd_add (de_callB cr_len cd_len (by rfl) n_len (by decide +kernel) (da_cons (dv 0) da_nil)) (de_callB cr_len cd_len (by rfl) n_len (by decide +kernel) (da_cons (dv 1) da_nil))) de_int) da_nil)))))
    (dss_cons (ds_for PassesOwn.never rfl (di_range1 (by rfl) n_range (de_callB cr_len cd_len (by rfl) n_len (by decide +kernel) (da_cons (dv 0) da_nil))) (dg_name (i := 3) sc__law_product_of.nd rfl (by first | exact Or.inl rfl | exact Or.inr rfl)) (dss_one (ds_for PassesOwn.never rfl (di_range1 (by rfl) n_range (de_callB cr_len cd_len (by rfl) n_len (by decide +kernel) (da_cons (dv 1) da_nil))) (dg_name (i := 4) sc__law_product_of.nd rfl (by first | exact Or.inl rfl | exact Or.inr rfl)) (dss_one (ds_asg (de_call c__law_plus_2 (by rfl) (da_cons (de_ix (dv 2) (de_op op_addAll opd_add (dv 3) (dv 4)) (fun _ _ => rfl)) (da_cons (de_call c__law_times_2 (by rfl) (da_cons (de_ix (dv 0) (dv 3) (fun _ _ => rfl)) (da_cons (de_ix (dv 1) (dv 4) (fun _ _ => rfl)) da_nil))) da_nil))) (dg_subL (dv 2) (de_op op_addAll opd_add (dv 3) (dv 4))))))))
    (dss_one (ds_ret (de_call c__law_cut_1 (by rfl) (da_cons (dv 2) da_nil))))))
/-! ### _law_at(one, place): 0 one 1 place 2 found 3 power 4 item -/
abbrev s__law_at : Stmt := topS 38
theorem sc__law_at : FnScope ["one", "place", "found", "power", "item"] ["one", "place"] (defScope s__law_at) := ⟨rfl, rfl, rfl, by decide +kernel, rfl, by decide +kernel, by decide +kernel⟩
def b__law_at (sp__law_times : DSp) (sp__law_plus : DSp) : DTS :=
    (dSeq (dAsg (dTup (dCons (dTup (dCons (dC (.int 0)) (dCons (dC (.int 1)) dNil))) (dCons (dTup (dCons (dC (.int 1)) (dCons (dC (.int 1)) dNil))) dNil))) (gTp 2 (gNc (gN 2) (gNc (gN 3) gN0))))
    (dSeq (dFor (iSeqD (dVar 0)) (gN 4) (dPar 2 3 (dCons (dCall sp__law_plus [] (dCons (dVar 2) (dCons (dCall sp__law_times [] (dCons (dVar 4) (dCons (dVar 3) dNil))) dNil))) (dCons (dCall sp__law_times [] (dCons (dVar 3) (dCons (dVar 1) dNil))) dNil))))
    (dRet (dVar 2))))
theorem d__law_at {P : Program} {w : World} {K : PySem.W.Frag} {mg : Str → Option Value} {base : Heap} {f : Addr} {cdv : Value} {A : Around} {outer : List Env} {s : Shared} {H : Hp} {E : XK} {sp__law_times : DSp} {sp__law_plus : DSp} (c__law_times_2 : Can P w K mg base (A.deeper (envOfC "_law_at" (defScope s__law_at) s.heap.objs.size f cdv)) "_law_times" [] sp__law_times) (c__law_plus_2 : Can P w K mg base (A.deeper (envOfC "_law_at" (defScope s__law_at) s.heap.objs.size f cdv)) "_law_plus" [] sp__law_plus) :
    DSs (cxOf CX0 P w K mg base ["one", "place", "found", "power", "item"] "_law_at" (defScope s__law_at) f cdv A outer s H E).nox (defBody s__law_at) (b__law_at sp__law_times sp__law_plus) :=
    (dss_cons (ds_asg (de_tup (da_cons (de_tup (da_cons de_int (da_cons de_int da_nil))) (da_cons (de_tup (da_cons de_int (da_cons de_int da_nil))) da_nil))) (dg_tup rfl (dgs_cons (dg_name (i := 2) sc__law_at.nd rfl (by first | exact Or.inl rfl | exact Or.inr rfl)) (dgs_cons (dg_name (i := 3) sc__law_at.nd rfl (by first | exact Or.inl rfl | exact Or.inr rfl)) dgs_nil))))
    (dss_cons (ds_for PassesOwn.never rfl (di_seq (dv 0)) (dg_name (i := 4) sc__law_at.nd rfl (by first | exact Or.inl rfl | exact Or.inr rfl)) (dss_one (ds_par (i := 2) (j := 3) rfl sc__law_at.nd rfl rfl (by decide) rfl rfl (da_cons (de_call c__law_plus_2 (by rfl) (da_cons (dv 2) (da_cons (de_call c__law_times_2 (by rfl) (da_cons (dv 4) (da_cons (dv 3) da_nil))) da_nil))) (da_cons (de_call c__law_times_2 (by rfl) (da_cons (dv 3) (da_cons (dv 1) da_nil))) da_nil)) (by rfl))))
    (dss_one (ds_ret (dv 2)))))
/-! ### _law_pair_right(heap, one, other, place, by): 0 heap 1 one 2 other 3 place 4 by 5 slope 6 at 7 due -/
abbrev s__law_pair_right : Stmt := topS 39
theorem sc__law_pair_right : FnScope ["heap", "one", "other", "place", "by", "slope", "at", "due"] ["heap", "one", "other", "place", "by"] (defScope s__law_pair_right) := ⟨rfl, rfl, rfl, by decide +kernel, rfl, by decide +kernel, by decide +kernel⟩
def b__law_pair_right (sp__law_same : DSp) (sp__law_sum_of : DSp) (sp__law_product_of : DSp) (sp_poly_scaled : DSp) (sp_poly_timed : DSp) (sp_poly_added : DSp) (sp__law_cut : DSp) (sp__law_times : DSp) (sp__law_at : DSp) (sp_poly_at : DSp) (sp_poly_slope : DSp) (sp__law_plus : DSp) (sp__law_over : DSp) (sp_poly_sum : DSp) (sp__law_less : DSp) : DTS :=
    (dSeq (dIf (dNot (dTest (dCall sp__law_same [] (dCons (dTup (dCons (dCall sp_poly_added [] (dCons (dVar 1) (dCons (dVar 2) dNil))) (dCons (dCall sp_poly_timed [] (dCons (dVar 1) (dCons (dVar 2) dNil))) (dCons (dCall sp_poly_scaled [] (dCons (dVar 1) (dCons (dVar 4) dNil))) dNil)))) (dCons (dTup (dCons (dCall sp__law_sum_of [] (dCons (dVar 1) (dCons (dVar 2) (dCons (dTup (dCons (dC (.int 1)) (dCons (dC (.int 1)) dNil))) dNil)))) (dCons (dCall sp__law_product_of [] (dCons (dVar 1) (dCons (dVar 2) dNil))) (dCons (dCall sp__law_sum_of [] (dCons (dTup dNil) (dCons (dVar 1) (dCons (dVar 4) dNil)))) dNil)))) dNil))))) (dRet (dC (.bl false))) dNext)
    (dSeq (dAsg (dCall sp__law_cut [] (dCons (dLc (iRng (dCons (dC (.int 1)) (dCons (dCB pLen (dCons (dVar 1) dNil)) dNil))) (gN 6) dYes (dCall sp__law_times [] (dCons (dOp pIx (dVar 1) (dVar 6)) (dCons (dTup (dCons (dVar 6) (dCons (dC (.int 1)) dNil))) dNil))) [6]) dNil)) (gN 5))
    (dSeq (dIf (dNot (dTest (dCall sp__law_same [] (dCons (dTup (dCons (dCall sp_poly_slope [] (dCons (dVar 1) dNil)) (dCons (dCall sp_poly_at [] (dCons (dVar 1) (dCons (dVar 3) dNil))) dNil))) (dCons (dTup (dCons (dVar 5) (dCons (dCall sp__law_at [] (dCons (dVar 1) (dCons (dVar 3) dNil))) dNil))) dNil))))) (dRet (dC (.bl false))) dNext)
    (dSeq (dAsg (dTup (dCons (dC (.int 0)) (dCons (dC (.int 1)) dNil))) (gN 7))
    (dSeq (dFor (iRng (dCons (dCB pLen (dCons (dVar 1) dNil)) dNil)) (gN 6) (dAsg (dCall sp__law_plus [] (dCons (dVar 7) (dCons (dCall sp__law_over [] (dCons (dOp pIx (dVar 1) (dVar 6)) (dCons (dTup (dCons (dOp pAdd (dVar 6) (dC (.int 1))) (dCons (dC (.int 1)) dNil))) dNil))) dNil))) (gN 7)))
    (dSeq (dIf (dOr (dNot (dTest (dCall sp__law_same [] (dCons (dCall sp_poly_sum [] (dCons (dVar 1) dNil)) (dCons (dVar 7) dNil))))) (dNot (dTest (dCall sp__law_same [] (dCons (dCall sp_poly_sum [] (dCons (dVar 5) dNil)) (dCons (dCall sp__law_less [] (dCons (dCall sp__law_at [] (dCons (dVar 1) (dCons (dTup (dCons (dC (.int 1)) (dCons (dC (.int 1)) dNil))) dNil))) (dCons (dCall sp__law_at [] (dCons (dVar 1) (dCons (dTup (dCons (dC (.int 0)) (dCons (dC (.int 1)) dNil))) dNil))) dNil))) dNil)))))) (dRet (dC (.bl false))) dNext)
    (dRet (dCall sp__law_same [] (dCons (dCall sp_poly_at [] (dCons (dCall sp_poly_timed [] (dCons (dVar 1) (dCons (dVar 2) dNil))) (dCons (dVar 3) dNil))) (dCons (dCall sp__law_times [] (dCons (dCall sp__law_at [] (dCons (dVar 1) (dCons (dVar 3) dNil))) (dCons (dCall sp__law_at [] (dCons (dVar 2) (dCons (dVar 3) dNil))) dNil))) dNil))))))))))
theorem d__law_pair_right {P : Program} {w : World} {K : PySem.W.Frag} {mg : Str → Option Value} {base : Heap} {f : Addr} {cdv : Value} {A : Around} {outer : List Env} {s : Shared} {H : Hp} {E : XK} {sp__law_same : DSp} {sp__law_sum_of : DSp} {sp__law_product_of : DSp} {sp_poly_scaled : DSp} {sp_poly_timed : DSp} {sp_poly_added : DSp} {sp__law_cut : DSp} {sp__law_times : DSp} {sp__law_at : DSp} {sp_poly_at : DSp} {sp_poly_slope : DSp} {sp__law_plus : DSp} {sp__law_over : DSp} {sp_poly_sum : DSp} {sp__law_less : DSp} (c__law_same_2 : Can P w K mg base (A.deeper (envOfC "_law_pair_right" (defScope s__law_pair_right) s.heap.objs.size f cdv)) "_law_same" [] sp__law_same) (c__law_sum_of_3 : Can P w K mg base (A.deeper (envOfC "_law_pair_right" (defScope s__law_pair_right) s.heap.objs.size f cdv)) "_law_sum_of" [] sp__law_sum_of) (c__law_product_of_2 : Can P w K mg base (A.deeper (envOfC "_law_pair_right" (defScope s__law_pair_right) s.heap.objs.size f cdv)) "_law_product_of" [] sp__law_product_of) (c_poly_scaled_2 : Can P w K mg base (A.deeper (envOfC "_law_pair_right" (defScope s__law_pair_right) s.heap.objs.size f cdv)) "poly_scaled" [] sp_poly_scaled) (c_poly_timed_2 : Can P w K mg base (A.deeper (envOfC "_law_pair_right" (defScope s__law_pair_right) s.heap.objs.size f cdv)) "poly_timed" [] sp_poly_timed) (c_poly_added_2 : Can P w K mg base (A.deeper (envOfC "_law_pair_right" (defScope s__law_pair_right) s.heap.objs.size f cdv)) "poly_added" [] sp_poly_added) (c__law_cut_1 : Can P w K mg base (A.deeper (envOfC "_law_pair_right" (defScope s__law_pair_right) s.heap.objs.size f cdv)) "_law_cut" [] sp__law_cut) (c__law_times_2 : Can P w K mg base (A.deeper (envOfC "_law_pair_right" (defScope s__law_pair_right) s.heap.objs.size f cdv)) "_law_times" [] sp__law_times) (c__law_at_2 : Can P w K mg base (A.deeper (envOfC "_law_pair_right" (defScope s__law_pair_right) s.heap.objs.size f cdv)) "_law_at" [] sp__law_at) (c_poly_at_2 : Can P w K mg base (A.deeper (envOfC "_law_pair_right" (defScope s__law_pair_right) s.heap.objs.size f cdv)) "poly_at" [] sp_poly_at) (c_poly_slope_1 : Can P w K mg base (A.deeper (envOfC "_law_pair_right" (defScope s__law_pair_right) s.heap.objs.size f cdv)) "poly_slope" [] sp_poly_slope) (c__law_plus_2 : Can P w K mg base (A.deeper (envOfC "_law_pair_right" (defScope s__law_pair_right) s.heap.objs.size f cdv)) "_law_plus" [] sp__law_plus) (c__law_over_2 : Can P w K mg base (A.deeper (envOfC "_law_pair_right" (defScope s__law_pair_right) s.heap.objs.size f cdv)) "_law_over" [] sp__law_over) (c_poly_sum_1 : Can P w K mg base (A.deeper (envOfC "_law_pair_right" (defScope s__law_pair_right) s.heap.objs.size f cdv)) "poly_sum" [] sp_poly_sum) (c__law_less_2 : Can P w K mg base (A.deeper (envOfC "_law_pair_right" (defScope s__law_pair_right) s.heap.objs.size f cdv)) "_law_less" [] sp__law_less) (n_range : mg "range" = none) (n_len : mg "len" = none) :
    DSs (cxOf CX0 P w K mg base ["heap", "one", "other", "place", "by", "slope", "at", "due"] "_law_pair_right" (defScope s__law_pair_right) f cdv A outer s H E).nox (defBody s__law_pair_right) (b__law_pair_right sp__law_same sp__law_sum_of sp__law_product_of sp_poly_scaled sp_poly_timed sp_poly_added sp__law_cut sp__law_times sp__law_at sp_poly_at sp_poly_slope sp__law_plus sp__law_over sp_poly_sum sp__law_less) :=
    (dss_cons (ds_if (dt_not (dt_val (de_call c__law_same_2 (by rfl) (da_cons (de_tup (da_cons (de_call c_poly_added_2 (by rfl) (da_cons (dv 1) (da_cons (dv 2) da_nil))) (da_cons (de_call c_poly_timed_2 (by rfl) (da_cons (dv 1) (da_cons (dv 2) da_nil))) (da_cons (de_call c_poly_scaled_2 (by rfl) (da_cons (dv 1) (da_cons (dv 4) da_nil))) da_nil)))) (da_cons (de_tup (da_cons (de_call c__law_sum_of_3 (by rfl) (da_cons (dv 1) (da_cons (dv 2) (da_cons (de_tup (da_cons de_int (da_cons de_int da_nil))) da_nil)))) (da_cons (de_call c__law_product_of_2 (by rfl) (da_cons (dv 1) (da_cons (dv 2) da_nil))) (da_cons (de_call c__law_sum_of_3 (by rfl) (da_cons (de_tup da_nil) (da_cons (dv 1) (da_cons (dv 4) da_nil)))) da_nil)))) da_nil))))) (dss_one (ds_ret de_bl)) dss_nil)
    (dss_cons (ds_set (i := 5) sc__law_pair_right.nd rfl (by first | exact Or.inl rfl | exact Or.inr rfl) (de_call c__law_cut_1 (by rfl) (da_cons (de_lc rfl sc__law_pair_right.nd (di_range2 (by rfl) n_range de_int (de_callB cr_len cd_len (by rfl) n_len (by decide +kernel) (da_cons (dv 1) da_nil))) (own := [("at", 6)]) (by exact blkOk_by (N := ["heap", "one", "other", "place", "by", "slope", "at", "due"]) (sc := defScope s__law_pair_right) (by first | decide +kernel | rfl)) (fun _ _ _ _ _ => (dgc_name (i := 6) (by decide) sc__law_pair_right.nd rfl (by first | exact Or.inl rfl | exact Or.inr rfl))) (fun _ _ _ _ _ => dts_nil) (fun _ _ _ _ _ => (de_call c__law_times_2 (by rfl) (da_cons (de_ix (dv 1) (dv 6) (fun _ _ => rfl)) (da_cons (de_tup (da_cons (dv 6) (da_cons de_int da_nil))) da_nil))))) da_nil)))
    (dss_cons (ds_if (dt_not (dt_val (de_call c__law_same_2 (by rfl) (da_cons (de_tup (da_cons (de_call c_poly_slope_1 (by rfl) (da_cons (dv 1) da_nil)) (da_cons (de_call c_poly_at_2 (by rfl) (da_cons (dv 1) (da_cons (dv 3) da_nil))) da_nil))) (da_cons (de_tup (da_cons (dv 5) (da_cons (de_call c__law_at_2 (by rfl) (da_cons (dv 1) (da_cons (dv 3) da_nil))) da_nil))) da_nil))))) (dss_one (ds_ret de_bl)) dss_nil)
    (dss_cons (ds_set (i := 7) sc__law_pair_right.nd rfl (by first | exact Or.inl rfl | exact Or.inr rfl) (de_tup (da_cons de_int (da_cons de_int da_nil))))
    (dss_cons (ds_for PassesOwn.never rfl (di_range1 (by rfl) n_range (de_callB cr_len cd_len (by rfl) n_len (by decide +kernel) (da_cons (dv 1) da_nil))) (dg_name (i := 6) sc__law_pair_right.nd rfl (by first | exact Or.inl rfl | exact Or.inr rfl)) (dss_one (ds_set (i := 7) sc__law_pair_right.nd rfl (by first | exact Or.inl rfl | exact Or.inr rfl) (de_call c__law_plus_2 (by rfl) (da_cons (dv 7) (da_cons (de_call c__law_over_2 (by rfl) (da_cons (de_ix (dv 1) (dv 6) (fun _ _ => rfl)) (da_cons (de_tup (da_cons (de_op op_addAll opd_add (dv 6) de_int) (da_cons de_int da_nil))) da_nil))) da_nil))))))
    (dss_cons (ds_if (DW.dt (dw_or (dt_not (dt_val (de_call c__law_same_2 (by rfl) (da_cons (de_call c_poly_sum_1 (by rfl) (da_cons (dv 1) da_nil)) (da_cons (dv 7) da_nil))))) (dw_or1 (dt_not (dt_val (de_call c__law_same_2 (by rfl) (da_cons (de_call c_poly_sum_1 (by rfl) (da_cons (dv 5) da_nil)) (da_cons (de_call c__law_less_2 (by rfl) (da_cons (de_call c__law_at_2 (by rfl) (da_cons (dv 1) (da_cons (de_tup (da_cons de_int (da_cons de_int da_nil))) da_nil))) (da_cons (de_call c__law_at_2 (by rfl) (da_cons (dv 1) (da_cons (de_tup (da_cons de_int (da_cons de_int da_nil))) da_nil))) da_nil))) da_nil)))))))) (dss_one (ds_ret de_bl)) dss_nil)
    (dss_one (ds_ret (de_call c__law_same_2 (by rfl) (da_cons (de_call c_poly_at_2 (by rfl) (da_cons (de_call c_poly_timed_2 (by rfl) (da_cons (dv 1) (da_cons (dv 2) da_nil))) (da_cons (dv 3) da_nil))) (da_cons (de_call c__law_times_2 (by rfl) (da_cons (de_call c__law_at_2 (by rfl) (da_cons (dv 1) (da_cons (dv 3) da_nil))) (da_cons (de_call c__law_at_2 (by rfl) (da_cons (dv 2) (da_cons (dv 3) da_nil))) da_nil))) da_nil)))))))))))
/-! ### _law_judged(heap, one): 0 heap 1 one 2 odd 3 value -/
abbrev s__law_judged : Stmt := topS 40
theorem sc__law_judged : FnScope ["heap", "one", "odd", "value"] ["heap", "one"] (defScope s__law_judged) := ⟨rfl, rfl, rfl, by decide +kernel, rfl, by decide +kernel, by decide +kernel⟩
def b__law_judged (sp__law_same : DSp) (sp_is_polynomial : DSp) : DTS :=
    (dSeq (dIf (dNot (dTest (dCall sp__law_same [] (dCons (dTup (dCons (dCall sp_is_polynomial [] (dCons (dVar 1) dNil)) (dCons (dCall sp_is_polynomial [] (dCons (dTup dNil) dNil)) (dCons (dCall sp_is_polynomial [] (dCons (dOp pAdd (dVar 1) (dTup (dCons (dTup (dCons (dC (.int 0)) (dCons (dC (.int 1)) dNil))) dNil))) dNil)) dNil)))) (dCons (dTup (dCons (dC (.bl true)) (dCons (dC (.bl true)) (dCons (dC (.bl false)) dNil)))) dNil))))) (dRet (dC (.bl false))) dNext)
    (dSeq (dAsg (dLst (dCons (dC .non) (dCons (dCB pList (dCons (dVar 1) dNil)) (dCons (dC (.str "x")) (dCons (dOp pAdd (dVar 1) (dTup (dCons (dTup (dCons (dC (.int 2)) (dCons (dC (.int 4)) dNil))) dNil))) (dCons (dOp pAdd (dVar 1) (dTup (dCons (dC (.int 1)) dNil))) (dCons (dOp pAdd (dVar 1) (dTup (dCons (dTup (dCons (dC (.int 1)) (dCons (dC (.int 0)) dNil))) dNil))) (dCons (dOp pAdd (dVar 1) (dTup (dCons (dTup (dCons (dC (.bl true)) (dCons (dC (.int 1)) dNil))) dNil))) dNil)))))))) (gN 2))
    (dSeq (dAsg (dOp pAdd (dVar 2) (dLst (dCons (dOp pAdd (dVar 1) (dTup (dCons (dTup (dCons (dC (.int 1)) (dCons (dC (.int 1)) (dCons (dC (.int 1)) dNil)))) dNil))) (dCons (dOp pAdd (dVar 1) (dTup (dCons (dLst (dCons (dC (.int 1)) (dCons (dC (.int 1)) dNil))) dNil))) (dCons (dOp pAdd (dVar 1) (dTup (dCons (dTup (dCons (dC (.int 1)) (dCons (dOp pSub (dC (.int 0)) (dC (.int 1))) dNil))) dNil))) (dCons (dOp pAdd (dVar 1) (dTup (dCons (dC .non) dNil))) (dCons (dC (.int 0)) (dCons (dOp pAdd (dOp pAdd (dTup (dCons (dTup (dCons (dC (.int 0)) (dCons (dC (.int 2)) dNil))) dNil)) (dVar 1)) (dTup (dCons (dTup (dCons (dC (.int 1)) (dCons (dC (.int 1)) dNil))) dNil))) dNil)))))))) (gN 2))
    (dRet (dPure (dCB pAll (dCons (dLc (iSeqD (dVar 2)) (gN 3) dYes (dCall sp__law_same [] (dCons (dCall sp_is_polynomial [] (dCons (dVar 3) dNil)) (dCons (dC (.bl false)) dNil))) [3]) dNil)))))))
theorem d__law_judged {P : Program} {w : World} {K : PySem.W.Frag} {mg : Str → Option Value} {base : Heap} {f : Addr} {cdv : Value} {A : Around} {outer : List Env} {s : Shared} {H : Hp} {E : XK} {sp__law_same : DSp} {sp_is_polynomial : DSp} (c__law_same_2 : Can P w K mg base (A.deeper (envOfC "_law_judged" (defScope s__law_judged) s.heap.objs.size f cdv)) "_law_same" [] sp__law_same) (c_is_polynomial_1 : Can P w K mg base (A.deeper (envOfC "_law_judged" (defScope s__law_judged) s.heap.objs.size f cdv)) "is_polynomial" [] sp_is_polynomial) (n_list : mg "list" = none) (n_all : mg "all" = none) :
    DSs (cxOf CX0 P w K mg base ["heap", "one", "odd", "value"] "_law_judged" (defScope s__law_judged) f cdv A outer s H E).nox (defBody s__law_judged) (b__law_judged sp__law_same sp_is_polynomial) :=
    (dss_cons (ds_if (dt_not (dt_val (de_call c__law_same_2 (by rfl) (da_cons (de_tup (da_cons (de_call c_is_polynomial_1 (by rfl) (da_cons (dv 1) da_nil)) (da_cons (de_call c_is_polynomial_1 (by rfl) (da_cons (de_tup da_nil) da_nil)) (da_cons (de_call c_is_polynomial_1 (by rfl) (da_cons (de_op op_addAll opd_add (dv 1) (de_tup (da_cons (de_tup (da_cons de_int (da_cons de_int da_nil))) da_nil))) da_nil)) da_nil)))) (da_cons (de_tup (da_cons de_bl (da_cons de_bl (da_cons de_bl da_nil)))) da_nil))))) (dss_one (ds_ret de_bl)) dss_nil)
    (dss_cons (ds_set (i := 2) sc__law_judged.nd rfl (by first | exact Or.inl rfl | exact Or.inr rfl) (de_lst (da_cons de_non (da_cons (de_callTy call_list_of cd_list (by rfl) n_list (by decide +kernel) (da_cons (dv 1) da_nil)) (da_cons de_str (da_cons (de_op op_addAll opd_add (dv 1) (de_tup (da_cons (de_tup (da_cons de_int (da_cons de_int da_nil))) da_nil))) (da_cons (de_op op_addAll opd_add (dv 1) (de_tup (da_cons de_int da_nil))) (da_cons (de_op op_addAll opd_add (dv 1) (de_tup (da_cons (de_tup (da_cons de_int (da_cons de_int da_nil))) da_nil))) (da_cons (de_op op_addAll opd_add (dv 1) (de_tup (da_cons (de_tup (da_cons de_bl (da_cons de_int da_nil))) da_nil))) da_nil)))))))))
    (dss_cons (ds_set (i := 2) sc__law_judged.nd rfl (by first | exact Or.inl rfl | exact Or.inr rfl) (de_op op_addAll opd_add (dv 2) (de_lst (da_cons (de_op op_addAll opd_add (dv 1) (de_tup (da_cons (de_tup (da_cons de_int (da_cons de_int (da_cons de_int da_nil)))) da_nil))) (da_cons (de_op op_addAll opd_add (dv 1) (de_tup (da_cons (de_lst (da_cons de_int (da_cons de_int da_nil))) da_nil))) (da_cons (de_op op_addAll opd_add (dv 1) (de_tup (da_cons (de_tup (da_cons de_int (da_cons (de_op op_sub opd_sub de_int de_int) da_nil))) da_nil))) (da_cons (de_op op_addAll opd_add (dv 1) (de_tup (da_cons de_non da_nil))) (da_cons de_int (da_cons (de_op op_addAll opd_add (de_op op_addAll opd_add (de_tup (da_cons (de_tup (da_cons de_int (da_cons de_int da_nil))) da_nil)) (dv 1)) (de_tup (da_cons (de_tup (da_cons de_int (da_cons de_int da_nil))) da_nil))) da_nil)))))))))
    (dss_one (ds_ret (de_pure (de_callB (cr_all rfl) cd_all (by rfl) n_all (by decide +kernel) (da_cons (de_lc rfl sc__law_judged.nd (di_seq (dv 2)) (own := [("value", 3)]) (by exact blkOk_by (N := ["heap", "one", "odd", "value"]) (sc := defScope s__law_judged) (by first | decide +kernel | rfl)) (fun _ _ _ _ _ => (dgc_name (i := 3) (by decide) sc__law_judged.nd rfl (by first | exact Or.inl rfl | exact Or.inr rfl))) (fun _ _ _ _ _ => dts_nil) (fun _ _ _ _ _ => (de_call c__law_same_2 (by rfl) (da_cons (de_call c_is_polynomial_1 (by rfl) (da_cons (dv 3) da_nil)) (da_cons de_bl da_nil))))) da_nil))))))))
/-! ### law(script): 0 script 1 heap 2 turn 3 great 4 one 5 other -/
abbrev s_law : Stmt := topS 41
theorem sc_law : FnScope ["script", "heap", "turn", "great", "one", "other"] ["script"] (defScope s_law) := ⟨rfl, rfl, rfl, by decide +kernel, rfl, by decide +kernel, by decide +kernel⟩
def b_law (sp__law_heap : DSp) (sp__law_draw : DSp) (sp__law_poly : DSp) (sp__law_sum_of : DSp) (sp__law_pair_right : DSp) (sp__law_pick : DSp) (sp__law_fraction : DSp) (sp__law_judged : DSp) : DTS :=
    (dSeq (dAsg (dCall sp__law_heap [] (dCons (dVar 0) dNil)) (gN 1))
    (dSeq (dFor (iRng (dCons (dC (.int 5)) dNil)) (gN 2) (dSeq (dAsg (dAndV (dOp pEq (dVar 2) (dC (.int 4))) (dOrV (dOp pEq (dCB pLen (dCons (dVar 0) dNil)) (dC (.int 0))) (dOp pEq (dCall sp__law_draw [] (dCons (dVar 1) (dCons (dC (.int 4)) dNil))) (dC (.int 0))))) (gN 3))
    (dSeq (dPar 4 5 (dCons (dCall sp__law_poly [] (dCons (dVar 1) (dCons (dIfE (dTest (dVar 3)) (dC (.int 40)) (dC (.int 6))) (dCons (dIfE (dTest (dVar 3)) (dOp pPow (dC (.int 10)) (dC (.int 12))) (dC (.int 20))) dNil)))) (dCons (dCall sp__law_poly [] (dCons (dVar 1) (dCons (dIfE (dTest (dVar 3)) (dC (.int 3)) (dC (.int 6))) (dCons (dC (.int 20)) dNil)))) dNil)))
    (dSeq (dIf (dTest (dOp pEq (dVar 2) (dC (.int 1)))) (dAsg (dCall sp__law_sum_of [] (dCons (dTup dNil) (dCons (dVar 4) (dCons (dTup (dCons (dOp pSub (dC (.int 0)) (dC (.int 1))) (dCons (dC (.int 1)) dNil))) dNil)))) (gN 5)) dNext)
    (dIf (dOr (dNot (dTest (dCall sp__law_pair_right [] (dCons (dVar 1) (dCons (dVar 4) (dCons (dVar 5) (dCons (dCall sp__law_pick [] (dCons (dVar 1) (dCons (dLst (dCons (dTup (dCons (dC (.int 0)) (dCons (dC (.int 1)) dNil))) (dCons (dTup (dCons (dC (.int 1)) (dCons (dC (.int 1)) dNil))) (dCons (dCall sp__law_fraction [] (dCons (dVar 1) (dCons (dC (.int 9)) dNil))) dNil)))) dNil))) (dCons (dCall sp__law_pick [] (dCons (dVar 1) (dCons (dLst (dCons (dTup (dCons (dC (.int 0)) (dCons (dC (.int 1)) dNil))) (dCons (dCall sp__law_fraction [] (dCons (dVar 1) (dCons (dC (.int 9)) dNil))) dNil))) dNil))) dNil)))))))) (dNot (dTest (dCall sp__law_judged [] (dCons (dVar 1) (dCons (dVar 4) dNil)))))) (dRet (dC (.bl false))) dNext)))))
    (dRet (dC (.bl true)))))
theorem d_law {P : Program} {w : World} {K : PySem.W.Frag} {mg : Str → Option Value} {base : Heap} {f : Addr} {cdv : Value} {A : Around} {outer : List Env} {s : Shared} {H : Hp} {E : XK} {sp__law_heap : DSp} {sp__law_draw : DSp} {sp__law_poly : DSp} {sp__law_sum_of : DSp} {sp__law_pair_right : DSp} {sp__law_pick : DSp} {sp__law_fraction : DSp} {sp__law_judged : DSp} (c__law_heap_1 : Can P w K mg base (A.deeper (envOfC "law" (defScope s_law) s.heap.objs.size f cdv)) "_law_heap" [] sp__law_heap) (c__law_draw_2 : Can P w K mg base (A.deeper (envOfC "law" (defScope s_law) s.heap.objs.size f cdv)) "_law_draw" [] sp__law_draw) (c__law_poly_3 : Can P w K mg base (A.deeper (envOfC "law" (defScope s_law) s.heap.objs.size f cdv)) "_law_poly" [] sp__law_poly) (c__law_sum_of_3 : Can P w K mg base (A.deeper (envOfC "law" (defScope s_law) s.heap.objs.size f cdv)) "_law_sum_of" [] sp__law_sum_of) (c__law_pair_right_5 : Can P w K mg base (A.deeper (envOfC "law" (defScope s_law) s.heap.objs.size f cdv)) "_law_pair_right" [] sp__law_pair_right) (c__law_pick_2 : Can P w K mg base (A.deeper (envOfC "law" (defScope s_law) s.heap.objs.size f cdv)) "_law_pick" [] sp__law_pick) (c__law_fraction_2 : Can P w K mg base (A.deeper (envOfC "law" (defScope s_law) s.heap.objs.size f cdv)) "_law_fraction" [] sp__law_fraction) (c__law_judged_2 : Can P w K mg base (A.deeper (envOfC "law" (defScope s_law) s.heap.objs.size f cdv)) "_law_judged" [] sp__law_judged) (n_range : mg "range" = none) (n_len : mg "len" = none) (hu : (A.deeper (envOfC "law" (defScope s_law) s.heap.objs.size f cdv)).units + 64 < cLine) :
    DSs (cxOf CX0 P w K mg base ["script", "heap", "turn", "great", "one", "other"] "law" (defScope s_law) f cdv A outer s H E).nox (defBody s_law) (b_law sp__law_heap sp__law_draw sp__law_poly sp__law_sum_of sp__law_pair_right sp__law_pick sp__law_fraction sp__law_judged) :=
    (dss_cons (ds_set (i := 1) sc_law.nd rfl (by first | exact Or.inl rfl | exact Or.inr rfl) (de_call c__law_heap_1 (by rfl) (da_cons (dv 0) da_nil)))
    (dss_cons (ds_for PassesOwn.never rfl (di_range1 (by rfl) n_range de_int) (dg_name (i := 2) sc_law.nd rfl (by first | exact Or.inl rfl | exact Or.inr rfl)) (dss_cons (ds_set (i := 3) sc_law.nd rfl (by first | exact Or.inl rfl | exact Or.inr rfl) (de_and (de_cmp (op_eqAll hu) opd_eq (dv 2) de_int (nomark _)) (de_one (de_or (de_cmp (op_eqAll hu) opd_eq (de_callB cr_len cd_len (by rfl) n_len (by decide +kernel) (da_cons (dv 0) da_nil)) de_int (nomark _)) (de_one (de_cmp (op_eqAll hu) opd_eq (de_call c__law_draw_2 (by rfl) (da_cons (dv 1) (da_cons de_int da_nil))) de_int (nomark _)))))))
    (dss_cons (ds_par (i := 4) (j := 5) rfl sc_law.nd rfl rfl (by decide) rfl rfl (da_cons (de_call c__law_poly_3 (by rfl) (da_cons (dv 1) (da_cons (de_ifExp (dt_val (dv 3)) de_int de_int) (da_cons (de_ifExp (dt_val (dv 3)) (de_op op_pow opd_pow de_int de_int) de_int) da_nil)))) (da_cons (de_call c__law_poly_3 (by rfl) (da_cons (dv 1) (da_cons (de_ifExp (dt_val (dv 3)) de_int de_int) (da_cons de_int da_nil)))) da_nil)) (by rfl))
    (dss_cons (ds_if (dt_cmp (op_eqAll hu) opd_eq (dv 2) de_int (nomark _)) (dss_one (ds_set (i := 5) sc_law.nd rfl (by first | exact Or.inl rfl | exact Or.inr rfl) (de_call c__law_sum_of_3 (by rfl) (da_cons (de_tup da_nil) (da_cons (dv 4) (da_cons (de_tup (da_cons (de_op op_sub opd_sub de_int de_int) (da_cons de_int da_nil))) da_nil)))))) dss_nil)
    (dss_one (ds_if (DW.dt (dw_or (dt_not (dt_val (de_call c__law_pair_right_5 (by rfl) (da_cons (dv 1) (da_cons (dv 4) (da_cons (dv 5) (da_cons (de_call c__law_pick_2 (by rfl) (da_cons (dv 1) (da_cons (de_lst (da_cons (de_tup (da_cons de_int (da_cons de_int da_nil))) (da_cons (de_tup (da_cons de_int (da_cons de_int da_nil))) (da_cons (de_call c__law_fraction_2 (by rfl) (da_cons (dv 1) (da_cons de_int da_nil))) da_nil)))) da_nil))) (da_cons (de_call c__law_pick_2 (by rfl) (da_cons (dv 1) (da_cons (de_lst (da_cons (de_tup (da_cons de_int (da_cons de_int da_nil))) (da_cons (de_call c__law_fraction_2 (by rfl) (da_cons (dv 1) (da_cons de_int da_nil))) da_nil))) da_nil))) da_nil)))))))) (dw_or1 (dt_not (dt_val (de_call c__law_judged_2 (by rfl) (da_cons (dv 1) (da_cons (dv 4) da_nil)))))))) (dss_one (ds_ret de_bl)) dss_nil))))))
    (dss_one (ds_ret de_bl))))
end K15

namespace K15
open PySem PySem.Spec PyProof.Rows L2 DL QF
section
variable {ds : List D} {M : Mem} {Q : DQ}
theorem sl1000 : 100000 ≤ sizeLine := by decide +kernel
theorem body__law_f (h : sp_fraction_of ds M Q) : b__law_f sp_divisor_of { nx := fun _ M' => Q .non M', rt := Q } (dstart ["top", "bottom", "by"] ds) M := by
  unfold sp_fraction_of at h
  split at h
  · rename_i a b
    obtain ⟨h0, hb, h⟩ := h
    have c1 := cdv_c (a := a) (i := a) h0 hb
    have c2 := cdv_c (a := a) (i := b) h0 hb
    have hl : Int.gcd a b ≤ b.natAbs := Nat.le_of_dvd (by omega) (Int.gcd_dvd_natAbs_right a b)
    have hg : ((Int.gcd a b : Nat) : Int).natAbs < 2 ^ 8000 := Nat.lt_of_le_of_lt (by omega) hb
    simp only [b__law_f, dSeq, dNext, dIf, dRet, dRetN, dDrop, dAsg, gN, gN0, gNc, gTp, gSubL, dPar, dPar3, dAug, dVar, dC, dOp, dUn, dTest, dAnd, dOr, dNot, dAndV, dOrV, dNotV, dIfE, dNil, dCons, dTup, dLst, dCB, dCall, dstart, dget, dset, dwp, dclr, asB, pI0, pI, pU, pAdd, pMul, pEqB, pIsB, pIx, pCI, pC2, pInt, pIsi, pLen, optQ, stL, lstAt, lsOf, atI0, atI1, atI2, atI3, ixN0, ixN1, ixN2, ixN3, mupd_same, mupd_mupd, dFor, iRng, List.map_cons, List.map_nil, List.length_cons, List.length_nil, List.replicate, List.cons_append, List.nil_append, List.append_nil, List.set_cons_zero, List.set_cons_succ, Nat.reduceAdd, Nat.reduceSub, Nat.sub_self, if_true, if_false, decide_eq_true_eq, Bool.false_eq_true, Bool.not_true, Bool.not_false, id_eq, ite_true, ite_false, sp_divisor_of]
    unfold cI at c1 c2
    unfold fr lowI cI at h
    by_cases hn : b < 0
    · have hp : ¬ 0 < b := by omega
      have e : ((Int.gcd a b : Nat) : Int) * (0 - 1) = -((Int.gcd a b : Nat) : Int) := by omega
      simp only [hn, hp, dSeq, dNext, dIf, dRet, dRetN, dDrop, dAsg, gN, gN0, gNc, gTp, gSubL, dPar, dPar3, dAug, dVar, dC, dOp, dUn, dTest, dAnd, dOr, dNot, dAndV, dOrV, dNotV, dIfE, dNil, dCons, dTup, dLst, dCB, dCall, dstart, dget, dset, dwp, dclr, asB, pI0, pI, pU, pAdd, pMul, pEqB, pIsB, pIx, pCI, pC2, pInt, pIsi, pLen, optQ, stL, lstAt, lsOf, atI0, atI1, atI2, atI3, ixN0, ixN1, ixN2, ixN3, mupd_same, mupd_mupd, dFor, iRng, List.map_cons, List.map_nil, List.length_cons, List.length_nil, List.replicate, List.cons_append, List.nil_append, List.append_nil, List.set_cons_zero, List.set_cons_succ, Nat.reduceAdd, Nat.reduceSub, Nat.sub_self, if_true, if_false, decide_eq_true_eq, Bool.false_eq_true, Bool.not_true, Bool.not_false, id_eq, ite_true, ite_false, e] at c1 c2 h ⊢
      exact ⟨mulx_ok (a := 8000) (b := 1) hg (by decide) (by decide), c1, c2, by decide, h⟩
    · have hp : 0 < b := by omega
      simp only [hn, hp, dSeq, dNext, dIf, dRet, dRetN, dDrop, dAsg, gN, gN0, gNc, gTp, gSubL, dPar, dPar3, dAug, dVar, dC, dOp, dUn, dTest, dAnd, dOr, dNot, dAndV, dOrV, dNotV, dIfE, dNil, dCons, dTup, dLst, dCB, dCall, dstart, dget, dset, dwp, dclr, asB, pI0, pI, pU, pAdd, pMul, pEqB, pIsB, pIx, pCI, pC2, pInt, pIsi, pLen, optQ, stL, lstAt, lsOf, atI0, atI1, atI2, atI3, ixN0, ixN1, ixN2, ixN3, mupd_same, mupd_mupd, dFor, iRng, List.map_cons, List.map_nil, List.length_cons, List.length_nil, List.replicate, List.cons_append, List.nil_append, List.append_nil, List.set_cons_zero, List.set_cons_succ, Nat.reduceAdd, Nat.reduceSub, Nat.sub_self, if_true, if_false, decide_eq_true_eq, Bool.false_eq_true, Bool.not_true, Bool.not_false, id_eq, ite_true, ite_false, Int.mul_one] at c1 c2 h ⊢
      exact ⟨mulx_ok (a := 8000) (b := 1) hg (by decide) (by decide), c1, c2, by decide, h⟩
  · exact h.elim
theorem body__law_plus (h : sq_plus ds M Q) : b__law_plus sp_fraction_of { nx := fun _ M' => Q .non M', rt := Q } (dstart ["one", "other"] ds) M := QF.body__law_plus (q_plus h)
theorem body__law_times (h : sq_times ds M Q) : b__law_times sp_fraction_of { nx := fun _ M' => Q .non M', rt := Q } (dstart ["one", "other"] ds) M := QF.body__law_times (q_times h)
theorem body__law_over (h : sq_over ds M Q) : b__law_over sp_fraction_of { nx := fun _ M' => Q .non M', rt := Q } (dstart ["one", "other"] ds) M := QF.body_over (q_over h)
theorem body__law_less (h : sq_minus ds M Q) : b__law_less sp_fraction_of { nx := fun _ M' => Q .non M', rt := Q } (dstart ["one", "other"] ds) M := by
  replace h := q_minus h
  unfold QF.sp_minus spF2 at h
  split at h
  · rename_i a b c d
    obtain ⟨⟨b0, d0, ha, hb, hc, hd⟩, c0, h⟩ := h
    simp only [b__law_less, dSeq, dNext, dIf, dRet, dRetN, dDrop, dAsg, gN, gN0, gNc, gTp, gSubL, dPar, dPar3, dAug, dVar, dC, dOp, dUn, dTest, dAnd, dOr, dNot, dAndV, dOrV, dNotV, dIfE, dNil, dCons, dTup, dLst, dCB, dCall, dstart, dget, dset, dwp, dclr, asB, pI0, pI, pU, pAdd, pMul, pEqB, pIsB, pIx, pCI, pC2, pInt, pIsi, pLen, optQ, stL, lstAt, lsOf, atI0, atI1, atI2, atI3, ixN0, ixN1, ixN2, ixN3, mupd_same, mupd_mupd, dFor, iRng, List.map_cons, List.map_nil, List.length_cons, List.length_nil, List.replicate, List.cons_append, List.nil_append, List.append_nil, List.set_cons_zero, List.set_cons_succ, Nat.reduceAdd, Nat.reduceSub, Nat.sub_self, if_true, if_false, decide_eq_true_eq, Bool.false_eq_true, Bool.not_true, Bool.not_false, id_eq, ite_true, ite_false, sp_fraction_of]
    have e : a * d - c * b = a * d + -c * b := by rw [Int.neg_mul, Int.sub_eq_add_neg]
    rw [e]
    exact ⟨ha.mulx hd (by decide), hc.mulx hb (by decide), hb.mulx hd (by decide), mul_ne b0 d0, (hb.mul hd).mono (by decide), h⟩
  · exact h.elim
/-! ### drawn fractions -/
def XF (m : Nat) (r : Rat) : Prop := ∃ q t : Nat, HD q t r ∧ q ≤ m ∧ t ≤ m
theorem XF.x {r : Rat} (h : XF 9 r) : XZ r := h
theorem XF.zero {m : Nat} (h : 1 ≤ m) : XF m 0 := ⟨1, 0, HD.zero (by decide), h, Nat.zero_le _⟩
theorem XF.one {m : Nat} (h : 1 ≤ m) : XF m 1 := ⟨1, 1, ⟨by decide, 1, by rw [Rat.one_mul]; rfl, by decide⟩, h, h⟩
def sp_fraction : DSp := fun ds M Q => match ds with
  | [.ref a, .int n] => ∃ l, HpA M a l ∧ 3 ≤ n ∧ n ≤ 10 ^ 12 ∧ ∀ (r : Rat) (M' : Mem), XF n.toNat r → SubH a l M M' → HpA M' a l → Q (fq r) M'
  | _ => False
theorem sp_fraction_mono : MonoSp sp_fraction := ⟨fun {ds M Q Q'} h q => by
  unfold sp_fraction at q ⊢
  split at q
  · obtain ⟨l, a, b, c, d⟩ := q
    exact ⟨l, a, b, c, fun r M' x y z => h _ _ (d r M' x y z)⟩
  · exact q⟩
theorem hd_div {a b : Int} (h : 0 < b) : HD b.toNat a.natAbs ((a : Rat) / (b : Rat)) := ⟨by omega, a, by
  have n := rat_ne (show b ≠ 0 by omega)
  rw [show ((b.toNat : Nat) : Int) = b by omega]
  grind, Nat.le_refl _⟩
theorem HpA.ne {M : Mem} {a l p : Addr} (h : HpA M a l) (hp : M p = none) : D.ref p ≠ D.ref a ∧ D.ref p ≠ D.ref l := by
  have := h.at hp
  exact ⟨fun e => this.1 (by injection e), fun e => this.2 (by injection e)⟩
theorem seq_new {M : Mem} {p : Addr} {xs : List D} : seqAt (mupd M p (.lst xs)) (.ref p) = some xs := by
  unfold seqAt; simp only [mupd_same]
theorem body_fraction (h : sp_fraction ds M Q) : b__law_fraction sp_draw sp_fraction_of sp_pick { nx := fun _ M' => Q .non M', rt := Q } (dstart ["heap", "most", "top"] ds) M := by
  unfold sp_fraction at h
  split at h
  · rename_i a n
    obtain ⟨l, hw, n0, n1, h⟩ := h
    simp only [b__law_fraction, dSeq, dNext, dIf, dRet, dRetN, dDrop, dAsg, gN, gN0, gNc, gTp, gSubL, dPar, dPar3, dAug, dVar, dC, dOp, dUn, dTest, dAnd, dOr, dNot, dAndV, dOrV, dNotV, dIfE, dNil, dCons, dTup, dLst, dCB, dCall, dstart, dget, dset, dwp, dclr, asB, pI0, pI, pU, pAdd, pMul, pEqB, pIsB, pIx, pCI, pC2, pInt, pIsi, pLen, optQ, stL, lstAt, lsOf, atI0, atI1, atI2, atI3, ixN0, ixN1, ixN2, ixN3, mupd_same, mupd_mupd, dFor, iRng, List.map_cons, List.map_nil, List.length_cons, List.length_nil, List.replicate, List.cons_append, List.nil_append, List.append_nil, List.set_cons_zero, List.set_cons_succ, Nat.reduceAdd, Nat.reduceSub, Nat.sub_self, if_true, if_false, decide_eq_true_eq, Bool.false_eq_true, Bool.not_true, Bool.not_false, id_eq, ite_true, ite_false, sp_draw, sp_pick, sp_fraction_of]
    refine ⟨l, hw, by omega, by omega, fun x M1 x0 x1 s1 w1 => ⟨by decide, fun p np => ?_⟩⟩
    refine ⟨l, _, seq_new, (HpA.ne w1 np).1, (HpA.ne w1 np).2, w1.new np, by simp, by simp, fun d M2 hd s2 w2 => ?_⟩
    obtain ⟨s, rfl, hs⟩ : ∃ s : Int, d = .int s ∧ (s = 1 ∨ s = -1) := by
      simp only [List.mem_cons, List.not_mem_nil, or_false] at hd
      rcases hd with rfl | rfl | rfl
      · exact ⟨1, rfl, .inl rfl⟩
      · exact ⟨1, rfl, .inl rfl⟩
      · exact ⟨_, rfl, .inr rfl⟩
    have s2' : SubH a l M M2 := (s1.new np).trans s2
    refine ⟨mulx_ok (a := 64) (b := 64) (by omega) (by omega) (by decide), l, w2, by omega, by omega, fun y M3 y0 y1 s3 w3 => ⟨by decide, fun p2 np2 => ?_⟩⟩
    refine ⟨l, _, seq_new, (HpA.ne w3 np2).1, (HpA.ne w3 np2).2, w3.new np2, by simp, by simp, fun d M4 hd s4 w4 => ?_⟩
    obtain ⟨b, rfl, b0, b1⟩ : ∃ b : Int, d = .int b ∧ 0 < b ∧ b ≤ n := by
      simp only [List.mem_cons, List.not_mem_nil, or_false] at hd
      rcases hd with rfl | rfl | rfl | rfl | rfl | rfl
      · exact ⟨1, rfl, by decide, by omega⟩
      · exact ⟨1, rfl, by decide, by omega⟩
      · exact ⟨1, rfl, by decide, by omega⟩
      · exact ⟨2, rfl, by decide, by omega⟩
      · exact ⟨3, rfl, by decide, by omega⟩
      · exact ⟨_, rfl, by omega, by omega⟩
    refine ⟨by omega, Bd.mono (j := 64) (show b.natAbs < 2 ^ 64 by omega) (by decide), ?_⟩
    rw [low_q (show b ≠ 0 by omega)]
    refine h _ _ ⟨_, _, hd_div b0, by omega, ?_⟩ (((s2'.trans s3).new np2).trans s4) w4
    rcases hs with rfl | rfl <;> omega
  · exact h.elim
/-! ### cutting -/
/-- a row of fractions that stands at p -/
def RowAt (M : Mem) (p : Addr) (l : List Rat) : Prop := M p = some (.lst (l.map fq))
theorem atI_fq {l : List Rat} {i : Nat} (h : i < l.length) : atI (l.map fq) (i : Int) = some (fq (co l i)) := by
  rw [DL.atI_nat, List.getElem?_map, co_lt h]; rfl
theorem num0 (r : Rat) : (r.num = 0) = (r = 0) := propext Rat.num_eq_zero
theorem take_succ {l : List Rat} {m : Nat} (h : m < l.length) : l.take (m + 1) = l.take m ++ [co l m] := by
  rw [List.take_add_one, co_lt h]; rfl
def sp_poly_of : DSp := fun ds M Q => match ds with
  | [.ref p] => ∃ l : List Rat, RowAt M p l ∧ l.length ≤ 1000 ∧ Q (pq (cut l)) M
  | _ => False
theorem sp_poly_of_mono : MonoSp sp_poly_of := ⟨fun {ds M Q Q'} h q => by
  unfold sp_poly_of at q ⊢
  split at q
  · obtain ⟨l, a, b, c⟩ := q
    exact ⟨l, a, b, h _ _ c⟩
  · exact q⟩
theorem cutL_take {l : List Rat} {m : Nat} : cutL (l.map fq) none (some (m : Int)) = (l.take m).map fq := by
  unfold cutL HT.sIx
  simp only [List.length_map, List.drop_zero, Nat.sub_zero]
  rw [if_neg (by omega), List.map_take, Int.toNat_natCast]
  by_cases h : m ≤ l.length
  · rw [Nat.min_eq_left h]
  · rw [Nat.min_eq_right (by omega), List.take_of_length_le (by simp), List.take_of_length_le (by simp; omega)]
theorem body_poly_of (h : sp_poly_of ds M Q) : b_poly_of { nx := fun _ M' => Q .non M', rt := Q } (dstart ["row", "many"] ds) M := by
  unfold sp_poly_of at h
  split at h
  · rename_i p
    obtain ⟨l, hp, hl, h⟩ := h
    unfold RowAt at hp
    unfold b_poly_of
    refine seq_cut fun R hR => ?_
    simp only [dSeq, dNext, dIf, dRet, dRetN, dDrop, dAsg, gN, gN0, gNc, gTp, gSubL, dPar, dPar3, dAug, dVar, dC, dOp, dUn, dTest, dAnd, dOr, dNot, dAndV, dOrV, dNotV, dIfE, dNil, dCons, dTup, dLst, dCB, dCall, dstart, dget, dset, dwp, dclr, asB, pI0, pI, pU, pAdd, pMul, pEqB, pIsB, pIx, pCI, pC2, pInt, pIsi, pLen, optQ, stL, lstAt, lsOf, atI0, atI1, atI2, atI3, ixN0, ixN1, ixN2, ixN3, mupd_same, mupd_mupd, dFor, iRng, List.map_cons, List.map_nil, List.length_cons, List.length_nil, List.replicate, List.cons_append, List.nil_append, List.append_nil, List.set_cons_zero, List.set_cons_succ, Nat.reduceAdd, Nat.reduceSub, Nat.sub_self, if_true, if_false, decide_eq_true_eq, Bool.false_eq_true, Bool.not_true, Bool.not_false, id_eq, ite_true, ite_false, hp]
    subst hR
    refine seq_cut fun R hR => ?_
    have exit : ∀ m : Nat, m ≤ l.length → cut l = l.take m → R { nx := fun _ M' => Q .non M', rt := Q } [some (.ref p), some (.int (m : Int))] M := by
      intro m hm e
      subst hR
      simp only [dSeq, dNext, dIf, dRet, dRetN, dDrop, dAsg, gN, gN0, gNc, gTp, gSubL, dPar, dPar3, dAug, dVar, dC, dOp, dUn, dTest, dAnd, dOr, dNot, dAndV, dOrV, dNotV, dIfE, dNil, dCons, dTup, dLst, dCB, dCall, dstart, dget, dset, dwp, dclr, asB, pI0, pI, pU, pAdd, pMul, pEqB, pIsB, pIx, pCI, pC2, pInt, pIsi, pLen, optQ, stL, lstAt, lsOf, atI0, atI1, atI2, atI3, ixN0, ixN1, ixN2, ixN3, mupd_same, mupd_mupd, dFor, iRng, List.map_cons, List.map_nil, List.length_cons, List.length_nil, List.replicate, List.cons_append, List.nil_append, List.append_nil, List.set_cons_zero, List.set_cons_succ, Nat.reduceAdd, Nat.reduceSub, Nat.sub_self, if_true, if_false, decide_eq_true_eq, Bool.false_eq_true, Bool.not_true, Bool.not_false, id_eq, ite_true, ite_false, dPure, dSl, dNoPart, dPart, pSl, hp, cutL_take, pTuple]
      intro p2 np2
      refine ⟨Sub.new np2, ?_⟩
      rw [e] at h
      exact h
    refine while_inv (I := fun m τ M' => M' = M ∧ m ≤ l.length ∧ cut l = cut (l.take m) ∧ τ = [some (.ref p), some (.int (m : Int))]) ?_ (n := l.length) ⟨rfl, Nat.le_refl _, by rw [List.take_length], by simp⟩
    rintro m τ M' X ⟨rfl, hm, hc, rfl⟩ hX
    simp only [dSeq, dNext, dIf, dRet, dRetN, dDrop, dAsg, gN, gN0, gNc, gTp, gSubL, dPar, dPar3, dAug, dVar, dC, dOp, dUn, dTest, dAnd, dOr, dNot, dAndV, dOrV, dNotV, dIfE, dNil, dCons, dTup, dLst, dCB, dCall, dstart, dget, dset, dwp, dclr, asB, pI0, pI, pU, pAdd, pMul, pEqB, pIsB, pIx, pCI, pC2, pInt, pIsi, pLen, optQ, stL, lstAt, lsOf, atI0, atI1, atI2, atI3, ixN0, ixN1, ixN2, ixN3, mupd_same, mupd_mupd, dFor, iRng, List.map_cons, List.map_nil, List.length_cons, List.length_nil, List.replicate, List.cons_append, List.nil_append, List.append_nil, List.set_cons_zero, List.set_cons_succ, Nat.reduceAdd, Nat.reduceSub, Nat.sub_self, if_true, if_false, decide_eq_true_eq, Bool.false_eq_true, Bool.not_true, Bool.not_false, id_eq, ite_true, ite_false]
    by_cases h0 : (0 : Int) < m
    · obtain ⟨k, rfl⟩ : ∃ k, m = k + 1 := ⟨m - 1, by omega⟩
      simp only [h0, dSeq, dNext, dIf, dRet, dRetN, dDrop, dAsg, gN, gN0, gNc, gTp, gSubL, dPar, dPar3, dAug, dVar, dC, dOp, dUn, dTest, dAnd, dOr, dNot, dAndV, dOrV, dNotV, dIfE, dNil, dCons, dTup, dLst, dCB, dCall, dstart, dget, dset, dwp, dclr, asB, pI0, pI, pU, pAdd, pMul, pEqB, pIsB, pIx, pCI, pC2, pInt, pIsi, pLen, optQ, stL, lstAt, lsOf, atI0, atI1, atI2, atI3, ixN0, ixN1, ixN2, ixN3, mupd_same, mupd_mupd, dFor, iRng, List.map_cons, List.map_nil, List.length_cons, List.length_nil, List.replicate, List.cons_append, List.nil_append, List.append_nil, List.set_cons_zero, List.set_cons_succ, Nat.reduceAdd, Nat.reduceSub, Nat.sub_self, if_true, if_false, decide_eq_true_eq, Bool.false_eq_true, Bool.not_true, Bool.not_false, id_eq, ite_true, ite_false, hp, decide_true]
      rw [show (((k + 1 : Nat) : Int) - 1) = (k : Int) by omega, atI_fq (by omega)]
      simp only [dSeq, dNext, dIf, dRet, dRetN, dDrop, dAsg, gN, gN0, gNc, gTp, gSubL, dPar, dPar3, dAug, dVar, dC, dOp, dUn, dTest, dAnd, dOr, dNot, dAndV, dOrV, dNotV, dIfE, dNil, dCons, dTup, dLst, dCB, dCall, dstart, dget, dset, dwp, dclr, asB, pI0, pI, pU, pAdd, pMul, pEqB, pIsB, pIx, pCI, pC2, pInt, pIsi, pLen, optQ, stL, lstAt, lsOf, atI0, atI1, atI2, atI3, ixN0, ixN1, ixN2, ixN3, mupd_same, mupd_mupd, dFor, iRng, List.map_cons, List.map_nil, List.length_cons, List.length_nil, List.replicate, List.cons_append, List.nil_append, List.append_nil, List.set_cons_zero, List.set_cons_succ, Nat.reduceAdd, Nat.reduceSub, Nat.sub_self, if_true, if_false, decide_eq_true_eq, Bool.false_eq_true, Bool.not_true, Bool.not_false, id_eq, ite_true, ite_false, fq]
      by_cases hz : (co l k).num = 0
      · simp only [hz, dSeq, dNext, dIf, dRet, dRetN, dDrop, dAsg, gN, gN0, gNc, gTp, gSubL, dPar, dPar3, dAug, dVar, dC, dOp, dUn, dTest, dAnd, dOr, dNot, dAndV, dOrV, dNotV, dIfE, dNil, dCons, dTup, dLst, dCB, dCall, dstart, dget, dset, dwp, dclr, asB, pI0, pI, pU, pAdd, pMul, pEqB, pIsB, pIx, pCI, pC2, pInt, pIsi, pLen, optQ, stL, lstAt, lsOf, atI0, atI1, atI2, atI3, ixN0, ixN1, ixN2, ixN3, mupd_same, mupd_mupd, dFor, iRng, List.map_cons, List.map_nil, List.length_cons, List.length_nil, List.replicate, List.cons_append, List.nil_append, List.append_nil, List.set_cons_zero, List.set_cons_succ, Nat.reduceAdd, Nat.reduceSub, Nat.sub_self, if_true, if_false, decide_eq_true_eq, Bool.false_eq_true, Bool.not_true, Bool.not_false, id_eq, ite_true, ite_false, decide_true]
        refine hX k _ _ (by omega) ⟨rfl, by omega, ?_, rfl⟩
        rw [hc, take_succ (by omega), (num0 _).mp hz, cut_zero]
      · simp only [hz, dSeq, dNext, dIf, dRet, dRetN, dDrop, dAsg, gN, gN0, gNc, gTp, gSubL, dPar, dPar3, dAug, dVar, dC, dOp, dUn, dTest, dAnd, dOr, dNot, dAndV, dOrV, dNotV, dIfE, dNil, dCons, dTup, dLst, dCB, dCall, dstart, dget, dset, dwp, dclr, asB, pI0, pI, pU, pAdd, pMul, pEqB, pIsB, pIx, pCI, pC2, pInt, pIsi, pLen, optQ, stL, lstAt, lsOf, atI0, atI1, atI2, atI3, ixN0, ixN1, ixN2, ixN3, mupd_same, mupd_mupd, dFor, iRng, List.map_cons, List.map_nil, List.length_cons, List.length_nil, List.replicate, List.cons_append, List.nil_append, List.append_nil, List.set_cons_zero, List.set_cons_succ, Nat.reduceAdd, Nat.reduceSub, Nat.sub_self, if_true, if_false, decide_eq_true_eq, Bool.false_eq_true, Bool.not_true, Bool.not_false, id_eq, ite_true, ite_false, decide_false]
        refine exit (k + 1) hm ?_
        rw [hc, take_succ (by omega), cut_last (fun e => hz ((num0 _).mpr e))]
    · simp only [h0, dSeq, dNext, dIf, dRet, dRetN, dDrop, dAsg, gN, gN0, gNc, gTp, gSubL, dPar, dPar3, dAug, dVar, dC, dOp, dUn, dTest, dAnd, dOr, dNot, dAndV, dOrV, dNotV, dIfE, dNil, dCons, dTup, dLst, dCB, dCall, dstart, dget, dset, dwp, dclr, asB, pI0, pI, pU, pAdd, pMul, pEqB, pIsB, pIx, pCI, pC2, pInt, pIsi, pLen, optQ, stL, lstAt, lsOf, atI0, atI1, atI2, atI3, ixN0, ixN1, ixN2, ixN3, mupd_same, mupd_mupd, dFor, iRng, List.map_cons, List.map_nil, List.length_cons, List.length_nil, List.replicate, List.cons_append, List.nil_append, List.append_nil, List.set_cons_zero, List.set_cons_succ, Nat.reduceAdd, Nat.reduceSub, Nat.sub_self, if_true, if_false, decide_eq_true_eq, Bool.false_eq_true, Bool.not_true, Bool.not_false, id_eq, ite_true, ite_false, decide_false]
      refine exit m hm ?_
      have : m = 0 := by omega
      subst this
      rw [hc]; rfl
  · exact h.elim
def sp_cut : DSp := fun ds M Q => match ds with
  | [x] => ∃ l : List Rat, seqAt M x = some (l.map fq) ∧ l.length ≤ 1000 ∧ Q (pq (cut l)) M
  | _ => False
theorem sp_cut_mono : MonoSp sp_cut := ⟨fun {ds M Q Q'} h q => by
  unfold sp_cut at q ⊢
  split at q
  · obtain ⟨l, a, b, c⟩ := q
    exact ⟨l, a, b, h _ _ c⟩
  · exact q⟩
theorem pl_fq {k : Nat} (r : Rat) : plD (k + 1) (fq r) := by
  refine pl_tup fun d hd => ?_
  simp only [List.mem_cons, List.not_mem_nil, or_false] at hd
  rcases hd with rfl | rfl <;> exact pl_int
theorem pl_fqs (l : List Rat) : ∀ d ∈ l.map fq, plD 60 d := by
  intro d hd
  obtain ⟨r, _, rfl⟩ := List.mem_map.mp hd
  exact pl_fq r
theorem body_cut (hc : Clo Q) (h : sp_cut ds M Q) : b__law_cut { nx := fun _ M' => Q .non M', rt := Q } (dstart ["row", "turn"] ds) M := by
  unfold sp_cut at h
  split at h
  · rename_i x
    obtain ⟨l, hx, hl, h⟩ := h
    unfold b__law_cut
    refine seq_cut fun R hR => ?_
    have big := sl1000
    have go : ∀ p, M p = none → R { nx := fun _ M' => Q .non M', rt := Q } [some (.ref p), none] (mupd M p (.lst (l.map fq))) := by
      intro p np
      subst hR
      refine seq_cut fun R hR => ?_
      simp only [dSeq, dNext, dIf, dRet, dRetN, dDrop, dAsg, gN, gN0, gNc, gTp, gSubL, dPar, dPar3, dAug, dVar, dC, dOp, dUn, dTest, dAnd, dOr, dNot, dAndV, dOrV, dNotV, dIfE, dNil, dCons, dTup, dLst, dCB, dCall, dstart, dget, dset, dwp, dclr, asB, pI0, pI, pU, pAdd, pMul, pEqB, pIsB, pIx, pCI, pC2, pInt, pIsi, pLen, optQ, stL, lstAt, lsOf, atI0, atI1, atI2, atI3, ixN0, ixN1, ixN2, ixN3, mupd_same, mupd_mupd, dFor, iRng, List.map_cons, List.map_nil, List.length_cons, List.length_nil, List.replicate, List.cons_append, List.nil_append, List.append_nil, List.set_cons_zero, List.set_cons_succ, Nat.reduceAdd, Nat.reduceSub, Nat.sub_self, if_true, if_false, decide_eq_true_eq, Bool.false_eq_true, Bool.not_true, Bool.not_false, id_eq, ite_true, ite_false, List.length_map]
      refine ⟨⟨by omega, by omega⟩, ?_⟩
      refine loop_rng (I := fun i τ M' => Sub M M' ∧ M p = none ∧ 0 ≤ i ∧ ∃ m : Nat, m ≤ l.length ∧ M' p = some (.lst ((l.take m).map fq)) ∧ cut l = cut (l.take m) ∧ ((m : Int) ≤ l.length - i ∨ cut l = l.take m) ∧ ∃ u, τ = [some (.ref p), u]) ?_ ?_ l.length 0 _ _ (by omega) ⟨Sub.new np, np, by omega, l.length, Nat.le_refl _, by rw [mupd_same, List.take_length], by rw [List.take_length], .inl (by omega), none, rfl⟩
      · rintro i τ M1 X hi ⟨hs, np, i0, m, hm, e1, e2, e3, u, rfl⟩ hX
        simp only [dSeq, dNext, dIf, dRet, dRetN, dDrop, dAsg, gN, gN0, gNc, gTp, gSubL, dPar, dPar3, dAug, dVar, dC, dOp, dUn, dTest, dAnd, dOr, dNot, dAndV, dOrV, dNotV, dIfE, dNil, dCons, dTup, dLst, dCB, dCall, dstart, dget, dset, dwp, dclr, asB, pI0, pI, pU, pAdd, pMul, pEqB, pIsB, pIx, pCI, pC2, pInt, pIsi, pLen, optQ, stL, lstAt, lsOf, atI0, atI1, atI2, atI3, ixN0, ixN1, ixN2, ixN3, mupd_same, mupd_mupd, dFor, iRng, List.map_cons, List.map_nil, List.length_cons, List.length_nil, List.replicate, List.cons_append, List.nil_append, List.append_nil, List.set_cons_zero, List.set_cons_succ, Nat.reduceAdd, Nat.reduceSub, Nat.sub_self, if_true, if_false, decide_eq_true_eq, Bool.false_eq_true, Bool.not_true, Bool.not_false, id_eq, ite_true, ite_false, dBM, tyL, pPop]
        refine ⟨by decide, fun q nq => ?_⟩
        have nqp : p ≠ q := ne_new e1 nq
        have f1 : mupd M1 q (.lst []) p = some (.lst ((l.take m).map fq)) := by rw [mupd_ne nqp]; exact e1
        have f2 : mupd M1 q (.lst []) q = some (.lst []) := mupd_same
        have hs2 : Sub M (mupd M1 q (.lst [])) := hs.trans (Sub.new nq)
        generalize mupd M1 q (.lst []) = M2 at f1 f2 hs2
        refine eqG_nil f1 f2 (pl_fqs _) ?_
        cases hb : ((l.take m).map fq).isEmpty with
        | true =>
          simp only [dSeq, dNext, dIf, dRet, dRetN, dDrop, dAsg, gN, gN0, gNc, gTp, gSubL, dPar, dPar3, dAug, dVar, dC, dOp, dUn, dTest, dAnd, dOr, dNot, dAndV, dOrV, dNotV, dIfE, dNil, dCons, dTup, dLst, dCB, dCall, dstart, dget, dset, dwp, dclr, asB, pI0, pI, pU, pAdd, pMul, pEqB, pIsB, pIx, pCI, pC2, pInt, pIsi, pLen, optQ, stL, lstAt, lsOf, atI0, atI1, atI2, atI3, ixN0, ixN1, ixN2, ixN3, mupd_same, mupd_mupd, dFor, iRng, List.map_cons, List.map_nil, List.length_cons, List.length_nil, List.replicate, List.cons_append, List.nil_append, List.append_nil, List.set_cons_zero, List.set_cons_succ, Nat.reduceAdd, Nat.reduceSub, Nat.sub_self, if_true, if_false, decide_eq_true_eq, Bool.false_eq_true, Bool.not_true, Bool.not_false, id_eq, ite_true, ite_false]
          have m0 : l.take m = [] := by simpa using hb
          refine hX _ _ ⟨hs2, np, by omega, m, hm, f1, e2, .inr ?_, _, rfl⟩
          rw [e2, m0]; rfl
        | false =>
          have m0 : l.take m ≠ [] := by simpa using hb
          obtain ⟨k, rfl⟩ : ∃ k, m = k + 1 := ⟨m - 1, by
            cases m with
            | zero => exact absurd rfl m0
            | succ m => omega⟩
          have f1' := f1
          rw [take_succ (by omega), List.map_append, List.map_cons, List.map_nil] at f1'
          simp only [dSeq, dNext, dIf, dRet, dRetN, dDrop, dAsg, gN, gN0, gNc, gTp, gSubL, dPar, dPar3, dAug, dVar, dC, dOp, dUn, dTest, dAnd, dOr, dNot, dAndV, dOrV, dNotV, dIfE, dNil, dCons, dTup, dLst, dCB, dCall, dstart, dget, dset, dwp, dclr, asB, pI0, pI, pU, pAdd, pMul, pEqB, pIsB, pIx, pCI, pC2, pInt, pIsi, pLen, optQ, stL, lstAt, lsOf, atI0, atI1, atI2, atI3, ixN0, ixN1, ixN2, ixN3, mupd_same, mupd_mupd, dFor, iRng, List.map_cons, List.map_nil, List.length_cons, List.length_nil, List.replicate, List.cons_append, List.nil_append, List.append_nil, List.set_cons_zero, List.set_cons_succ, Nat.reduceAdd, Nat.reduceSub, Nat.sub_self, if_true, if_false, decide_eq_true_eq, Bool.false_eq_true, Bool.not_true, Bool.not_false, id_eq, ite_true, ite_false, f1', atI_m1, fq]
          by_cases hz : (co l k).num = 0
          · simp only [hz, dSeq, dNext, dIf, dRet, dRetN, dDrop, dAsg, gN, gN0, gNc, gTp, gSubL, dPar, dPar3, dAug, dVar, dC, dOp, dUn, dTest, dAnd, dOr, dNot, dAndV, dOrV, dNotV, dIfE, dNil, dCons, dTup, dLst, dCB, dCall, dstart, dget, dset, dwp, dclr, asB, pI0, pI, pU, pAdd, pMul, pEqB, pIsB, pIx, pCI, pC2, pInt, pIsi, pLen, optQ, stL, lstAt, lsOf, atI0, atI1, atI2, atI3, ixN0, ixN1, ixN2, ixN3, mupd_same, mupd_mupd, dFor, iRng, List.map_cons, List.map_nil, List.length_cons, List.length_nil, List.replicate, List.cons_append, List.nil_append, List.append_nil, List.set_cons_zero, List.set_cons_succ, Nat.reduceAdd, Nat.reduceSub, Nat.sub_self, if_true, if_false, decide_eq_true_eq, Bool.false_eq_true, Bool.not_true, Bool.not_false, id_eq, ite_true, ite_false, decide_true]
            have f3 : M2 p = some (.lst ((l.take k).map fq ++ [fq (co l k)])) := f1'
            simp only [f3, dSeq, dNext, dIf, dRet, dRetN, dDrop, dAsg, gN, gN0, gNc, gTp, gSubL, dPar, dPar3, dAug, dVar, dC, dOp, dUn, dTest, dAnd, dOr, dNot, dAndV, dOrV, dNotV, dIfE, dNil, dCons, dTup, dLst, dCB, dCall, dstart, dget, dset, dwp, dclr, asB, pI0, pI, pU, pAdd, pMul, pEqB, pIsB, pIx, pCI, pC2, pInt, pIsi, pLen, optQ, stL, lstAt, lsOf, atI0, atI1, atI2, atI3, ixN0, ixN1, ixN2, ixN3, mupd_same, mupd_mupd, dFor, iRng, List.map_cons, List.map_nil, List.length_cons, List.length_nil, List.replicate, List.cons_append, List.nil_append, List.append_nil, List.set_cons_zero, List.set_cons_succ, Nat.reduceAdd, Nat.reduceSub, Nat.sub_self, if_true, if_false, decide_eq_true_eq, Bool.false_eq_true, Bool.not_true, Bool.not_false, id_eq, ite_true, ite_false, pop_at, List.dropLast_concat]
            refine ⟨trivial, hX _ _ ⟨hs2.new' np, np, by omega, k, by omega, mupd_same, ?_, ?_, _, rfl⟩⟩
            · rw [e2, take_succ (by omega), (num0 _).mp hz, cut_zero]
            · rcases e3 with e3 | e3
              · exact .inl (by omega)
              · exfalso
                rw [take_succ (by omega), (num0 _).mp hz, cut_zero] at e2
                rw [e2] at e3
                have := cut_len (l.take k)
                rw [e3] at this
                simp at this
                omega
          · simp only [hz, dSeq, dNext, dIf, dRet, dRetN, dDrop, dAsg, gN, gN0, gNc, gTp, gSubL, dPar, dPar3, dAug, dVar, dC, dOp, dUn, dTest, dAnd, dOr, dNot, dAndV, dOrV, dNotV, dIfE, dNil, dCons, dTup, dLst, dCB, dCall, dstart, dget, dset, dwp, dclr, asB, pI0, pI, pU, pAdd, pMul, pEqB, pIsB, pIx, pCI, pC2, pInt, pIsi, pLen, optQ, stL, lstAt, lsOf, atI0, atI1, atI2, atI3, ixN0, ixN1, ixN2, ixN3, mupd_same, mupd_mupd, dFor, iRng, List.map_cons, List.map_nil, List.length_cons, List.length_nil, List.replicate, List.cons_append, List.nil_append, List.append_nil, List.set_cons_zero, List.set_cons_succ, Nat.reduceAdd, Nat.reduceSub, Nat.sub_self, if_true, if_false, decide_eq_true_eq, Bool.false_eq_true, Bool.not_true, Bool.not_false, id_eq, ite_true, ite_false, decide_false]
            refine hX _ _ ⟨hs2, np, by omega, k + 1, hm, f1, e2, .inr ?_, _, rfl⟩
            rw [e2, take_succ (by omega), cut_last (fun e => hz ((num0 _).mpr e))]
      · rintro τ M1 ⟨hs, np, i0, m, hm, e1, e2, e3, u, rfl⟩
        dsimp only
        subst hR
        simp only [dSeq, dNext, dIf, dRet, dRetN, dDrop, dAsg, gN, gN0, gNc, gTp, gSubL, dPar, dPar3, dAug, dVar, dC, dOp, dUn, dTest, dAnd, dOr, dNot, dAndV, dOrV, dNotV, dIfE, dNil, dCons, dTup, dLst, dCB, dCall, dstart, dget, dset, dwp, dclr, asB, pI0, pI, pU, pAdd, pMul, pEqB, pIsB, pIx, pCI, pC2, pInt, pIsi, pLen, optQ, stL, lstAt, lsOf, atI0, atI1, atI2, atI3, ixN0, ixN1, ixN2, ixN3, mupd_same, mupd_mupd, dFor, iRng, List.map_cons, List.map_nil, List.length_cons, List.length_nil, List.replicate, List.cons_append, List.nil_append, List.append_nil, List.set_cons_zero, List.set_cons_succ, Nat.reduceAdd, Nat.reduceSub, Nat.sub_self, if_true, if_false, decide_eq_true_eq, Bool.false_eq_true, Bool.not_true, Bool.not_false, id_eq, ite_true, ite_false, pTuple, e1]
        have e : cut l = l.take m := by
          rcases e3 with e3 | e3
          · have : m = 0 := by omega
            subst this
            rw [e2]; rfl
          · exact e3
        rw [e] at h
        exact hc _ _ _ hs h
    unfold seqAt at hx
    split at hx
    · cases hx
      simp only [dSeq, dNext, dIf, dRet, dRetN, dDrop, dAsg, gN, gN0, gNc, gTp, gSubL, dPar, dPar3, dAug, dVar, dC, dOp, dUn, dTest, dAnd, dOr, dNot, dAndV, dOrV, dNotV, dIfE, dNil, dCons, dTup, dLst, dCB, dCall, dstart, dget, dset, dwp, dclr, asB, pI0, pI, pU, pAdd, pMul, pEqB, pIsB, pIx, pCI, pC2, pInt, pIsi, pLen, optQ, stL, lstAt, lsOf, atI0, atI1, atI2, atI3, ixN0, ixN1, ixN2, ixN3, mupd_same, mupd_mupd, dFor, iRng, List.map_cons, List.map_nil, List.length_cons, List.length_nil, List.replicate, List.cons_append, List.nil_append, List.append_nil, List.set_cons_zero, List.set_cons_succ, Nat.reduceAdd, Nat.reduceSub, Nat.sub_self, if_true, if_false, decide_eq_true_eq, Bool.false_eq_true, Bool.not_true, Bool.not_false, id_eq, ite_true, ite_false, pList]
      exact go
    · cases hx
      simp only [dSeq, dNext, dIf, dRet, dRetN, dDrop, dAsg, gN, gN0, gNc, gTp, gSubL, dPar, dPar3, dAug, dVar, dC, dOp, dUn, dTest, dAnd, dOr, dNot, dAndV, dOrV, dNotV, dIfE, dNil, dCons, dTup, dLst, dCB, dCall, dstart, dget, dset, dwp, dclr, asB, pI0, pI, pU, pAdd, pMul, pEqB, pIsB, pIx, pCI, pC2, pInt, pIsi, pLen, optQ, stL, lstAt, lsOf, atI0, atI1, atI2, atI3, ixN0, ixN1, ixN2, ixN3, mupd_same, mupd_mupd, dFor, iRng, List.map_cons, List.map_nil, List.length_cons, List.length_nil, List.replicate, List.cons_append, List.nil_append, List.append_nil, List.set_cons_zero, List.set_cons_succ, Nat.reduceAdd, Nat.reduceSub, Nat.sub_self, if_true, if_false, decide_eq_true_eq, Bool.false_eq_true, Bool.not_true, Bool.not_false, id_eq, ite_true, ite_false, pList]
      exact go
    · split at hx
      · rename_i b _ _ eb
        cases hx
        simp only [dSeq, dNext, dIf, dRet, dRetN, dDrop, dAsg, gN, gN0, gNc, gTp, gSubL, dPar, dPar3, dAug, dVar, dC, dOp, dUn, dTest, dAnd, dOr, dNot, dAndV, dOrV, dNotV, dIfE, dNil, dCons, dTup, dLst, dCB, dCall, dstart, dget, dset, dwp, dclr, asB, pI0, pI, pU, pAdd, pMul, pEqB, pIsB, pIx, pCI, pC2, pInt, pIsi, pLen, optQ, stL, lstAt, lsOf, atI0, atI1, atI2, atI3, ixN0, ixN1, ixN2, ixN3, mupd_same, mupd_mupd, dFor, iRng, List.map_cons, List.map_nil, List.length_cons, List.length_nil, List.replicate, List.cons_append, List.nil_append, List.append_nil, List.set_cons_zero, List.set_cons_succ, Nat.reduceAdd, Nat.reduceSub, Nat.sub_self, if_true, if_false, decide_eq_true_eq, Bool.false_eq_true, Bool.not_true, Bool.not_false, id_eq, ite_true, ite_false, pList, eb]
        exact go
      · cases hx
    · cases hx
  · exact h.elim
end
end K15

namespace K15
open PySem PySem.Spec PyProof.Rows L2 DL QF
theorem lc_of {α : Type} {live : Mem → Prop} {g : DTG} {te : DTE} {p : Addr} {τ : DS} {M0 : Mem} (e f : α → D) (hl : ∀ xs, live (mupd M0 p (.lst xs))) : ∀ (r : List α) (acc : List D) (Q : Mem → Prop),
    (∀ d ∈ r, ∀ xs (K : DQ), K (f d) (mupd M0 p (.lst xs)) → g (e d) τ (mupd M0 p (.lst xs)) fun τ2 M2 => te τ2 M2 K) →
    acc.length + r.length ≤ sizeLine → Q (mupd M0 p (.lst (acc ++ r.map f))) → dLcL live g dYes te p τ (r.map e) acc (mupd M0 p (.lst acc)) Q
  | [], acc, Q, _, _, q => ⟨hl _, by simpa using q⟩
  | d :: r, acc, Q, h, hs, q => by
    refine ⟨hl _, ?_⟩
    have hs' : acc.length + r.length + 1 ≤ sizeLine := by simp only [List.length_cons] at hs; omega
    refine h d (List.mem_cons_self ..) acc (fun y M4 => M4 p = some (.lst acc) ∧ acc.length < sizeLine ∧ dLcL live g dYes te p τ (r.map e) (acc ++ [y]) (mupd M4 p (.lst (acc ++ [y]))) Q) ⟨mupd_same, by omega, ?_⟩
    rw [mupd_mupd]
    refine lc_of e f hl r (acc ++ [f d]) Q (fun d hd => h d (List.mem_cons_of_mem _ hd)) (by simp only [List.length_append, List.length_cons, List.length_nil]; omega) ?_
    simpa using q
theorem loop_of {α : Type} {live : Mem → Prop} {g : DTG} {tb : DTS} {E : DEnds} (e : α → D) (I : List α → DS → Mem → Prop) (hl : ∀ r τ M, I r τ M → live M)
    (step : ∀ d r τ M (X : DS → Mem → Prop), I (d :: r) τ M → (∀ τ M, I r τ M → X τ M) → g (e d) τ M fun τ2 M2 => tb { nx := X, rt := E.rt, bk := E.nx, ct := X } τ2 M2)
    (fin : ∀ τ M, I [] τ M → E.nx τ M) : ∀ (l : List α) (τ : DS) (M : Mem), I l τ M → dLoop live g tb (l.map e) E τ M
  | [], τ, M, h => ⟨hl _ _ _ h, fin _ _ h⟩
  | d :: r, τ, M, h => ⟨hl _ _ _ h, step d r τ M _ h fun τ M q => loop_of e I hl step fin r τ M q⟩
def allSz (l : List Rat) : Prop := ∀ c ∈ l, Sz c
theorem sz_zero : Sz 0 := ⟨(by decide : (0 : Int).natAbs < 2 ^ 3000), (by decide : (1 : Int).natAbs < 2 ^ 3000)⟩
theorem sz_one : Sz 1 := ⟨(by decide : (1 : Int).natAbs < 2 ^ 3000), (by decide : (1 : Int).natAbs < 2 ^ 3000)⟩
theorem sz_int {n : Int} (h : n.natAbs < 2 ^ 100) : Sz (n : Rat) := ⟨Nat.lt_trans h (Nat.pow_lt_pow_right (by decide) (by decide)), (by decide : (1 : Int).natAbs < 2 ^ 3000)⟩
theorem sz_co {l : List Rat} (h : allSz l) (i : Nat) : Sz (co l i) := by
  by_cases hi : i < l.length
  · exact h _ (List.mem_of_getElem? (co_lt hi))
  · rw [co_ge (by omega)]; exact sz_zero
section
variable {ds : List D} {M : Mem} {Q : DQ}
/-! ### scaled -/
def sp_scaled : DSp := fun ds M Q => ∃ (a : List Rat) (t : Rat), ds = [pq a, fq t] ∧ allSz a ∧ Sz t ∧ a.length ≤ 100 ∧ Q (pq (cut (a.map (· * t)))) M
theorem sp_scaled_mono : MonoSp sp_scaled := ⟨fun h ⟨a, t, e, x, y, z, q⟩ => ⟨a, t, e, x, y, z, h _ _ q⟩⟩
theorem body_scaled (hc : Clo Q) (h : sp_scaled ds M Q) : b_poly_scaled sp_poly_of sq_times { nx := fun _ M' => Q .non M', rt := Q } (dstart ["one", "fraction", "item"] ds) M := by
  obtain ⟨a, t, rfl, ha, ht, hl, h⟩ := h
  have big := sl1000
  simp only [b_poly_scaled, dSeq, dNext, dIf, dRet, dRetN, dDrop, dAsg, gN, gN0, gNc, gTp, gSubL, dPar, dPar3, dAug, dVar, dC, dOp, dUn, dTest, dAnd, dOr, dNot, dAndV, dOrV, dNotV, dIfE, dNil, dCons, dTup, dLst, dCB, dCall, dstart, dget, dset, dwp, dclr, asB, pI0, pI, pU, pAdd, pMul, pEqB, pIsB, pIx, pCI, pC2, pInt, pIsi, pLen, optQ, stL, lstAt, lsOf, atI0, atI1, atI2, atI3, ixN0, ixN1, ixN2, ixN3, mupd_same, mupd_mupd, dFor, iRng, List.map_cons, List.map_nil, List.length_cons, List.length_nil, List.replicate, List.cons_append, List.nil_append, List.append_nil, List.set_cons_zero, List.set_cons_succ, Nat.reduceAdd, Nat.reduceSub, Nat.sub_self, if_true, if_false, decide_eq_true_eq, Bool.false_eq_true, Bool.not_true, Bool.not_false, id_eq, ite_true, ite_false, iSeqD, pq, dLc]
  intro p np
  refine lc_of (M0 := M) fq (fun c => fq (c * t)) (fun _ => trivial) a [] _ (fun c hcc xs K k => ?_) (by simp; omega) ?_
  · simp only [dSeq, dNext, dIf, dRet, dRetN, dDrop, dAsg, gN, gN0, gNc, gTp, gSubL, dPar, dPar3, dAug, dVar, dC, dOp, dUn, dTest, dAnd, dOr, dNot, dAndV, dOrV, dNotV, dIfE, dNil, dCons, dTup, dLst, dCB, dCall, dstart, dget, dset, dwp, dclr, asB, pI0, pI, pU, pAdd, pMul, pEqB, pIsB, pIx, pCI, pC2, pInt, pIsi, pLen, optQ, stL, lstAt, lsOf, atI0, atI1, atI2, atI3, ixN0, ixN1, ixN2, ixN3, mupd_same, mupd_mupd, dFor, iRng, List.map_cons, List.map_nil, List.length_cons, List.length_nil, List.replicate, List.cons_append, List.nil_append, List.append_nil, List.set_cons_zero, List.set_cons_succ, Nat.reduceAdd, Nat.reduceSub, Nat.sub_self, if_true, if_false, decide_eq_true_eq, Bool.false_eq_true, Bool.not_true, Bool.not_false, id_eq, ite_true, ite_false]
    exact ⟨c, t, rfl, ha c hcc, ht, trivial, k⟩
  · simp only [dSeq, dNext, dIf, dRet, dRetN, dDrop, dAsg, gN, gN0, gNc, gTp, gSubL, dPar, dPar3, dAug, dVar, dC, dOp, dUn, dTest, dAnd, dOr, dNot, dAndV, dOrV, dNotV, dIfE, dNil, dCons, dTup, dLst, dCB, dCall, dstart, dget, dset, dwp, dclr, asB, pI0, pI, pU, pAdd, pMul, pEqB, pIsB, pIx, pCI, pC2, pInt, pIsi, pLen, optQ, stL, lstAt, lsOf, atI0, atI1, atI2, atI3, ixN0, ixN1, ixN2, ixN3, mupd_same, mupd_mupd, dFor, iRng, List.map_cons, List.map_nil, List.length_cons, List.length_nil, List.replicate, List.cons_append, List.nil_append, List.append_nil, List.set_cons_zero, List.set_cons_succ, Nat.reduceAdd, Nat.reduceSub, Nat.sub_self, if_true, if_false, decide_eq_true_eq, Bool.false_eq_true, Bool.not_true, Bool.not_false, id_eq, ite_true, ite_false]
    refine ⟨a.map (· * t), ?_, by simp; omega, hc _ _ _ (Sub.new np) h⟩
    unfold RowAt
    rw [mupd_same, List.map_map]; rfl
/-! ### sums -/
def addL (a b : List Rat) : List Rat := (List.range (max a.length b.length)).map fun i => co a i + co b i
def sp_added : DSp := fun ds M Q => ∃ a b : List Rat, ds = [pq a, pq b] ∧ allSz a ∧ allSz b ∧ a.length ≤ 100 ∧ b.length ≤ 100 ∧ Q (pq (cut (addL a b))) M
theorem sp_added_mono : MonoSp sp_added := ⟨fun h ⟨a, t, e, x, y, z, w, q⟩ => ⟨a, t, e, x, y, z, w, h _ _ q⟩⟩
def padR (n : Nat) (a : List Rat) : List Rat := a ++ List.replicate (n - a.length) 0
theorem rep_flat (k : Nat) (d : D) : (List.replicate k [d]).flatten = List.replicate k d := by
  induction k with
  | zero => rfl
  | succ k ih => rw [List.replicate_succ, List.flatten_cons, ih]; rfl
theorem pad_len {n : Nat} {a : List Rat} (h : a.length ≤ n) : (padR n a).length = n := by
  unfold padR
  rw [List.length_append, List.length_replicate]; omega
theorem pad_co {n : Nat} {a : List Rat} (i : Nat) : co (padR n a) i = co a i := by
  unfold co padR
  rw [List.getD_eq_getElem?_getD, List.getD_eq_getElem?_getD]
  by_cases h : i < a.length
  · rw [List.getElem?_append_left h]
  · rw [List.getElem?_append_right (by omega), List.getElem?_eq_none (show a.length ≤ i by omega), List.getElem?_replicate]
    split <;> rfl
theorem zip_fq : ∀ a b : List Rat, zipD (a.map fq) (b.map fq) = (a.zip b).map fun p => .tup [fq p.1, fq p.2]
  | [], _ => rfl
  | _ :: _, [] => rfl
  | x :: a, y :: b => by
    simp only [List.map_cons, zipD, List.zip_cons_cons]
    rw [zip_fq a b]
theorem zip_add {n : Nat} {a b : List Rat} (ha : a.length ≤ n) (hb : b.length ≤ n) : ((padR n a).zip (padR n b)).map (fun p => fq (p.1 + p.2)) = ((List.range n).map fun i => co a i + co b i).map fq := by
  apply List.ext_getElem?
  intro i
  rw [List.map_map, List.getElem?_map, List.getElem?_map]
  by_cases h : i < n
  · have e : ((padR n a).zip (padR n b))[i]? = some (co (padR n a) i, co (padR n b) i) := List.getElem?_zip_eq_some.mpr ⟨co_lt (by rw [pad_len ha]; exact h), co_lt (by rw [pad_len hb]; exact h)⟩
    rw [List.getElem?_range h, e]
    simp only [Option.map_some, pad_co, Function.comp]
  · rw [List.getElem?_eq_none (by rw [List.length_zip, pad_len ha, pad_len hb]; omega), List.getElem?_eq_none (by simp; omega)]; rfl
theorem body_added (hc : Clo Q) (h : sp_added ds M Q) : b_poly_added sp_poly_of sq_plus { nx := fun _ M' => Q .non M', rt := Q } (dstart ["one", "other", "most", "longer", "row", "first", "second"] ds) M := by
  obtain ⟨a, b, rfl, ha, hb, la, lb, h⟩ := h
  have big := sl1000
  obtain ⟨n, hn, n1, n2, n3⟩ : ∃ n : Nat, max ((a.length : Nat) : Int) ((b.length : Nat) : Int) = n ∧ max a.length b.length = n ∧ a.length ≤ n ∧ b.length ≤ n := ⟨max a.length b.length, by omega, rfl, by omega, by omega⟩
  unfold b_poly_added
  refine seq_cut fun R hR => ?_
  simp only [dSeq, dNext, dIf, dRet, dRetN, dDrop, dAsg, gN, gN0, gNc, gTp, gSubL, dPar, dPar3, dAug, dVar, dC, dOp, dUn, dTest, dAnd, dOr, dNot, dAndV, dOrV, dNotV, dIfE, dNil, dCons, dTup, dLst, dCB, dCall, dstart, dget, dset, dwp, dclr, asB, pI0, pI, pU, pAdd, pMul, pEqB, pIsB, pIx, pCI, pC2, pInt, pIsi, pLen, optQ, stL, lstAt, lsOf, atI0, atI1, atI2, atI3, ixN0, ixN1, ixN2, ixN3, mupd_same, mupd_mupd, dFor, iRng, List.map_cons, List.map_nil, List.length_cons, List.length_nil, List.replicate, List.cons_append, List.nil_append, List.append_nil, List.set_cons_zero, List.set_cons_succ, Nat.reduceAdd, Nat.reduceSub, Nat.sub_self, if_true, if_false, decide_eq_true_eq, Bool.false_eq_true, Bool.not_true, Bool.not_false, id_eq, ite_true, ite_false, pq, pC2, List.length_map, hn]
  subst hR
  refine seq_cut fun R hR => ?_
  simp only [dSeq, dNext, dIf, dRet, dRetN, dDrop, dAsg, gN, gN0, gNc, gTp, gSubL, dPar, dPar3, dAug, dVar, dC, dOp, dUn, dTest, dAnd, dOr, dNot, dAndV, dOrV, dNotV, dIfE, dNil, dCons, dTup, dLst, dCB, dCall, dstart, dget, dset, dwp, dclr, asB, pI0, pI, pU, pAdd, pMul, pEqB, pIsB, pIx, pCI, pC2, pInt, pIsi, pLen, optQ, stL, lstAt, lsOf, atI0, atI1, atI2, atI3, ixN0, ixN1, ixN2, ixN3, mupd_same, mupd_mupd, dFor, iRng, List.map_cons, List.map_nil, List.length_cons, List.length_nil, List.replicate, List.cons_append, List.nil_append, List.append_nil, List.set_cons_zero, List.set_cons_succ, Nat.reduceAdd, Nat.reduceSub, Nat.sub_self, if_true, if_false, decide_eq_true_eq, Bool.false_eq_true, Bool.not_true, Bool.not_false, id_eq, ite_true, ite_false, iSeqD, dLc]
  refine ⟨by omega, fun p np => ?_⟩
  have lst2 : [D.tup (a.map fq), D.tup (b.map fq)] = [a, b].map pq := rfl
  rw [lst2]
  refine lc_of (M0 := M) pq (fun c => pq (padR n c)) (fun _ => trivial) [a, b] [] _ (fun c hcc xs K k => ?_) (by simp; omega) ?_
  · have lc : c.length ≤ n ∧ c.length ≤ 100 := by
      simp only [List.mem_cons, List.not_mem_nil, or_false] at hcc
      rcases hcc with rfl | rfl
      · exact ⟨n2, la⟩
      · exact ⟨n3, lb⟩
    simp only [dSeq, dNext, dIf, dRet, dRetN, dDrop, dAsg, gN, gN0, gNc, gTp, gSubL, dPar, dPar3, dAug, dVar, dC, dOp, dUn, dTest, dAnd, dOr, dNot, dAndV, dOrV, dNotV, dIfE, dNil, dCons, dTup, dLst, dCB, dCall, dstart, dget, dset, dwp, dclr, asB, pI0, pI, pU, pAdd, pMul, pEqB, pIsB, pIx, pCI, pC2, pInt, pIsi, pLen, optQ, stL, lstAt, lsOf, atI0, atI1, atI2, atI3, ixN0, ixN1, ixN2, ixN3, mupd_same, mupd_mupd, dFor, iRng, List.map_cons, List.map_nil, List.length_cons, List.length_nil, List.replicate, List.cons_append, List.nil_append, List.append_nil, List.set_cons_zero, List.set_cons_succ, Nat.reduceAdd, Nat.reduceSub, Nat.sub_self, if_true, if_false, decide_eq_true_eq, Bool.false_eq_true, Bool.not_true, Bool.not_false, id_eq, ite_true, ite_false, pq, pTuple, pRepT, List.length_map, rep_flat]
    refine ⟨by omega, by omega, by omega, by omega, ?_, ?_⟩
    · rw [List.length_replicate]; omega
    · have e : List.map fq c ++ List.replicate (((n : Int) - (c.length : Nat)).toNat) (D.tup [.int 0, .int 1]) = (padR n c).map fq := by
        unfold padR
        rw [List.map_append, List.map_replicate, show ((n : Int) - (c.length : Nat)).toNat = n - c.length by omega]; rfl
      rw [e]; exact k
  · simp only [dSeq, dNext, dIf, dRet, dRetN, dDrop, dAsg, gN, gN0, gNc, gTp, gSubL, dPar, dPar3, dAug, dVar, dC, dOp, dUn, dTest, dAnd, dOr, dNot, dAndV, dOrV, dNotV, dIfE, dNil, dCons, dTup, dLst, dCB, dCall, dstart, dget, dset, dwp, dclr, asB, pI0, pI, pU, pAdd, pMul, pEqB, pIsB, pIx, pCI, pC2, pInt, pIsi, pLen, optQ, stL, lstAt, lsOf, atI0, atI1, atI2, atI3, ixN0, ixN1, ixN2, ixN3, mupd_same, mupd_mupd, dFor, iRng, List.map_cons, List.map_nil, List.length_cons, List.length_nil, List.replicate, List.cons_append, List.nil_append, List.append_nil, List.set_cons_zero, List.set_cons_succ, Nat.reduceAdd, Nat.reduceSub, Nat.sub_self, if_true, if_false, decide_eq_true_eq, Bool.false_eq_true, Bool.not_true, Bool.not_false, id_eq, ite_true, ite_false]
    subst hR
    simp only [dSeq, dNext, dIf, dRet, dRetN, dDrop, dAsg, gN, gN0, gNc, gTp, gSubL, dPar, dPar3, dAug, dVar, dC, dOp, dUn, dTest, dAnd, dOr, dNot, dAndV, dOrV, dNotV, dIfE, dNil, dCons, dTup, dLst, dCB, dCall, dstart, dget, dset, dwp, dclr, asB, pI0, pI, pU, pAdd, pMul, pEqB, pIsB, pIx, pCI, pC2, pInt, pIsi, pLen, optQ, stL, lstAt, lsOf, atI0, atI1, atI2, atI3, ixN0, ixN1, ixN2, ixN3, mupd_same, mupd_mupd, dFor, iRng, List.map_cons, List.map_nil, List.length_cons, List.length_nil, List.replicate, List.cons_append, List.nil_append, List.append_nil, List.set_cons_zero, List.set_cons_succ, Nat.reduceAdd, Nat.reduceSub, Nat.sub_self, if_true, if_false, decide_eq_true_eq, Bool.false_eq_true, Bool.not_true, Bool.not_false, id_eq, ite_true, ite_false, dLc, iZipD, pq, List.nil_append]
    rw [zip_fq]
    intro p2 np2
    refine lc_of (live := fun _ => True) (p := p2) (M0 := mupd M p (.lst ([a, b].map fun c => pq (padR n c)))) (fun p => .tup [fq p.1, fq p.2]) (fun p => fq (p.1 + p.2)) (fun _ => trivial) ((padR n a).zip (padR n b)) [] _ (fun c hcc xs K k => ?_) (by rw [List.length_zip, pad_len n2, pad_len n3]; simp; omega) ?_
    · have pz : ∀ l : List Rat, allSz l → allSz (padR n l) := fun l hl d hd => by
        rcases List.mem_append.mp hd with hd | hd
        · exact hl d hd
        · rw [List.eq_of_mem_replicate hd]; exact sz_zero
      simp only [dSeq, dNext, dIf, dRet, dRetN, dDrop, dAsg, gN, gN0, gNc, gTp, gSubL, dPar, dPar3, dAug, dVar, dC, dOp, dUn, dTest, dAnd, dOr, dNot, dAndV, dOrV, dNotV, dIfE, dNil, dCons, dTup, dLst, dCB, dCall, dstart, dget, dset, dwp, dclr, asB, pI0, pI, pU, pAdd, pMul, pEqB, pIsB, pIx, pCI, pC2, pInt, pIsi, pLen, optQ, stL, lstAt, lsOf, atI0, atI1, atI2, atI3, ixN0, ixN1, ixN2, ixN3, mupd_same, mupd_mupd, dFor, iRng, List.map_cons, List.map_nil, List.length_cons, List.length_nil, List.replicate, List.cons_append, List.nil_append, List.append_nil, List.set_cons_zero, List.set_cons_succ, Nat.reduceAdd, Nat.reduceSub, Nat.sub_self, if_true, if_false, decide_eq_true_eq, Bool.false_eq_true, Bool.not_true, Bool.not_false, id_eq, ite_true, ite_false]
      exact ⟨trivial, c.1, c.2, rfl, pz a ha _ (List.of_mem_zip hcc).1, pz b hb _ (List.of_mem_zip hcc).2, trivial, k⟩
    · simp only [dSeq, dNext, dIf, dRet, dRetN, dDrop, dAsg, gN, gN0, gNc, gTp, gSubL, dPar, dPar3, dAug, dVar, dC, dOp, dUn, dTest, dAnd, dOr, dNot, dAndV, dOrV, dNotV, dIfE, dNil, dCons, dTup, dLst, dCB, dCall, dstart, dget, dset, dwp, dclr, asB, pI0, pI, pU, pAdd, pMul, pEqB, pIsB, pIx, pCI, pC2, pInt, pIsi, pLen, optQ, stL, lstAt, lsOf, atI0, atI1, atI2, atI3, ixN0, ixN1, ixN2, ixN3, mupd_same, mupd_mupd, dFor, iRng, List.map_cons, List.map_nil, List.length_cons, List.length_nil, List.replicate, List.cons_append, List.nil_append, List.append_nil, List.set_cons_zero, List.set_cons_succ, Nat.reduceAdd, Nat.reduceSub, Nat.sub_self, if_true, if_false, decide_eq_true_eq, Bool.false_eq_true, Bool.not_true, Bool.not_false, id_eq, ite_true, ite_false]
      refine ⟨addL a b, ?_, by unfold addL; simp; omega, hc _ _ _ ((Sub.new np).trans (Sub.new np2)) h⟩
      unfold RowAt addL
      rw [mupd_same, zip_add n2 n3, n1]
/-! ### slope -/
def slL (a : List Rat) : List Rat := (List.range (a.length - 1)).map fun i => co a (i + 1) * (((i : Int) + 1 : Int) : Rat)
def sp_slope : DSp := fun ds M Q => ∃ a : List Rat, ds = [pq a] ∧ allSz a ∧ a.length ≤ 100 ∧ Q (pq (cut (slL a))) M
theorem sp_slope_mono : MonoSp sp_slope := ⟨fun h ⟨a, e, x, y, q⟩ => ⟨a, e, x, y, h _ _ q⟩⟩
theorem rng1 (n : Nat) : rngD 1 (n : Int) = (List.range (n - 1)).map fun (i : Nat) => D.int ((i : Int) + 1) := by
  unfold rngD
  rw [show ((n : Int) - 1).toNat = n - 1 by omega]
  apply List.map_congr_left
  intro i _
  congr 1; omega
theorem slope_lc {a : List Rat} (ha : allSz a) (la : a.length ≤ 100) {p : Addr} {M0 : Mem} {g : DTG} {te : DTE} {τ : DS} {Q : Mem → Prop}
    (hg : ∀ (i : Nat) xs (K : DQ), i + 1 < a.length → K (fq (co a (i + 1) * (((i : Int) + 1 : Int) : Rat))) (mupd M0 p (.lst xs)) → g (.int ((i : Int) + 1)) τ (mupd M0 p (.lst xs)) fun τ2 M2 => te τ2 M2 K)
    (h : Q (mupd M0 p (.lst ((slL a).map fq)))) : dLcL (fun _ => True) g dYes te p τ (rngD 1 (a.length : Int)) [] (mupd M0 p (.lst [])) Q := by
  have big := sl1000
  rw [rng1]
  refine lc_of (live := fun _ => True) (p := p) (M0 := M0) (fun i : Nat => D.int ((i : Int) + 1)) (fun i => fq (co a (i + 1) * (((i : Int) + 1 : Int) : Rat))) (fun _ => trivial) _ [] _ (fun i hi xs K k => ?_) (by simp; omega) ?_
  · have := List.mem_range.mp hi
    exact hg i xs K (by omega) k
  · unfold slL at h
    rw [List.map_map] at h
    exact h
theorem slope_te {a : List Rat} (ha : allSz a) (la : a.length ≤ 100) {i : Nat} (hi : i + 1 < a.length) {K : DQ} {M : Mem} (k : K (fq (co a (i + 1) * (((i : Int) + 1 : Int) : Rat))) M) : sq_times [fq (co a (i + 1)), .tup [.int ((i : Int) + 1), .int 1]] M K :=
  ⟨_, (((i : Int) + 1 : Int) : Rat), rfl, sz_co ha _, sz_int (by omega), trivial, k⟩
theorem body_slope (hc : Clo Q) (h : sp_slope ds M Q) : b_poly_slope sp_poly_of sq_times { nx := fun _ M' => Q .non M', rt := Q } (dstart ["one", "at"] ds) M := by
  obtain ⟨a, rfl, ha, hl, h⟩ := h
  have big := sl1000
  simp only [b_poly_slope, dSeq, dNext, dIf, dRet, dRetN, dDrop, dAsg, gN, gN0, gNc, gTp, gSubL, dPar, dPar3, dAug, dVar, dC, dOp, dUn, dTest, dAnd, dOr, dNot, dAndV, dOrV, dNotV, dIfE, dNil, dCons, dTup, dLst, dCB, dCall, dstart, dget, dset, dwp, dclr, asB, pI0, pI, pU, pAdd, pMul, pEqB, pIsB, pIx, pCI, pC2, pInt, pIsi, pLen, optQ, stL, lstAt, lsOf, atI0, atI1, atI2, atI3, ixN0, ixN1, ixN2, ixN3, mupd_same, mupd_mupd, dFor, iRng, List.map_cons, List.map_nil, List.length_cons, List.length_nil, List.replicate, List.cons_append, List.nil_append, List.append_nil, List.set_cons_zero, List.set_cons_succ, Nat.reduceAdd, Nat.reduceSub, Nat.sub_self, if_true, if_false, decide_eq_true_eq, Bool.false_eq_true, Bool.not_true, Bool.not_false, id_eq, ite_true, ite_false, pq, dLc, List.length_map]
  refine ⟨⟨⟨by decide, by decide⟩, by omega, by omega⟩, fun p np => ?_⟩
  refine slope_lc ha hl (fun i xs K hi k => ?_) ?_
  · simp only [dSeq, dNext, dIf, dRet, dRetN, dDrop, dAsg, gN, gN0, gNc, gTp, gSubL, dPar, dPar3, dAug, dVar, dC, dOp, dUn, dTest, dAnd, dOr, dNot, dAndV, dOrV, dNotV, dIfE, dNil, dCons, dTup, dLst, dCB, dCall, dstart, dget, dset, dwp, dclr, asB, pI0, pI, pU, pAdd, pMul, pEqB, pIsB, pIx, pCI, pC2, pInt, pIsi, pLen, optQ, stL, lstAt, lsOf, atI0, atI1, atI2, atI3, ixN0, ixN1, ixN2, ixN3, mupd_same, mupd_mupd, dFor, iRng, List.map_cons, List.map_nil, List.length_cons, List.length_nil, List.replicate, List.cons_append, List.nil_append, List.append_nil, List.set_cons_zero, List.set_cons_succ, Nat.reduceAdd, Nat.reduceSub, Nat.sub_self, if_true, if_false, decide_eq_true_eq, Bool.false_eq_true, Bool.not_true, Bool.not_false, id_eq, ite_true, ite_false]
    rw [show (i : Int) + 1 = ((i + 1 : Nat) : Int) from rfl, atI_fq hi]
    exact ⟨by decide, slope_te ha hl hi k⟩
  · refine ⟨slL a, mupd_same, by unfold slL; simp; omega, hc _ _ _ (Sub.new np) h⟩
/-! ### sum and value -/
def sp_sum : DSp := fun ds M Q => ∃ a : List Rat, ds = [pq a] ∧ PZ a ∧ Q (fq (smP a a.length)) M
theorem sp_sum_mono : MonoSp sp_sum := ⟨fun h ⟨a, e, x, q⟩ => ⟨a, e, x, h _ _ q⟩⟩
theorem enum_fq : ∀ (a : List Rat) (i : Nat), enumFrom i (a.map fq) = (List.range a.length).map fun j => .tup [.int ((i + j : Nat) : Int), fq (co a j)]
  | [], _ => rfl
  | c :: a, i => by
    rw [List.map_cons, enumFrom, enum_fq a (i + 1), List.length_cons, List.range_succ_eq_map, List.map_cons, List.map_map]
    congr 1
    apply List.map_congr_left
    intro j _
    simp only [Function.comp]
    rw [show i + 1 + j = i + (j + 1) by omega]
    rfl
theorem range_loop {live : Mem → Prop} {g : DTG} {tb : DTS} {E : DEnds} {n : Nat} (e : Nat → D) (I : Nat → DS → Mem → Prop) (hl : ∀ i τ M, I i τ M → live M)
    (step : ∀ i τ M (X : DS → Mem → Prop), i < n → I i τ M → (∀ τ M, I (i + 1) τ M → X τ M) → g (e i) τ M fun τ2 M2 => tb { nx := X, rt := E.rt, bk := E.nx, ct := X } τ2 M2)
    (fin : ∀ τ M, I n τ M → E.nx τ M) (τ : DS) (M : Mem) (h : I 0 τ M) : dLoop live g tb ((List.range n).map e) E τ M := by
  refine loop_of e (fun r τ M => ∃ i, r = (List.range n).drop i ∧ i ≤ n ∧ I i τ M) (fun r τ M ⟨i, _, _, q⟩ => hl i τ M q) ?_ ?_ _ _ _ ⟨0, rfl, Nat.zero_le _, h⟩
  · rintro d r τ M X ⟨i, e1, hi, q⟩ hX
    by_cases hin : i < n
    · have hd : (List.range n).drop i = i :: (List.range n).drop (i + 1) := by
        rw [List.drop_eq_getElem_cons (by simpa using hin)]
        simp
      rw [hd] at e1
      injection e1 with e1 e2
      subst e1
      exact step d τ M X hin q fun τ M q => hX τ M ⟨d + 1, e2, hin, q⟩
    · rw [List.drop_eq_nil_of_le (by simp; omega)] at e1
      cases e1
  · rintro τ M ⟨i, e1, hi, q⟩
    have : i = n := by
      have := congrArg List.length e1
      simp at this
      omega
    subst this
    exact fin τ M q
theorem body_sum (h : sp_sum ds M Q) : b_poly_sum sq_plus sq_over { nx := fun _ M' => Q .non M', rt := Q } (dstart ["one", "found", "at", "item"] ds) M := by
  obtain ⟨a, rfl, ha, h⟩ := h
  have hl := ha.len
  simp only [b_poly_sum, dSeq, dNext, dIf, dRet, dRetN, dDrop, dAsg, gN, gN0, gNc, gTp, gSubL, dPar, dPar3, dAug, dVar, dC, dOp, dUn, dTest, dAnd, dOr, dNot, dAndV, dOrV, dNotV, dIfE, dNil, dCons, dTup, dLst, dCB, dCall, dstart, dget, dset, dwp, dclr, asB, pI0, pI, pU, pAdd, pMul, pEqB, pIsB, pIx, pCI, pC2, pInt, pIsi, pLen, optQ, stL, lstAt, lsOf, atI0, atI1, atI2, atI3, ixN0, ixN1, ixN2, ixN3, mupd_same, mupd_mupd, dFor, iRng, List.map_cons, List.map_nil, List.length_cons, List.length_nil, List.replicate, List.cons_append, List.nil_append, List.append_nil, List.set_cons_zero, List.set_cons_succ, Nat.reduceAdd, Nat.reduceSub, Nat.sub_self, if_true, if_false, decide_eq_true_eq, Bool.false_eq_true, Bool.not_true, Bool.not_false, id_eq, ite_true, ite_false, pq, iEnumD, enum_fq]
  refine range_loop (n := a.length) _ (fun i τ M' => M' = M ∧ ∃ u v, τ = [some (.tup (a.map fq)), some (fq (smP a i)), u, v]) (fun _ _ _ _ => trivial) ?_ ?_ _ _ ⟨rfl, none, none, rfl⟩
  · rintro i τ M' X hi ⟨rfl, u, v, rfl⟩ hX
    have hm : co a i ∈ a := List.mem_of_getElem? (co_lt hi)
    simp only [dSeq, dNext, dIf, dRet, dRetN, dDrop, dAsg, gN, gN0, gNc, gTp, gSubL, dPar, dPar3, dAug, dVar, dC, dOp, dUn, dTest, dAnd, dOr, dNot, dAndV, dOrV, dNotV, dIfE, dNil, dCons, dTup, dLst, dCB, dCall, dstart, dget, dset, dwp, dclr, asB, pI0, pI, pU, pAdd, pMul, pEqB, pIsB, pIx, pCI, pC2, pInt, pIsi, pLen, optQ, stL, lstAt, lsOf, atI0, atI1, atI2, atI3, ixN0, ixN1, ixN2, ixN3, mupd_same, mupd_mupd, dFor, iRng, List.map_cons, List.map_nil, List.length_cons, List.length_nil, List.replicate, List.cons_append, List.nil_append, List.append_nil, List.set_cons_zero, List.set_cons_succ, Nat.reduceAdd, Nat.reduceSub, Nat.sub_self, if_true, if_false, decide_eq_true_eq, Bool.false_eq_true, Bool.not_true, Bool.not_false, id_eq, ite_true, ite_false, Nat.zero_add]
    refine ⟨trivial, by decide, co a i, (((i : Int) + 1 : Int) : Rat), rfl, ha.sz _ hm, sz_int (by omega), rat_ne (by omega), _, _, rfl, smP_sz ha (by omega), div_sz ha hm (by omega), trivial, hX _ _ ⟨rfl, _, _, rfl⟩⟩
  · rintro τ M' ⟨rfl, u, v, rfl⟩
    simp only [dSeq, dNext, dIf, dRet, dRetN, dDrop, dAsg, gN, gN0, gNc, gTp, gSubL, dPar, dPar3, dAug, dVar, dC, dOp, dUn, dTest, dAnd, dOr, dNot, dAndV, dOrV, dNotV, dIfE, dNil, dCons, dTup, dLst, dCB, dCall, dstart, dget, dset, dwp, dclr, asB, pI0, pI, pU, pAdd, pMul, pEqB, pIsB, pIx, pCI, pC2, pInt, pIsi, pLen, optQ, stL, lstAt, lsOf, atI0, atI1, atI2, atI3, ixN0, ixN1, ixN2, ixN3, mupd_same, mupd_mupd, dFor, iRng, List.map_cons, List.map_nil, List.length_cons, List.length_nil, List.replicate, List.cons_append, List.nil_append, List.append_nil, List.set_cons_zero, List.set_cons_succ, Nat.reduceAdd, Nat.reduceSub, Nat.sub_self, if_true, if_false, decide_eq_true_eq, Bool.false_eq_true, Bool.not_true, Bool.not_false, id_eq, ite_true, ite_false]
    exact h
def sp_at : DSp := fun ds M Q => ∃ (a : List Rat) (x : Rat), ds = [pq a, fq x] ∧ PZ a ∧ XZ x ∧ Q (fq (ev a x)) M
theorem sp_at_mono : MonoSp sp_at := ⟨fun h ⟨a, x, e, y, z, q⟩ => ⟨a, x, e, y, z, h _ _ q⟩⟩
theorem body_at (h : sp_at ds M Q) : b_poly_at sq_plus sq_times { nx := fun _ M' => Q .non M', rt := Q } (dstart ["one", "place", "found", "item"] ds) M := by
  obtain ⟨a, x, rfl, ha, hx, h⟩ := h
  simp only [b_poly_at, dSeq, dNext, dIf, dRet, dRetN, dDrop, dAsg, gN, gN0, gNc, gTp, gSubL, dPar, dPar3, dAug, dVar, dC, dOp, dUn, dTest, dAnd, dOr, dNot, dAndV, dOrV, dNotV, dIfE, dNil, dCons, dTup, dLst, dCB, dCall, dstart, dget, dset, dwp, dclr, asB, pI0, pI, pU, pAdd, pMul, pEqB, pIsB, pIx, pCI, pC2, pInt, pIsi, pLen, optQ, stL, lstAt, lsOf, atI0, atI1, atI2, atI3, ixN0, ixN1, ixN2, ixN3, mupd_same, mupd_mupd, dFor, iRng, List.map_cons, List.map_nil, List.length_cons, List.length_nil, List.replicate, List.cons_append, List.nil_append, List.append_nil, List.set_cons_zero, List.set_cons_succ, Nat.reduceAdd, Nat.reduceSub, Nat.sub_self, if_true, if_false, decide_eq_true_eq, Bool.false_eq_true, Bool.not_true, Bool.not_false, id_eq, ite_true, ite_false, pq, dRev, iSeqD, ← List.map_reverse]
  refine loop_of fq (fun r τ M' => M' = M ∧ ∃ s, a.reverse = s ++ r ∧ ∃ u, τ = [some (.tup (a.map fq)), some (fq x), some (fq (ev s.reverse x)), u]) (fun _ _ _ _ => trivial) ?_ ?_ a.reverse _ _ ⟨rfl, [], rfl, none, rfl⟩
  · rintro d r τ M' X ⟨rfl, s, es, u, rfl⟩ hX
    have sub : ∀ c ∈ d :: s.reverse, c ∈ a := fun c hcc => by
      rw [← List.mem_reverse, es]
      rcases List.mem_cons.mp hcc with rfl | hcc
      · simp
      · simp [List.mem_reverse.mp hcc]
    have len : (d :: s.reverse).length ≤ a.length := by
      have := congrArg List.length es
      simp at this ⊢
      omega
    have z := ev_sz (ha.sub (k := s.reverse) (fun c hc => sub c (List.mem_cons_of_mem _ hc)) (by simp at len ⊢; omega)) hx
    simp only [dSeq, dNext, dIf, dRet, dRetN, dDrop, dAsg, gN, gN0, gNc, gTp, gSubL, dPar, dPar3, dAug, dVar, dC, dOp, dUn, dTest, dAnd, dOr, dNot, dAndV, dOrV, dNotV, dIfE, dNil, dCons, dTup, dLst, dCB, dCall, dstart, dget, dset, dwp, dclr, asB, pI0, pI, pU, pAdd, pMul, pEqB, pIsB, pIx, pCI, pC2, pInt, pIsi, pLen, optQ, stL, lstAt, lsOf, atI0, atI1, atI2, atI3, ixN0, ixN1, ixN2, ixN3, mupd_same, mupd_mupd, dFor, iRng, List.map_cons, List.map_nil, List.length_cons, List.length_nil, List.replicate, List.cons_append, List.nil_append, List.append_nil, List.set_cons_zero, List.set_cons_succ, Nat.reduceAdd, Nat.reduceSub, Nat.sub_self, if_true, if_false, decide_eq_true_eq, Bool.false_eq_true, Bool.not_true, Bool.not_false, id_eq, ite_true, ite_false]
    refine ⟨_, _, rfl, z.1, hx.sz, trivial, _, _, rfl, z.2, ha.sz _ (sub d (List.mem_cons_self ..)), trivial, hX _ _ ⟨rfl, s ++ [d], by simp [es], some (fq d), ?_⟩⟩
    rw [List.reverse_append]
    show _ = [_, _, some (fq (ev (d :: s.reverse) x)), _]
    have e : ev s.reverse x * x + d = d + x * ev s.reverse x := by grind
    dsimp only
    rw [ev, e]
  · rintro τ M' ⟨rfl, s, es, u, rfl⟩
    rw [List.append_nil] at es
    simp only [dSeq, dNext, dIf, dRet, dRetN, dDrop, dAsg, gN, gN0, gNc, gTp, gSubL, dPar, dPar3, dAug, dVar, dC, dOp, dUn, dTest, dAnd, dOr, dNot, dAndV, dOrV, dNotV, dIfE, dNil, dCons, dTup, dLst, dCB, dCall, dstart, dget, dset, dwp, dclr, asB, pI0, pI, pU, pAdd, pMul, pEqB, pIsB, pIx, pCI, pC2, pInt, pIsi, pLen, optQ, stL, lstAt, lsOf, atI0, atI1, atI2, atI3, ixN0, ixN1, ixN2, ixN3, mupd_same, mupd_mupd, dFor, iRng, List.map_cons, List.map_nil, List.length_cons, List.length_nil, List.replicate, List.cons_append, List.nil_append, List.append_nil, List.set_cons_zero, List.set_cons_succ, Nat.reduceAdd, Nat.reduceSub, Nat.sub_self, if_true, if_false, decide_eq_true_eq, Bool.false_eq_true, Bool.not_true, Bool.not_false, id_eq, ite_true, ite_false, ← es, List.reverse_reverse]
    exact h
theorem body__law_at (h : sp_at ds M Q) : b__law_at sq_times sq_plus { nx := fun _ M' => Q .non M', rt := Q } (dstart ["one", "place", "found", "power", "item"] ds) M := by
  obtain ⟨a, x, rfl, ha, hx, h⟩ := h
  simp only [b__law_at, dSeq, dNext, dIf, dRet, dRetN, dDrop, dAsg, gN, gN0, gNc, gTp, gSubL, dPar, dPar3, dAug, dVar, dC, dOp, dUn, dTest, dAnd, dOr, dNot, dAndV, dOrV, dNotV, dIfE, dNil, dCons, dTup, dLst, dCB, dCall, dstart, dget, dset, dwp, dclr, asB, pI0, pI, pU, pAdd, pMul, pEqB, pIsB, pIx, pCI, pC2, pInt, pIsi, pLen, optQ, stL, lstAt, lsOf, atI0, atI1, atI2, atI3, ixN0, ixN1, ixN2, ixN3, mupd_same, mupd_mupd, dFor, iRng, List.map_cons, List.map_nil, List.length_cons, List.length_nil, List.replicate, List.cons_append, List.nil_append, List.append_nil, List.set_cons_zero, List.set_cons_succ, Nat.reduceAdd, Nat.reduceSub, Nat.sub_self, if_true, if_false, decide_eq_true_eq, Bool.false_eq_true, Bool.not_true, Bool.not_false, id_eq, ite_true, ite_false, pq, iSeqD]
  refine ⟨by decide, by decide, by decide, trivial, ?_⟩
  refine loop_of fq (fun r τ M' => M' = M ∧ ∃ s, a = s ++ r ∧ ∃ u, τ = [some (.tup (a.map fq)), some (fq x), some (fq (ev s x)), some (fq (x ^ s.length)), u]) (fun _ _ _ _ => trivial) ?_ ?_ a _ _ ⟨rfl, [], rfl, none, by rw [List.length_nil, Rat.pow_zero]; rfl⟩
  · rintro d r τ M' X ⟨rfl, s, es, u, rfl⟩ hX
    have hd : d ∈ a := by rw [es]; simp
    have len : s.length ≤ 46 := by
      have := congrArg List.length es
      have := ha.len
      simp at *
      omega
    have z := ev_sz (ha.sub (k := s) (fun c hc => by rw [es]; simp [hc]) (by rw [es]; simp)) hx
    simp only [dSeq, dNext, dIf, dRet, dRetN, dDrop, dAsg, gN, gN0, gNc, gTp, gSubL, dPar, dPar3, dAug, dVar, dC, dOp, dUn, dTest, dAnd, dOr, dNot, dAndV, dOrV, dNotV, dIfE, dNil, dCons, dTup, dLst, dCB, dCall, dstart, dget, dset, dwp, dclr, asB, pI0, pI, pU, pAdd, pMul, pEqB, pIsB, pIx, pCI, pC2, pInt, pIsi, pLen, optQ, stL, lstAt, lsOf, atI0, atI1, atI2, atI3, ixN0, ixN1, ixN2, ixN3, mupd_same, mupd_mupd, dFor, iRng, List.map_cons, List.map_nil, List.length_cons, List.length_nil, List.replicate, List.cons_append, List.nil_append, List.append_nil, List.set_cons_zero, List.set_cons_succ, Nat.reduceAdd, Nat.reduceSub, Nat.sub_self, if_true, if_false, decide_eq_true_eq, Bool.false_eq_true, Bool.not_true, Bool.not_false, id_eq, ite_true, ite_false]
    refine ⟨_, _, rfl, ha.sz _ hd, pow_sz hx len, trivial, _, _, rfl, z.1, item_sz ha hx hd len, trivial, _, _, rfl, pow_sz hx len, hx.sz, trivial, hX _ _ ⟨rfl, s ++ [d], by simp [es], some (fq d), ?_⟩⟩
    have e : ev s x + d * x ^ s.length = ev s x + x ^ s.length * d := by grind
    dsimp only
    rw [ev_snoc, List.length_append, List.length_singleton, Rat.pow_succ, e]
  · rintro τ M' ⟨rfl, s, es, u, rfl⟩
    rw [List.append_nil] at es
    subst es
    simp only [dSeq, dNext, dIf, dRet, dRetN, dDrop, dAsg, gN, gN0, gNc, gTp, gSubL, dPar, dPar3, dAug, dVar, dC, dOp, dUn, dTest, dAnd, dOr, dNot, dAndV, dOrV, dNotV, dIfE, dNil, dCons, dTup, dLst, dCB, dCall, dstart, dget, dset, dwp, dclr, asB, pI0, pI, pU, pAdd, pMul, pEqB, pIsB, pIx, pCI, pC2, pInt, pIsi, pLen, optQ, stL, lstAt, lsOf, atI0, atI1, atI2, atI3, ixN0, ixN1, ixN2, ixN3, mupd_same, mupd_mupd, dFor, iRng, List.map_cons, List.map_nil, List.length_cons, List.length_nil, List.replicate, List.cons_append, List.nil_append, List.append_nil, List.set_cons_zero, List.set_cons_succ, Nat.reduceAdd, Nat.reduceSub, Nat.sub_self, if_true, if_false, decide_eq_true_eq, Bool.false_eq_true, Bool.not_true, Bool.not_false, id_eq, ite_true, ite_false]
    exact h
end
end K15

namespace K15
open PySem PySem.Spec PyProof.Rows L2 DL QF
def ratI (l : List Int) : List Rat := l.map fun (n : Int) => (n : Rat)
section
variable {ds : List D} {M : Mem} {Q : DQ}
/-! ### whole numbers over one bottom -/
def sp_whole_of : DSp := fun ds M Q => ∃ (a : List Rat) (N B : Nat), ds = [pq a] ∧ 0 < N ∧ PB N B a ∧ N ≤ 2 ^ 1700 ∧ B ≤ 2 ^ 1800 ∧ a.length ≤ 100 ∧
  ∀ (p : Addr) (bot : Int) (A : List Int) (M' : Mem), Sub M M' → M' p = some (.lst (A.map D.int)) → 0 < bot → bot ≤ N → ratI A = a.map (· * (bot : Rat)) → (∀ n ∈ A, n.natAbs ≤ B) → Q (.tup [.ref p, .int bot]) M'
theorem sp_whole_of_mono : MonoSp sp_whole_of := ⟨fun h ⟨a, N, B, e, x, y, z, w, v, q⟩ => ⟨a, N, B, e, x, y, z, w, v, fun p bot A M' k1 k2 k3 k4 k5 k6 => h _ _ (q p bot A M' k1 k2 k3 k4 k5 k6)⟩⟩
theorem lcm_step {b d N : Int} (hb : 0 < b) (hd : 0 < d) (h1 : b ∣ N) (h2 : d ∣ N) : 0 < b * d.fdiv (Int.gcd b d) ∧ b * d.fdiv (Int.gcd b d) ∣ N ∧ b ∣ b * d.fdiv (Int.gcd b d) ∧ d ∣ b * d.fdiv (Int.gcd b d) := by
  have hg := gcd_pos (a := b) (b := d) (by omega)
  obtain ⟨x, hx⟩ := Int.gcd_dvd_left (a := b) (b := d)
  obtain ⟨y, hy⟩ := Int.gcd_dvd_right (a := b) (b := d)
  have hc : Int.gcd x y = 1 := by
    have key := Int.gcd_mul_left (Int.gcd b d : Int) x y
    rw [← hx, ← hy] at key
    exact Nat.eq_of_mul_eq_mul_left hg (by rw [Nat.mul_one]; exact key.symm)
  have ey : d.fdiv (Int.gcd b d) = y := by
    conv => lhs; arg 1; rw [hy]
    exact Int.mul_fdiv_cancel_left _ (by omega)
  rw [ey]
  generalize (Int.gcd b d) = g at *
  have y0 : 0 < y := by
    have : ¬ y ≤ 0 := fun q => by
      have := Int.mul_nonneg (show (0 : Int) ≤ g by omega) (show 0 ≤ -y by omega)
      rw [Int.mul_neg] at this
      omega
    omega
  refine ⟨Int.mul_pos hb y0, ?_, ⟨y, rfl⟩, ⟨x, by rw [hy, hx]; grind⟩⟩
  obtain ⟨u, hu⟩ := h1
  obtain ⟨v, hv⟩ := h2
  have e : (g : Int) * (x * u) = g * (y * v) := by
    rw [← Int.mul_assoc, ← Int.mul_assoc, ← hx, ← hy, ← hu, ← hv]
  have e2 : x * u = y * v := Int.eq_of_mul_eq_mul_left (by omega) e
  have d1 : y ∣ x * u := ⟨v, e2⟩
  have d2 : y ∣ u := by
    have q := Int.natAbs_dvd_natAbs.mpr d1
    rw [Int.natAbs_mul] at q
    have c : Nat.Coprime y.natAbs x.natAbs := (show Nat.Coprime x.natAbs y.natAbs from hc).symm
    exact Int.natAbs_dvd_natAbs.mp (c.dvd_of_dvd_mul_left q)
  obtain ⟨t, ht⟩ := d2
  exact ⟨t, by rw [hu, ht]; grind⟩
theorem den_pos (r : Rat) : (0 : Int) < (r.den : Int) := by have := r.den_pos; omega
theorem body_whole_of (h : sp_whole_of ds M Q) : b_whole_of sp_divisor_of { nx := fun _ M' => Q .non M', rt := Q } (dstart ["one", "bottom", "item"] ds) M := by
  obtain ⟨a, N, B, rfl, d0, hp, hD, hB, hl, h⟩ := h
  have big := sl1000
  have szc : ∀ c ∈ a, Sz c := fun c hc => (hp c hc).sz (lt3000 hD (by decide)) (lt3000 hB (by decide))
  have bd : ∀ b : Int, 0 < b → b ∣ (N : Int) → b ≤ N ∧ b.natAbs < 2 ^ 3000 := fun b b0 hb => by
    have := Int.le_of_dvd (by omega) hb
    have := lt3000 hD (by decide)
    exact ⟨by omega, by omega⟩
  unfold b_whole_of
  refine seq_cut fun R hR => ?_
  simp only [dSeq, dNext, dIf, dRet, dRetN, dDrop, dAsg, gN, gN0, gNc, gTp, gSubL, dPar, dPar3, dAug, dVar, dC, dOp, dUn, dTest, dAnd, dOr, dNot, dAndV, dOrV, dNotV, dIfE, dNil, dCons, dTup, dLst, dCB, dCall, dstart, dget, dset, dwp, dclr, asB, pI0, pI, pU, pAdd, pMul, pEqB, pIsB, pIx, pCI, pC2, pInt, pIsi, pLen, optQ, stL, lstAt, lsOf, atI0, atI1, atI2, atI3, ixN0, ixN1, ixN2, ixN3, mupd_same, mupd_mupd, dFor, iRng, List.map_cons, List.map_nil, List.length_cons, List.length_nil, List.replicate, List.cons_append, List.nil_append, List.append_nil, List.set_cons_zero, List.set_cons_succ, Nat.reduceAdd, Nat.reduceSub, Nat.sub_self, if_true, if_false, decide_eq_true_eq, Bool.false_eq_true, Bool.not_true, Bool.not_false, id_eq, ite_true, ite_false, pq]
  subst hR
  refine seq_cut fun R hR => ?_
  simp only [dSeq, dNext, dIf, dRet, dRetN, dDrop, dAsg, gN, gN0, gNc, gTp, gSubL, dPar, dPar3, dAug, dVar, dC, dOp, dUn, dTest, dAnd, dOr, dNot, dAndV, dOrV, dNotV, dIfE, dNil, dCons, dTup, dLst, dCB, dCall, dstart, dget, dset, dwp, dclr, asB, pI0, pI, pU, pAdd, pMul, pEqB, pIsB, pIx, pCI, pC2, pInt, pIsi, pLen, optQ, stL, lstAt, lsOf, atI0, atI1, atI2, atI3, ixN0, ixN1, ixN2, ixN3, mupd_same, mupd_mupd, dFor, iRng, List.map_cons, List.map_nil, List.length_cons, List.length_nil, List.replicate, List.cons_append, List.nil_append, List.append_nil, List.set_cons_zero, List.set_cons_succ, Nat.reduceAdd, Nat.reduceSub, Nat.sub_self, if_true, if_false, decide_eq_true_eq, Bool.false_eq_true, Bool.not_true, Bool.not_false, id_eq, ite_true, ite_false, iSeqD]
  refine loop_of fq (fun r τ M' => M' = M ∧ ∃ s, a = s ++ r ∧ ∃ (b : Int) (u : Option D), 0 < b ∧ b ∣ (N : Int) ∧ (∀ c ∈ s, (c.den : Int) ∣ b) ∧ τ = [some (.tup (a.map fq)), some (.int b), u]) (fun _ _ _ _ => trivial) ?_ ?_ a _ _ ⟨rfl, [], rfl, 1, none, by decide, ⟨N, by simp⟩, fun c hc => (by cases hc), rfl⟩
  · rintro c r τ M' X ⟨rfl, s, es, b, u, b0, bD, hs, rfl⟩ hX
    have hc : c ∈ a := by rw [es]; simp
    have cd := (hp c hc).den.1
    have st := lcm_step b0 (den_pos c) bD cd
    have bb := bd b b0 bD
    have db := bd _ (den_pos c) cd
    have g1 := gcd_pos (a := b) (b := (c.den : Int)) (by have := den_pos c; omega)
    have g2 : Int.gcd b (c.den : Int) ≤ (c.den : Int).natAbs := Nat.le_of_dvd (by have := den_pos c; omega) (Int.gcd_dvd_natAbs_right b _)
    have fb : ((c.den : Int).fdiv (Int.gcd b (c.den : Int) : Nat)).natAbs < 2 ^ 3000 := by
      have := fdiv_pos (a := (c.den : Int)) (b := ((Int.gcd b (c.den : Int) : Nat) : Int)) (by have := den_pos c; omega) (by omega)
      omega
    simp only [dSeq, dNext, dIf, dRet, dRetN, dDrop, dAsg, gN, gN0, gNc, gTp, gSubL, dPar, dPar3, dAug, dVar, dC, dOp, dUn, dTest, dAnd, dOr, dNot, dAndV, dOrV, dNotV, dIfE, dNil, dCons, dTup, dLst, dCB, dCall, dstart, dget, dset, dwp, dclr, asB, pI0, pI, pU, pAdd, pMul, pEqB, pIsB, pIx, pCI, pC2, pInt, pIsi, pLen, optQ, stL, lstAt, lsOf, atI0, atI1, atI2, atI3, ixN0, ixN1, ixN2, ixN3, mupd_same, mupd_mupd, dFor, iRng, List.map_cons, List.map_nil, List.length_cons, List.length_nil, List.replicate, List.cons_append, List.nil_append, List.append_nil, List.set_cons_zero, List.set_cons_succ, Nat.reduceAdd, Nat.reduceSub, Nat.sub_self, if_true, if_false, decide_eq_true_eq, Bool.false_eq_true, Bool.not_true, Bool.not_false, id_eq, ite_true, ite_false, fq, sp_divisor_of]
    refine ⟨cdv_small (b := 3000) (by omega) (by omega) (by decide), mulx_ok bb.2 fb (by decide), hX _ _ ⟨rfl, s ++ [c], by simp [es], _, _, st.1, st.2.1, ?_, rfl⟩⟩
    intro x hx
    rcases List.mem_append.mp hx with hx | hx
    · exact Int.dvd_trans (hs x hx) st.2.2.1
    · rw [List.mem_singleton.mp hx]; exact st.2.2.2
  · rintro τ M' ⟨rfl, s, es, b, u, b0, bD, hs, rfl⟩
    dsimp only
    subst hR
    rw [List.append_nil] at es
    subst es
    have bb := bd b b0 bD
    simp only [dSeq, dNext, dIf, dRet, dRetN, dDrop, dAsg, gN, gN0, gNc, gTp, gSubL, dPar, dPar3, dAug, dVar, dC, dOp, dUn, dTest, dAnd, dOr, dNot, dAndV, dOrV, dNotV, dIfE, dNil, dCons, dTup, dLst, dCB, dCall, dstart, dget, dset, dwp, dclr, asB, pI0, pI, pU, pAdd, pMul, pEqB, pIsB, pIx, pCI, pC2, pInt, pIsi, pLen, optQ, stL, lstAt, lsOf, atI0, atI1, atI2, atI3, ixN0, ixN1, ixN2, ixN3, mupd_same, mupd_mupd, dFor, iRng, List.map_cons, List.map_nil, List.length_cons, List.length_nil, List.replicate, List.cons_append, List.nil_append, List.append_nil, List.set_cons_zero, List.set_cons_succ, Nat.reduceAdd, Nat.reduceSub, Nat.sub_self, if_true, if_false, decide_eq_true_eq, Bool.false_eq_true, Bool.not_true, Bool.not_false, id_eq, ite_true, ite_false, dLc, iSeqD]
    intro p np
    refine lc_of (live := fun _ => True) (p := p) (M0 := M') fq (fun c => D.int (c.num * b.fdiv (c.den : Int))) (fun _ => trivial) a [] _ (fun c hc xs K k => ?_) (by simp; omega) ?_
    · have cd := bd _ (den_pos c) (hp c hc).den.1
      have fb := fdiv_pos (a := b) (b := (c.den : Int)) (by omega) (den_pos c)
      simp only [dSeq, dNext, dIf, dRet, dRetN, dDrop, dAsg, gN, gN0, gNc, gTp, gSubL, dPar, dPar3, dAug, dVar, dC, dOp, dUn, dTest, dAnd, dOr, dNot, dAndV, dOrV, dNotV, dIfE, dNil, dCons, dTup, dLst, dCB, dCall, dstart, dget, dset, dwp, dclr, asB, pI0, pI, pU, pAdd, pMul, pEqB, pIsB, pIx, pCI, pC2, pInt, pIsi, pLen, optQ, stL, lstAt, lsOf, atI0, atI1, atI2, atI3, ixN0, ixN1, ixN2, ixN3, mupd_same, mupd_mupd, dFor, iRng, List.map_cons, List.map_nil, List.length_cons, List.length_nil, List.replicate, List.cons_append, List.nil_append, List.append_nil, List.set_cons_zero, List.set_cons_succ, Nat.reduceAdd, Nat.reduceSub, Nat.sub_self, if_true, if_false, decide_eq_true_eq, Bool.false_eq_true, Bool.not_true, Bool.not_false, id_eq, ite_true, ite_false, fq]
      exact ⟨cdv_small (b := 3000) (by have := den_pos c; omega) cd.2 (by decide), mulx_ok (szc c hc).1 (b := 3000) (by omega) (by decide), k⟩
    · have ei : ∀ c ∈ a, c.num * b.fdiv (c.den : Int) = c.num * (b / (c.den : Int)) := fun c hc => by
        rw [Int.fdiv_eq_ediv_of_nonneg _ (by have := den_pos c; omega)]
      simp only [List.nil_append]
      refine ⟨by decide, h p b (a.map fun c => c.num * b.fdiv (c.den : Int)) _ (Sub.new np) ?_ b0 bb.1 ?_ ?_⟩
      · rw [mupd_same, List.map_map]; rfl
      · unfold ratI
        rw [List.map_map]
        apply List.map_congr_left
        intro c hc
        obtain ⟨n, e1, e2, e3⟩ := (hp c hc).den.2 b (hs c hc) bD
        simp only [Function.comp]
        rw [ei c hc, e1, e2]
      · intro n hn
        obtain ⟨c, hc, rfl⟩ := List.mem_map.mp hn
        obtain ⟨n, e1, e2, e3⟩ := (hp c hc).den.2 b (hs c hc) bD
        rw [ei c hc, e1]; exact e3
/-! ### a row of n places, one of them changed -/
theorem set_range {n j : Nat} (f : Nat → D) (v : D) : ((List.range n).map f).set j v = (List.range n).map fun k => if k = j then v else f k := by
  apply List.ext_getElem?
  intro i
  rw [List.getElem?_set, List.getElem?_map, List.getElem?_map]
  by_cases h : i < n
  · rw [List.getElem?_range h]
    by_cases e : j = i
    · subst e; simp [h]
    · rw [if_neg e]; simp [Ne.symm e]
  · rw [List.getElem?_eq_none (show (List.range n).length ≤ i by simp; omega)]
    split <;> simp <;> omega
theorem atI_range {n j : Nat} (f : Nat → D) (h : j < n) : atI ((List.range n).map f) (j : Int) = some (f j) := by
  rw [DL.atI_nat, List.getElem?_map, List.getElem?_range h]; rfl
theorem ixN_lt {n j : Nat} (h : j < n) : ixN n (j : Int) = some j := by
  unfold ixN
  rw [if_pos (by omega), if_pos (by omega)]; rfl
/-- the part of a product's row: i whole rounds, t steps of the next -/
def cvp (a b : List Rat) (i t k : Nat) : Rat := cv a b i k + (if i ≤ k ∧ k - i < t then co a i * co b (k - i) else 0)
theorem cvp_zero (a b : List Rat) (i k : Nat) : cvp a b i 0 k = cv a b i k := by
  unfold cvp
  rw [if_neg (by omega), Rat.add_zero]
theorem cvp_all (a b : List Rat) (i k : Nat) : cvp a b i b.length k = cv a b (i + 1) k := by
  unfold cvp
  rw [show cv a b (i + 1) k = cv a b i k + (if i ≤ k then co a i * co b (k - i) else 0) from rfl]
  congr 1
  by_cases h : i ≤ k
  · by_cases h2 : k - i < b.length
    · rw [if_pos ⟨h, h2⟩, if_pos h]
    · rw [if_neg (fun c => h2 c.2), if_pos h, co_ge (show b.length ≤ k - i by omega), Rat.mul_zero]
  · rw [if_neg (fun c => h c.1), if_neg h]
theorem cvp_step (a b : List Rat) (i t k : Nat) : cvp a b i (t + 1) k = if k = i + t then cvp a b i t k + co a i * co b t else cvp a b i t k := by
  unfold cvp
  by_cases h : k = i + t
  · subst h
    rw [if_pos rfl, if_pos ⟨by omega, by omega⟩, if_neg (by omega), show i + t - i = t by omega, Rat.add_zero]
  · rw [if_neg h]
    congr 1
    by_cases h2 : i ≤ k ∧ k - i < t
    · rw [if_pos h2, if_pos ⟨h2.1, by omega⟩]
    · rw [if_neg h2, if_neg (by omega)]
theorem cv_zeroL (b : List Rat) (k : Nat) : cv [] b 0 k = 0 := rfl
theorem co_nil (i : Nat) : co [] i = 0 := by simp [co]
theorem cv_zeroR (a : List Rat) (k : Nat) : ∀ i, cv a [] i k = 0
  | 0 => rfl
  | i + 1 => by
    rw [show cv a [] (i + 1) k = cv a [] i k + (if i ≤ k then co a i * co [] (k - i) else 0) from rfl, cv_zeroR a k i, co_nil, Rat.mul_zero]
    split <;> exact Rat.add_zero 0
/-- the row that the rounds lay, whether or not one is empty -/
theorem cut_mul (a b : List Rat) : cut ((List.range (a.length + b.length - 1)).map (cv a b a.length)) = cut (mulL a b) := by
  unfold mulL
  by_cases h : a = [] ∨ b = []
  · rw [if_pos h]
    have e : cut [] = [] := rfl
    rw [e, cut_nil_iff]
    intro c hc
    obtain ⟨k, _, rfl⟩ := List.mem_map.mp hc
    rcases h with rfl | rfl
    · rfl
    · exact cv_zeroR a k _
  · rw [if_neg h]
def sp_product : DSp := fun ds M Q => ∃ a b : List Rat, ds = [pq a, pq b] ∧ OZ a ∧ LZ b ∧ Q (pq (cut (mulL a b))) M
theorem sp_product_mono : MonoSp sp_product := ⟨fun h ⟨a, b, e, x, y, q⟩ => ⟨a, b, e, x, y, h _ _ q⟩⟩
theorem cvp_sz {a b : List Rat} (ha : OZ a) (hb : LZ b) (i t k : Nat) (hi : i < a.length) (hk : ¬ (i ≤ k ∧ k - i < t)) : Sz (cvp a b i t k) := by
  have := ha.len
  unfold cvp
  rw [if_neg hk, Rat.add_zero]
  exact (prod_sz ha hb i 0 k (by omega)).1
theorem body_product (hc : Clo Q) (h : sp_product ds M Q) : b__law_product_of sq_plus sq_times sp_cut { nx := fun _ M' => Q .non M', rt := Q } (dstart ["one", "other", "row", "at", "to"] ds) M := by
  obtain ⟨a, b, rfl, ha, hb, h⟩ := h
  have big := sl1000
  have la := ha.len
  have lb := hb.len
  unfold b__law_product_of
  refine seq_cut fun R hR => ?_
  obtain ⟨n, hn, hn2⟩ : ∃ n : Nat, max (0 : Int) ((a.length : Nat) + (b.length : Nat) - 1) = n ∧ n = a.length + b.length - 1 := ⟨a.length + b.length - 1, by omega, rfl⟩
  simp only [dSeq, dNext, dIf, dRet, dRetN, dDrop, dAsg, gN, gN0, gNc, gTp, gSubL, dPar, dPar3, dAug, dVar, dC, dOp, dUn, dTest, dAnd, dOr, dNot, dAndV, dOrV, dNotV, dIfE, dNil, dCons, dTup, dLst, dCB, dCall, dstart, dget, dset, dwp, dclr, asB, pI0, pI, pU, pAdd, pMul, pEqB, pIsB, pIx, pCI, pC2, pInt, pIsi, pLen, optQ, stL, lstAt, lsOf, atI0, atI1, atI2, atI3, ixN0, ixN1, ixN2, ixN3, mupd_same, mupd_mupd, dFor, iRng, List.map_cons, List.map_nil, List.length_cons, List.length_nil, List.replicate, List.cons_append, List.nil_append, List.append_nil, List.set_cons_zero, List.set_cons_succ, Nat.reduceAdd, Nat.reduceSub, Nat.sub_self, if_true, if_false, decide_eq_true_eq, Bool.false_eq_true, Bool.not_true, Bool.not_false, id_eq, ite_true, ite_false, pq, pC2, List.length_map, hn, rep_flat, Int.toNat_natCast]
  refine ⟨by decide, by decide, fun p0 np0 => ⟨by omega, by omega, by omega, fun p np' => ?_⟩⟩
  obtain ⟨np, n0⟩ := DL.none_of np'
  have e0 : List.replicate n (D.tup [.int 0, .int 1]) = (List.range n).map fun k => fq (cv a b 0 k) := by
    apply List.ext_getElem?
    intro i
    by_cases hi : i < n
    · rw [List.getElem?_map, List.getElem?_range hi]
      rw [List.getElem?_replicate, if_pos hi]; rfl
    · rw [List.getElem?_eq_none (by simp; omega), List.getElem?_eq_none (by simp; omega)]
  rw [e0]
  have sub1 : Sub M (mupd (mupd M p0 (.lst [.tup [.int 0, .int 1]])) p (.lst ((List.range n).map fun k => fq (cv a b 0 k)))) := (Sub.new np0).new' np
  have at1 : mupd (mupd M p0 (.lst [.tup [.int 0, .int 1]])) p (.lst ((List.range n).map fun k => fq (cv a b 0 k))) p = some (.lst ((List.range n).map fun k => fq (cv a b 0 k))) := mupd_same
  generalize mupd (mupd M p0 (.lst [.tup [.int 0, .int 1]])) p (.lst ((List.range n).map fun k => fq (cv a b 0 k))) = M1 at sub1 at1
  subst hR
  refine seq_cut fun R hR => ?_
  simp only [dSeq, dNext, dIf, dRet, dRetN, dDrop, dAsg, gN, gN0, gNc, gTp, gSubL, dPar, dPar3, dAug, dVar, dC, dOp, dUn, dTest, dAnd, dOr, dNot, dAndV, dOrV, dNotV, dIfE, dNil, dCons, dTup, dLst, dCB, dCall, dstart, dget, dset, dwp, dclr, asB, pI0, pI, pU, pAdd, pMul, pEqB, pIsB, pIx, pCI, pC2, pInt, pIsi, pLen, optQ, stL, lstAt, lsOf, atI0, atI1, atI2, atI3, ixN0, ixN1, ixN2, ixN3, mupd_same, mupd_mupd, dFor, iRng, List.map_cons, List.map_nil, List.length_cons, List.length_nil, List.replicate, List.cons_append, List.nil_append, List.append_nil, List.set_cons_zero, List.set_cons_succ, Nat.reduceAdd, Nat.reduceSub, Nat.sub_self, if_true, if_false, decide_eq_true_eq, Bool.false_eq_true, Bool.not_true, Bool.not_false, id_eq, ite_true, ite_false, List.length_map]
  refine ⟨⟨by omega, by omega⟩, ?_⟩
  refine loop_rng (I := fun i τ M' => 0 ≤ i ∧ Sub M M' ∧ M' p = some (.lst ((List.range n).map fun k => fq (cv a b i.toNat k))) ∧ ∃ u v, τ = [some (.tup (a.map fq)), some (.tup (b.map fq)), some (.ref p), u, v]) ?_ ?_ a.length 0 _ _ (by omega) ⟨by omega, sub1, at1, none, none, rfl⟩
  · rintro i τ M2 X hi ⟨i0, hs, e, u, v, rfl⟩ hX
    obtain ⟨j, rfl⟩ : ∃ j : Nat, i = j := ⟨i.toNat, by omega⟩
    simp only [Int.toNat_natCast] at e
    simp only [dSeq, dNext, dIf, dRet, dRetN, dDrop, dAsg, gN, gN0, gNc, gTp, gSubL, dPar, dPar3, dAug, dVar, dC, dOp, dUn, dTest, dAnd, dOr, dNot, dAndV, dOrV, dNotV, dIfE, dNil, dCons, dTup, dLst, dCB, dCall, dstart, dget, dset, dwp, dclr, asB, pI0, pI, pU, pAdd, pMul, pEqB, pIsB, pIx, pCI, pC2, pInt, pIsi, pLen, optQ, stL, lstAt, lsOf, atI0, atI1, atI2, atI3, ixN0, ixN1, ixN2, ixN3, mupd_same, mupd_mupd, dFor, iRng, List.map_cons, List.map_nil, List.length_cons, List.length_nil, List.replicate, List.cons_append, List.nil_append, List.append_nil, List.set_cons_zero, List.set_cons_succ, Nat.reduceAdd, Nat.reduceSub, Nat.sub_self, if_true, if_false, decide_eq_true_eq, Bool.false_eq_true, Bool.not_true, Bool.not_false, id_eq, ite_true, ite_false, List.length_map]
    refine ⟨⟨by omega, by omega⟩, ?_⟩
    refine loop_rng (I := fun t τ M' => 0 ≤ t ∧ Sub M M' ∧ M' p = some (.lst ((List.range n).map fun k => fq (cvp a b j t.toNat k))) ∧ ∃ v, τ = [some (.tup (a.map fq)), some (.tup (b.map fq)), some (.ref p), some (.int (j : Int)), v]) ?_ ?_ b.length 0 _ _ (by omega) ⟨by omega, hs, ?_, v, rfl⟩
    · rintro t τ M3 Y ht ⟨t0, hs3, e3, v, rfl⟩ hY
      obtain ⟨t, rfl⟩ : ∃ j : Nat, t = j := ⟨t.toNat, by omega⟩
      simp only [Int.toNat_natCast] at e3
      have hjt : j + t < n := by omega
      have ej : ((j : Int) + (t : Int)) = ((j + t : Nat) : Int) := by omega
      have sz := cvp_sz ha hb j t (j + t) (by omega) (by omega)
      have ps := (prod_sz ha hb j t 0 (by omega)).2
      simp only [dSeq, dNext, dIf, dRet, dRetN, dDrop, dAsg, gN, gN0, gNc, gTp, gSubL, dPar, dPar3, dAug, dVar, dC, dOp, dUn, dTest, dAnd, dOr, dNot, dAndV, dOrV, dNotV, dIfE, dNil, dCons, dTup, dLst, dCB, dCall, dstart, dget, dset, dwp, dclr, asB, pI0, pI, pU, pAdd, pMul, pEqB, pIsB, pIx, pCI, pC2, pInt, pIsi, pLen, optQ, stL, lstAt, lsOf, atI0, atI1, atI2, atI3, ixN0, ixN1, ixN2, ixN3, mupd_same, mupd_mupd, dFor, iRng, List.map_cons, List.map_nil, List.length_cons, List.length_nil, List.replicate, List.cons_append, List.nil_append, List.append_nil, List.set_cons_zero, List.set_cons_succ, Nat.reduceAdd, Nat.reduceSub, Nat.sub_self, if_true, if_false, decide_eq_true_eq, Bool.false_eq_true, Bool.not_true, Bool.not_false, id_eq, ite_true, ite_false, e3, ej, atI_range _ hjt, atI_fq (show j < a.length by omega), atI_fq (show t < b.length by omega)]
      refine ⟨_, _, rfl, ha.p.sz _ (List.mem_of_getElem? (co_lt (by omega))), hb.o.p.sz _ (List.mem_of_getElem? (co_lt (by omega))), trivial, _, _, rfl, sz, ps, trivial, ?_⟩
      simp only [e3, dSeq, dNext, dIf, dRet, dRetN, dDrop, dAsg, gN, gN0, gNc, gTp, gSubL, dPar, dPar3, dAug, dVar, dC, dOp, dUn, dTest, dAnd, dOr, dNot, dAndV, dOrV, dNotV, dIfE, dNil, dCons, dTup, dLst, dCB, dCall, dstart, dget, dset, dwp, dclr, asB, pI0, pI, pU, pAdd, pMul, pEqB, pIsB, pIx, pCI, pC2, pInt, pIsi, pLen, optQ, stL, lstAt, lsOf, atI0, atI1, atI2, atI3, ixN0, ixN1, ixN2, ixN3, mupd_same, mupd_mupd, dFor, iRng, List.map_cons, List.map_nil, List.length_cons, List.length_nil, List.replicate, List.cons_append, List.nil_append, List.append_nil, List.set_cons_zero, List.set_cons_succ, Nat.reduceAdd, Nat.reduceSub, Nat.sub_self, if_true, if_false, decide_eq_true_eq, Bool.false_eq_true, Bool.not_true, Bool.not_false, id_eq, ite_true, ite_false, List.length_map, List.length_range, ixN_lt hjt]
      refine hY _ _ ⟨by omega, ?_, ?_, some (.int (t : Int)), rfl⟩
      · exact hs3.new' np
      · rw [mupd_same, set_range]
        congr 2
        apply List.map_congr_left
        intro k _
        rw [show ((t : Int) + 1).toNat = t + 1 by omega, cvp_step]
        split
        · rename_i e; rw [e]
        · rfl
    · rintro τ M3 ⟨t0, hs3, e3, v, rfl⟩
      refine hX _ _ ⟨by omega, hs3, ?_, _, _, rfl⟩
      rw [e3]
      congr 2
      apply List.map_congr_left
      intro k _
      rw [show ((j : Int) + 1).toNat = j + 1 by omega, Int.toNat_natCast, cvp_all]
    · rw [e]
      congr 2
      apply List.map_congr_left
      intro k _
      rw [show (0 : Int).toNat = 0 from rfl, cvp_zero]
  · rintro τ M2 ⟨i0, hs, e, u, v, rfl⟩
    dsimp only
    subst hR
    simp only [dSeq, dNext, dIf, dRet, dRetN, dDrop, dAsg, gN, gN0, gNc, gTp, gSubL, dPar, dPar3, dAug, dVar, dC, dOp, dUn, dTest, dAnd, dOr, dNot, dAndV, dOrV, dNotV, dIfE, dNil, dCons, dTup, dLst, dCB, dCall, dstart, dget, dset, dwp, dclr, asB, pI0, pI, pU, pAdd, pMul, pEqB, pIsB, pIx, pCI, pC2, pInt, pIsi, pLen, optQ, stL, lstAt, lsOf, atI0, atI1, atI2, atI3, ixN0, ixN1, ixN2, ixN3, mupd_same, mupd_mupd, dFor, iRng, List.map_cons, List.map_nil, List.length_cons, List.length_nil, List.replicate, List.cons_append, List.nil_append, List.append_nil, List.set_cons_zero, List.set_cons_succ, Nat.reduceAdd, Nat.reduceSub, Nat.sub_self, if_true, if_false, decide_eq_true_eq, Bool.false_eq_true, Bool.not_true, Bool.not_false, id_eq, ite_true, ite_false]
    refine ⟨(List.range n).map (cv a b a.length), ?_, by simp; omega, ?_⟩
    · unfold seqAt
      simp only [e, Int.toNat_natCast, List.map_map]
      rfl
    · rw [hn2, cut_mul]
      exact hc _ _ _ hs h
end
end K15

namespace K15
open PySem PySem.Spec PyProof.Rows L2 DL QF
theorem enum_map {α : Type} (e : α → D) (z : α) : ∀ (a : List α) (i : Nat), enumFrom i (a.map e) = (List.range a.length).map fun j => .tup [.int ((i + j : Nat) : Int), e (a.getD j z)]
  | [], _ => rfl
  | c :: a, i => by
    rw [List.map_cons, enumFrom, enum_map e z a (i + 1), List.length_cons, List.range_succ_eq_map, List.map_cons, List.map_map]
    congr 1
    apply List.map_congr_left
    intro j _
    simp only [Function.comp]
    rw [show i + 1 + j = i + (j + 1) by omega]
    rfl
theorem co_rat (A : List Int) (i : Nat) : co (ratI A) i = ((A.getD i 0 : Int) : Rat) := by
  unfold co ratI
  rw [List.getD_eq_getElem?_getD, List.getD_eq_getElem?_getD, List.getElem?_map]
  cases A[i]? with
  | none => rfl
  | some x => rfl
theorem cv_skip {a b : List Rat} {i : Nat} (h : co a i = 0) (k : Nat) : cv a b (i + 1) k = cv a b i k := by
  rw [show cv a b (i + 1) k = cv a b i k + (if i ≤ k then co a i * co b (k - i) else 0) from rfl, h, Rat.zero_mul]
  split <;> exact Rat.add_zero _
section
variable {ds : List D} {M : Mem} {Q : DQ}
def sp_whole_timed : DSp := fun ds M Q => ∃ (p q : Addr) (c d : Int) (A B : List Int), ds = [.tup [.ref p, .int c], .tup [.ref q, .int d]] ∧ M p = some (.lst (A.map D.int)) ∧ M q = some (.lst (B.map D.int)) ∧ A.length ≤ 100 ∧ B.length ≤ 100 ∧ c ≠ 0 ∧ d ≠ 0 ∧ Bd 1800 c ∧ Bd 1800 d ∧ (∀ n ∈ A, Bd 2000 n) ∧ (∀ n ∈ B, Bd 2000 n) ∧
  ∀ (r : Addr) (F : List Int) (e : Int) (M' : Mem), Sub M M' → M' r = some (.lst (F.map D.int)) → F.length ≤ 300 → ratI F = mulL (ratI A) (ratI B) → e ≠ 0 → Bd 8000 e → (F ≠ [] → e = c * d) → Q (.tup [.ref r, .int e]) M'
theorem sp_whole_timed_mono : MonoSp sp_whole_timed := ⟨fun h ⟨p, q, c, d, A, B, x1, x2, x3, x4, x5, x6, x7, x8, x9, y1, y2, k⟩ => ⟨p, q, c, d, A, B, x1, x2, x3, x4, x5, x6, x7, x8, x9, y1, y2, fun r F e M' a1 a2 a3 a4 a5 a6 a7 => h _ _ (k r F e M' a1 a2 a3 a4 a5 a6 a7)⟩⟩
theorem bd_getD {l : List Int} {k : Nat} (h : ∀ n ∈ l, Bd k n) (i : Nat) : Bd k (l.getD i 0) := by
  rw [List.getD_eq_getElem?_getD]
  cases e : l[i]? with
  | none => show (0 : Int).natAbs < 2 ^ k; exact Nat.pow_pos (by decide)
  | some x => exact h x (List.mem_of_getElem? e)
theorem whole_end {p q : Addr} {c d : Int} {A B : List Int} {R : DTS} (hA : A ≠ []) (hB : B ≠ [])
    (hR : R = (dSeq (dAsg (dOp pMul (dLst (dCons (dC (.int 0)) dNil)) (dOp pSub (dOp pAdd (dPure (dCB pLen (dCons (dOp pIx (dVar 0) (dC (.int 0))) dNil))) (dPure (dCB pLen (dCons (dOp pIx (dVar 1) (dC (.int 0))) dNil)))) (dC (.int 1)))) (gN 2))
    (dSeq (dFor (iEnumD (dOp pIx (dVar 0) (dC (.int 0)))) (gTp 2 (gNc (gN 3) (gNc (gN 4) gN0))) (dIf (dTest (dOp pNe (dVar 4) (dC (.int 0)))) (dFor (iEnumD (dOp pIx (dVar 1) (dC (.int 0)))) (gTp 2 (gNc (gN 5) (gNc (gN 6) gN0))) (dAugS (dVar 2) (dOp pAdd (dVar 3) (dVar 5)) (dOp pMul (dVar 4) (dVar 6)) pIAdd)) dNext))
    (dRet (dTup (dCons (dVar 2) (dCons (dOp pMul (dOp pIx (dVar 0) (dC (.int 1))) (dOp pIx (dVar 1) (dC (.int 1)))) dNil)))))))
    {M1 : Mem} (hp : M1 p = some (.lst (A.map D.int))) (hq : M1 q = some (.lst (B.map D.int))) (hs : Sub M M1) (la : A.length ≤ 100) (lb : B.length ≤ 100) (c0 : c ≠ 0) (d0 : d ≠ 0) (bc : Bd 1800 c) (bd : Bd 1800 d) (ba : ∀ n ∈ A, Bd 2000 n) (bb : ∀ n ∈ B, Bd 2000 n)
    (h : ∀ (r : Addr) (F : List Int) (e : Int) (M' : Mem), Sub M M' → M' r = some (.lst (F.map D.int)) → F.length ≤ 300 → ratI F = mulL (ratI A) (ratI B) → e ≠ 0 → Bd 8000 e → (F ≠ [] → e = c * d) → Q (.tup [.ref r, .int e]) M') :
    R { nx := fun _ M' => Q .non M', rt := Q } [some (.tup [.ref p, .int c]), some (.tup [.ref q, .int d]), none, none, none, none, none] M1 := by
  subst hR
  have big := sl1000
  have A0 : 0 < A.length := List.length_pos_iff.mpr hA
  have B0 : 0 < B.length := List.length_pos_iff.mpr hB
  refine seq_cut fun R hR => ?_
  simp only [dSeq, dNext, dIf, dRet, dRetN, dDrop, dAsg, gN, gN0, gNc, gTp, gSubL, dPar, dPar3, dAug, dVar, dC, dOp, dUn, dTest, dAnd, dOr, dNot, dAndV, dOrV, dNotV, dIfE, dNil, dCons, dTup, dLst, dCB, dCall, dstart, dget, dset, dwp, dclr, asB, pI0, pI, pU, pAdd, pMul, pEqB, pIsB, pIx, pCI, pC2, pInt, pIsi, pLen, optQ, stL, lstAt, lsOf, atI0, atI1, atI2, atI3, ixN0, ixN1, ixN2, ixN3, mupd_same, mupd_mupd, dFor, iRng, List.map_cons, List.map_nil, List.length_cons, List.length_nil, List.replicate, List.cons_append, List.nil_append, List.append_nil, List.set_cons_zero, List.set_cons_succ, Nat.reduceAdd, Nat.reduceSub, Nat.sub_self, if_true, if_false, decide_eq_true_eq, Bool.false_eq_true, Bool.not_true, Bool.not_false, id_eq, ite_true, ite_false]
  refine ⟨by decide, fun p0 np0 => ?_⟩
  have hp1 : mupd M1 p0 (.lst [.int 0]) p = some (.lst (A.map D.int)) := by rw [mupd_ne (ne_new hp np0)]; exact hp
  have hq1 : mupd M1 p0 (.lst [.int 0]) q = some (.lst (B.map D.int)) := by rw [mupd_ne (ne_new hq np0)]; exact hq
  obtain ⟨n, hn, hn2⟩ : ∃ n : Nat, ((A.length : Nat) : Int) + (B.length : Nat) - 1 = n ∧ n = A.length + B.length - 1 := ⟨A.length + B.length - 1, by omega, rfl⟩
  simp only [dSeq, dNext, dIf, dRet, dRetN, dDrop, dAsg, gN, gN0, gNc, gTp, gSubL, dPar, dPar3, dAug, dVar, dC, dOp, dUn, dTest, dAnd, dOr, dNot, dAndV, dOrV, dNotV, dIfE, dNil, dCons, dTup, dLst, dCB, dCall, dstart, dget, dset, dwp, dclr, asB, pI0, pI, pU, pAdd, pMul, pEqB, pIsB, pIx, pCI, pC2, pInt, pIsi, pLen, optQ, stL, lstAt, lsOf, atI0, atI1, atI2, atI3, ixN0, ixN1, ixN2, ixN3, mupd_same, mupd_mupd, dFor, iRng, List.map_cons, List.map_nil, List.length_cons, List.length_nil, List.replicate, List.cons_append, List.nil_append, List.append_nil, List.set_cons_zero, List.set_cons_succ, Nat.reduceAdd, Nat.reduceSub, Nat.sub_self, if_true, if_false, decide_eq_true_eq, Bool.false_eq_true, Bool.not_true, Bool.not_false, id_eq, ite_true, ite_false, dPure, hp1, hq1, List.length_map, hn, rep_flat, Int.toNat_natCast]
  refine ⟨Sub.refl _, Sub.refl _, by omega, by omega, by omega, fun r nr => ?_⟩
  have e0 : List.replicate n (D.int 0) = (List.range n).map fun k => D.int ((fun _ => (0 : Int)) k) := by
    apply List.ext_getElem?
    intro i
    by_cases hi : i < n
    · rw [List.getElem?_map, List.getElem?_range hi]
      rw [List.getElem?_replicate, if_pos hi]; rfl
    · rw [List.getElem?_eq_none (by simp; omega), List.getElem?_eq_none (by simp; omega)]
  rw [e0]
  have np : p ≠ r := ne_new hp1 nr
  have nq : q ≠ r := ne_new hq1 nr
  have sub1 := (hs.trans (Sub.new np0 (o := .lst [.int 0]))).trans (Sub.new nr (o := .lst ((List.range n).map fun k => D.int ((fun _ => (0 : Int)) k))))
  have mr : M r = none := (hs.trans (Sub.new np0 (o := .lst [.int 0]))).free nr
  have at1 : mupd (mupd M1 p0 (.lst [.int 0])) r (.lst ((List.range n).map fun k => D.int ((fun _ => (0 : Int)) k))) r = some (.lst ((List.range n).map fun k => D.int ((fun _ => (0 : Int)) k))) := mupd_same
  have hp2 : mupd (mupd M1 p0 (.lst [.int 0])) r (.lst ((List.range n).map fun k => D.int ((fun _ => (0 : Int)) k))) p = some (.lst (A.map D.int)) := by rw [mupd_ne np]; exact hp1
  have hq2 : mupd (mupd M1 p0 (.lst [.int 0])) r (.lst ((List.range n).map fun k => D.int ((fun _ => (0 : Int)) k))) q = some (.lst (B.map D.int)) := by rw [mupd_ne nq]; exact hq1
  generalize mupd (mupd M1 p0 (.lst [.int 0])) r (.lst ((List.range n).map fun k => D.int ((fun _ => (0 : Int)) k))) = M2 at sub1 at1 hp2 hq2
  subst hR
  refine seq_cut fun R hR => ?_
  simp only [dSeq, dNext, dIf, dRet, dRetN, dDrop, dAsg, gN, gN0, gNc, gTp, gSubL, dPar, dPar3, dAug, dVar, dC, dOp, dUn, dTest, dAnd, dOr, dNot, dAndV, dOrV, dNotV, dIfE, dNil, dCons, dTup, dLst, dCB, dCall, dstart, dget, dset, dwp, dclr, asB, pI0, pI, pU, pAdd, pMul, pEqB, pIsB, pIx, pCI, pC2, pInt, pIsi, pLen, optQ, stL, lstAt, lsOf, atI0, atI1, atI2, atI3, ixN0, ixN1, ixN2, ixN3, mupd_same, mupd_mupd, dFor, iRng, List.map_cons, List.map_nil, List.length_cons, List.length_nil, List.replicate, List.cons_append, List.nil_append, List.append_nil, List.set_cons_zero, List.set_cons_succ, Nat.reduceAdd, Nat.reduceSub, Nat.sub_self, if_true, if_false, decide_eq_true_eq, Bool.false_eq_true, Bool.not_true, Bool.not_false, id_eq, ite_true, ite_false, iEnumD, hp2, enum_map D.int 0]
  refine range_loop (n := A.length) _ (fun i τ M' => Sub M M' ∧ M' p = some (.lst (A.map D.int)) ∧ M' q = some (.lst (B.map D.int)) ∧ (∃ f : Nat → Int, M' r = some (.lst ((List.range n).map fun k => D.int (f k))) ∧ ∀ k, (f k : Rat) = cv (ratI A) (ratI B) i k) ∧ ∃ u v w x, τ = [some (.tup [.ref p, .int c]), some (.tup [.ref q, .int d]), some (.ref r), u, v, w, x]) (fun i τ M' q => q.2.1) ?_ ?_ _ _ ⟨sub1, hp2, hq2, ⟨_, at1, fun k => rfl⟩, none, none, none, none, rfl⟩
  · rintro i τ M3 X hi ⟨hs3, hp3, hq3, ⟨f, hf, hcv⟩, u, v, w, x, rfl⟩ hX
    simp only [dSeq, dNext, dIf, dRet, dRetN, dDrop, dAsg, gN, gN0, gNc, gTp, gSubL, dPar, dPar3, dAug, dVar, dC, dOp, dUn, dTest, dAnd, dOr, dNot, dAndV, dOrV, dNotV, dIfE, dNil, dCons, dTup, dLst, dCB, dCall, dstart, dget, dset, dwp, dclr, asB, pI0, pI, pU, pAdd, pMul, pEqB, pIsB, pIx, pCI, pC2, pInt, pIsi, pLen, optQ, stL, lstAt, lsOf, atI0, atI1, atI2, atI3, ixN0, ixN1, ixN2, ixN3, mupd_same, mupd_mupd, dFor, iRng, List.map_cons, List.map_nil, List.length_cons, List.length_nil, List.replicate, List.cons_append, List.nil_append, List.append_nil, List.set_cons_zero, List.set_cons_succ, Nat.reduceAdd, Nat.reduceSub, Nat.sub_self, if_true, if_false, decide_eq_true_eq, Bool.false_eq_true, Bool.not_true, Bool.not_false, id_eq, ite_true, ite_false, Nat.zero_add]
    refine ⟨trivial, ?_⟩
    by_cases hz : A.getD i 0 = 0
    · simp only [hz, dSeq, dNext, dIf, dRet, dRetN, dDrop, dAsg, gN, gN0, gNc, gTp, gSubL, dPar, dPar3, dAug, dVar, dC, dOp, dUn, dTest, dAnd, dOr, dNot, dAndV, dOrV, dNotV, dIfE, dNil, dCons, dTup, dLst, dCB, dCall, dstart, dget, dset, dwp, dclr, asB, pI0, pI, pU, pAdd, pMul, pEqB, pIsB, pIx, pCI, pC2, pInt, pIsi, pLen, optQ, stL, lstAt, lsOf, atI0, atI1, atI2, atI3, ixN0, ixN1, ixN2, ixN3, mupd_same, mupd_mupd, dFor, iRng, List.map_cons, List.map_nil, List.length_cons, List.length_nil, List.replicate, List.cons_append, List.nil_append, List.append_nil, List.set_cons_zero, List.set_cons_succ, Nat.reduceAdd, Nat.reduceSub, Nat.sub_self, if_true, if_false, decide_eq_true_eq, Bool.false_eq_true, Bool.not_true, Bool.not_false, id_eq, ite_true, ite_false, decide_true]
      refine hX _ _ ⟨hs3, hp3, hq3, ⟨f, hf, fun k => ?_⟩, _, _, _, _, rfl⟩
      rw [hcv k, cv_skip (by rw [co_rat, hz]; rfl)]
    · simp only [hz, dSeq, dNext, dIf, dRet, dRetN, dDrop, dAsg, gN, gN0, gNc, gTp, gSubL, dPar, dPar3, dAug, dVar, dC, dOp, dUn, dTest, dAnd, dOr, dNot, dAndV, dOrV, dNotV, dIfE, dNil, dCons, dTup, dLst, dCB, dCall, dstart, dget, dset, dwp, dclr, asB, pI0, pI, pU, pAdd, pMul, pEqB, pIsB, pIx, pCI, pC2, pInt, pIsi, pLen, optQ, stL, lstAt, lsOf, atI0, atI1, atI2, atI3, ixN0, ixN1, ixN2, ixN3, mupd_same, mupd_mupd, dFor, iRng, List.map_cons, List.map_nil, List.length_cons, List.length_nil, List.replicate, List.cons_append, List.nil_append, List.append_nil, List.set_cons_zero, List.set_cons_succ, Nat.reduceAdd, Nat.reduceSub, Nat.sub_self, if_true, if_false, decide_eq_true_eq, Bool.false_eq_true, Bool.not_true, Bool.not_false, id_eq, ite_true, ite_false, decide_false, iEnumD, hq3, enum_map D.int 0]
      refine range_loop (n := B.length) _ (fun t τ M' => Sub M M' ∧ M' p = some (.lst (A.map D.int)) ∧ M' q = some (.lst (B.map D.int)) ∧ (∃ f : Nat → Int, M' r = some (.lst ((List.range n).map fun k => D.int (f k))) ∧ ∀ k, (f k : Rat) = cvp (ratI A) (ratI B) i t k) ∧ ∃ w x, τ = [some (.tup [.ref p, .int c]), some (.tup [.ref q, .int d]), some (.ref r), some (.int (i : Int)), some (.int (A.getD i 0)), w, x]) (fun i τ M' q => q.2.2.1) ?_ ?_ _ _ ⟨hs3, hp3, hq3, ⟨f, hf, fun k => by rw [cvp_zero]; exact hcv k⟩, _, _, rfl⟩
      · rintro t τ M4 Y ht ⟨hs4, hp4, hq4, ⟨f, hf, hcv⟩, w, x, rfl⟩ hY
        have hjt : i + t < n := by omega
        have ej : ((i : Int) + (t : Int)) = ((i + t : Nat) : Int) := by omega
        simp only [dSeq, dNext, dIf, dRet, dRetN, dDrop, dAsg, gN, gN0, gNc, gTp, gSubL, dPar, dPar3, dAug, dVar, dC, dOp, dUn, dTest, dAnd, dOr, dNot, dAndV, dOrV, dNotV, dIfE, dNil, dCons, dTup, dLst, dCB, dCall, dstart, dget, dset, dwp, dclr, asB, pI0, pI, pU, pAdd, pMul, pEqB, pIsB, pIx, pCI, pC2, pInt, pIsi, pLen, optQ, stL, lstAt, lsOf, atI0, atI1, atI2, atI3, ixN0, ixN1, ixN2, ixN3, mupd_same, mupd_mupd, dFor, iRng, List.map_cons, List.map_nil, List.length_cons, List.length_nil, List.replicate, List.cons_append, List.nil_append, List.append_nil, List.set_cons_zero, List.set_cons_succ, Nat.reduceAdd, Nat.reduceSub, Nat.sub_self, if_true, if_false, decide_eq_true_eq, Bool.false_eq_true, Bool.not_true, Bool.not_false, id_eq, ite_true, ite_false, Nat.zero_add, dAugS, gtL, hf, ej, atI_range _ hjt, List.length_map, List.length_range, ixN_lt hjt]
        refine ⟨trivial, (bd_getD ba i).mulx (bd_getD bb t) (by decide), hY _ _ ⟨hs4.new' mr, by rw [mupd_ne np]; exact hp4, by rw [mupd_ne nq]; exact hq4, ⟨fun k => if k = i + t then f (i + t) + A.getD i 0 * B.getD t 0 else f k, ?_, fun k => ?_⟩, _, _, rfl⟩⟩
        · rw [mupd_same, set_range]
          congr 2
          apply List.map_congr_left
          intro k _
          by_cases hk : k = i + t
          · rw [if_pos hk]; show _ = D.int (if k = i + t then _ else _); rw [if_pos hk]
          · rw [if_neg hk]; show _ = D.int (if k = i + t then _ else _); rw [if_neg hk]
        · rw [cvp_step]
          dsimp only
          by_cases hk : k = i + t
          · rw [if_pos hk, if_pos hk, cast_add, cast_mul, hcv, co_rat, co_rat, hk]
          · rw [if_neg hk, if_neg hk, hcv]
      · rintro τ M4 ⟨hs4, hp4, hq4, ⟨f, hf, hcv⟩, w, x, rfl⟩
        refine hX _ _ ⟨hs4, hp4, hq4, ⟨f, hf, fun k => ?_⟩, _, _, _, _, rfl⟩
        rw [hcv k, show B.length = (ratI B).length by unfold ratI; simp, cvp_all]
  · rintro τ M3 ⟨hs3, hp3, hq3, ⟨f, hf, hcv⟩, u, v, w, x, rfl⟩
    dsimp only
    subst hR
    simp only [dSeq, dNext, dIf, dRet, dRetN, dDrop, dAsg, gN, gN0, gNc, gTp, gSubL, dPar, dPar3, dAug, dVar, dC, dOp, dUn, dTest, dAnd, dOr, dNot, dAndV, dOrV, dNotV, dIfE, dNil, dCons, dTup, dLst, dCB, dCall, dstart, dget, dset, dwp, dclr, asB, pI0, pI, pU, pAdd, pMul, pEqB, pIsB, pIx, pCI, pC2, pInt, pIsi, pLen, optQ, stL, lstAt, lsOf, atI0, atI1, atI2, atI3, ixN0, ixN1, ixN2, ixN3, mupd_same, mupd_mupd, dFor, iRng, List.map_cons, List.map_nil, List.length_cons, List.length_nil, List.replicate, List.cons_append, List.nil_append, List.append_nil, List.set_cons_zero, List.set_cons_succ, Nat.reduceAdd, Nat.reduceSub, Nat.sub_self, if_true, if_false, decide_eq_true_eq, Bool.false_eq_true, Bool.not_true, Bool.not_false, id_eq, ite_true, ite_false]
    have hf2 : M3 r = some (.lst (((List.range n).map f).map D.int)) := by rw [hf, List.map_map]; rfl
    refine ⟨bc.mulx bd (by decide), by decide, h r ((List.range n).map f) (c * d) M3 hs3 hf2 (by simp; omega) ?_ (mul_ne c0 d0) ((bc.mul bd).mono (by decide)) (fun _ => rfl)⟩
    unfold mulL
    have lA : (ratI A).length = A.length := by unfold ratI; simp
    have lB : (ratI B).length = B.length := by unfold ratI; simp
    rw [if_neg (by
      rintro (e | e)
      · have := congrArg List.length e
        rw [lA] at this; simp at this; exact hA this
      · have := congrArg List.length e
        rw [lB] at this; simp at this; exact hB this), lA, lB, ← hn2]
    unfold ratI
    rw [List.map_map]
    apply List.map_congr_left
    intro k _
    exact hcv k
theorem body_whole_timed (h : sp_whole_timed ds M Q) : b_whole_timed { nx := fun _ M' => Q .non M', rt := Q } (dstart ["one", "other", "found", "at", "first", "beside", "second"] ds) M := by
  obtain ⟨p, q, c, d, A, B, rfl, hp, hq, la, lb, c0, d0, bc, bd, ba, bb, h⟩ := h
  unfold b_whole_timed
  refine seq_cut fun R hR => ?_
  simp only [dSeq, dNext, dIf, dRet, dRetN, dDrop, dAsg, gN, gN0, gNc, gTp, gSubL, dPar, dPar3, dAug, dVar, dC, dOp, dUn, dTest, dAnd, dOr, dNot, dAndV, dOrV, dNotV, dIfE, dNil, dCons, dTup, dLst, dCB, dCall, dstart, dget, dset, dwp, dclr, asB, pI0, pI, pU, pAdd, pMul, pEqB, pIsB, pIx, pCI, pC2, pInt, pIsi, pLen, optQ, stL, lstAt, lsOf, atI0, atI1, atI2, atI3, ixN0, ixN1, ixN2, ixN3, mupd_same, mupd_mupd, dFor, iRng, List.map_cons, List.map_nil, List.length_cons, List.length_nil, List.replicate, List.cons_append, List.nil_append, List.append_nil, List.set_cons_zero, List.set_cons_succ, Nat.reduceAdd, Nat.reduceSub, Nat.sub_self, if_true, if_false, decide_eq_true_eq, Bool.false_eq_true, Bool.not_true, Bool.not_false, id_eq, ite_true, ite_false, hp]
  refine ⟨by decide, fun p1 np1 => ?_⟩
  have hp1 : mupd M p1 (.lst []) p = some (.lst (A.map D.int)) := by rw [mupd_ne (ne_new hp np1)]; exact hp
  have hq1 : mupd M p1 (.lst []) q = some (.lst (B.map D.int)) := by rw [mupd_ne (ne_new hq np1)]; exact hq
  have s1 : Sub M (mupd M p1 (.lst [])) := Sub.new np1
  refine eqG_nil hp1 mupd_same (pl_ints _) ?_
  have give : ∀ (M2 : Mem), Sub M M2 → (A = [] ∨ B = []) → ∀ r, M2 r = none → Q (.tup [.ref r, .int 1]) (mupd M2 r (.lst [])) := fun M2 hs hab r nr => by
    refine h r [] 1 _ (hs.trans (Sub.new nr)) mupd_same (by simp) ?_ (by decide) (by decide : (1 : Int).natAbs < 2 ^ 8000) (fun e => absurd rfl e)
    unfold mulL
    rw [if_pos (by rcases hab with e | e <;> subst e <;> simp [ratI])]; rfl
  generalize mupd M p1 (.lst []) = M2 at hp1 hq1 s1
  cases hb : (A.map D.int).isEmpty with
  | true =>
    have hA : A = [] := by simpa using hb
    simp only [dSeq, dNext, dIf, dRet, dRetN, dDrop, dAsg, gN, gN0, gNc, gTp, gSubL, dPar, dPar3, dAug, dVar, dC, dOp, dUn, dTest, dAnd, dOr, dNot, dAndV, dOrV, dNotV, dIfE, dNil, dCons, dTup, dLst, dCB, dCall, dstart, dget, dset, dwp, dclr, asB, pI0, pI, pU, pAdd, pMul, pEqB, pIsB, pIx, pCI, pC2, pInt, pIsi, pLen, optQ, stL, lstAt, lsOf, atI0, atI1, atI2, atI3, ixN0, ixN1, ixN2, ixN3, mupd_same, mupd_mupd, dFor, iRng, List.map_cons, List.map_nil, List.length_cons, List.length_nil, List.replicate, List.cons_append, List.nil_append, List.append_nil, List.set_cons_zero, List.set_cons_succ, Nat.reduceAdd, Nat.reduceSub, Nat.sub_self, if_true, if_false, decide_eq_true_eq, Bool.false_eq_true, Bool.not_true, Bool.not_false, id_eq, ite_true, ite_false]
    exact ⟨by decide, fun r nr => ⟨by decide, give M2 s1 (.inl hA) r nr⟩⟩
  | false =>
    have hA : A ≠ [] := by simpa using hb
    simp only [dSeq, dNext, dIf, dRet, dRetN, dDrop, dAsg, gN, gN0, gNc, gTp, gSubL, dPar, dPar3, dAug, dVar, dC, dOp, dUn, dTest, dAnd, dOr, dNot, dAndV, dOrV, dNotV, dIfE, dNil, dCons, dTup, dLst, dCB, dCall, dstart, dget, dset, dwp, dclr, asB, pI0, pI, pU, pAdd, pMul, pEqB, pIsB, pIx, pCI, pC2, pInt, pIsi, pLen, optQ, stL, lstAt, lsOf, atI0, atI1, atI2, atI3, ixN0, ixN1, ixN2, ixN3, mupd_same, mupd_mupd, dFor, iRng, List.map_cons, List.map_nil, List.length_cons, List.length_nil, List.replicate, List.cons_append, List.nil_append, List.append_nil, List.set_cons_zero, List.set_cons_succ, Nat.reduceAdd, Nat.reduceSub, Nat.sub_self, if_true, if_false, decide_eq_true_eq, Bool.false_eq_true, Bool.not_true, Bool.not_false, id_eq, ite_true, ite_false, hq1]
    refine ⟨by decide, fun p2 np2 => ?_⟩
    have hp2 : mupd M2 p2 (.lst []) p = some (.lst (A.map D.int)) := by rw [mupd_ne (ne_new hp1 np2)]; exact hp1
    have hq2 : mupd M2 p2 (.lst []) q = some (.lst (B.map D.int)) := by rw [mupd_ne (ne_new hq1 np2)]; exact hq1
    have s2 : Sub M (mupd M2 p2 (.lst [])) := s1.trans (Sub.new np2)
    refine eqG_nil hq2 mupd_same (pl_ints _) ?_
    generalize mupd M2 p2 (.lst []) = M3 at hp2 hq2 s2
    cases hb2 : (B.map D.int).isEmpty with
    | true =>
      have hB : B = [] := by simpa using hb2
      simp only [dSeq, dNext, dIf, dRet, dRetN, dDrop, dAsg, gN, gN0, gNc, gTp, gSubL, dPar, dPar3, dAug, dVar, dC, dOp, dUn, dTest, dAnd, dOr, dNot, dAndV, dOrV, dNotV, dIfE, dNil, dCons, dTup, dLst, dCB, dCall, dstart, dget, dset, dwp, dclr, asB, pI0, pI, pU, pAdd, pMul, pEqB, pIsB, pIx, pCI, pC2, pInt, pIsi, pLen, optQ, stL, lstAt, lsOf, atI0, atI1, atI2, atI3, ixN0, ixN1, ixN2, ixN3, mupd_same, mupd_mupd, dFor, iRng, List.map_cons, List.map_nil, List.length_cons, List.length_nil, List.replicate, List.cons_append, List.nil_append, List.append_nil, List.set_cons_zero, List.set_cons_succ, Nat.reduceAdd, Nat.reduceSub, Nat.sub_self, if_true, if_false, decide_eq_true_eq, Bool.false_eq_true, Bool.not_true, Bool.not_false, id_eq, ite_true, ite_false]
      exact ⟨by decide, fun r nr => ⟨by decide, give M3 s2 (.inr hB) r nr⟩⟩
    | false =>
      have hB : B ≠ [] := by simpa using hb2
      simp only [dSeq, dNext, dIf, dRet, dRetN, dDrop, dAsg, gN, gN0, gNc, gTp, gSubL, dPar, dPar3, dAug, dVar, dC, dOp, dUn, dTest, dAnd, dOr, dNot, dAndV, dOrV, dNotV, dIfE, dNil, dCons, dTup, dLst, dCB, dCall, dstart, dget, dset, dwp, dclr, asB, pI0, pI, pU, pAdd, pMul, pEqB, pIsB, pIx, pCI, pC2, pInt, pIsi, pLen, optQ, stL, lstAt, lsOf, atI0, atI1, atI2, atI3, ixN0, ixN1, ixN2, ixN3, mupd_same, mupd_mupd, dFor, iRng, List.map_cons, List.map_nil, List.length_cons, List.length_nil, List.replicate, List.cons_append, List.nil_append, List.append_nil, List.set_cons_zero, List.set_cons_succ, Nat.reduceAdd, Nat.reduceSub, Nat.sub_self, if_true, if_false, decide_eq_true_eq, Bool.false_eq_true, Bool.not_true, Bool.not_false, id_eq, ite_true, ite_false]
      exact whole_end hA hB hR hp2 hq2 s2 la lb c0 d0 bc bd ba bb h
/-! ### from whole numbers back -/
def sp_poly_from : DSp := fun ds M Q => ∃ (r : Addr) (e : Int) (F : List Int), ds = [.tup [.ref r, .int e]] ∧ M r = some (.lst (F.map D.int)) ∧ F.length ≤ 300 ∧ e ≠ 0 ∧ Bd 8000 e ∧ Q (pq (cut (F.map fun (n : Int) => (n : Rat) / (e : Rat)))) M
theorem sp_poly_from_mono : MonoSp sp_poly_from := ⟨fun h ⟨r, e, F, a, b, c, d, f, q⟩ => ⟨r, e, F, a, b, c, d, f, h _ _ q⟩⟩
theorem body_poly_from (hc : Clo Q) (h : sp_poly_from ds M Q) : b_poly_from sp_poly_of sp_fraction_of { nx := fun _ M' => Q .non M', rt := Q } (dstart ["whole", "top"] ds) M := by
  obtain ⟨r, e, F, rfl, hr, hl, e0, be, h⟩ := h
  have big := sl1000
  simp only [b_poly_from, dSeq, dNext, dIf, dRet, dRetN, dDrop, dAsg, gN, gN0, gNc, gTp, gSubL, dPar, dPar3, dAug, dVar, dC, dOp, dUn, dTest, dAnd, dOr, dNot, dAndV, dOrV, dNotV, dIfE, dNil, dCons, dTup, dLst, dCB, dCall, dstart, dget, dset, dwp, dclr, asB, pI0, pI, pU, pAdd, pMul, pEqB, pIsB, pIx, pCI, pC2, pInt, pIsi, pLen, optQ, stL, lstAt, lsOf, atI0, atI1, atI2, atI3, ixN0, ixN1, ixN2, ixN3, mupd_same, mupd_mupd, dFor, iRng, List.map_cons, List.map_nil, List.length_cons, List.length_nil, List.replicate, List.cons_append, List.nil_append, List.append_nil, List.set_cons_zero, List.set_cons_succ, Nat.reduceAdd, Nat.reduceSub, Nat.sub_self, if_true, if_false, decide_eq_true_eq, Bool.false_eq_true, Bool.not_true, Bool.not_false, id_eq, ite_true, ite_false, iSeqD, dLc, hr]
  intro p np
  have nrp : r ≠ p := ne_new hr np
  refine lc_of (live := isL r (F.map D.int)) (p := p) (M0 := M) D.int (fun (n : Int) => fq ((n : Rat) / (e : Rat))) (fun xs => by show mupd M p _ r = _; rw [mupd_ne nrp]; exact hr) F [] _ (fun n hn xs K k => ?_) (by simp; omega) ?_
  · simp only [dSeq, dNext, dIf, dRet, dRetN, dDrop, dAsg, gN, gN0, gNc, gTp, gSubL, dPar, dPar3, dAug, dVar, dC, dOp, dUn, dTest, dAnd, dOr, dNot, dAndV, dOrV, dNotV, dIfE, dNil, dCons, dTup, dLst, dCB, dCall, dstart, dget, dset, dwp, dclr, asB, pI0, pI, pU, pAdd, pMul, pEqB, pIsB, pIx, pCI, pC2, pInt, pIsi, pLen, optQ, stL, lstAt, lsOf, atI0, atI1, atI2, atI3, ixN0, ixN1, ixN2, ixN3, mupd_same, mupd_mupd, dFor, iRng, List.map_cons, List.map_nil, List.length_cons, List.length_nil, List.replicate, List.cons_append, List.nil_append, List.append_nil, List.set_cons_zero, List.set_cons_succ, Nat.reduceAdd, Nat.reduceSub, Nat.sub_self, if_true, if_false, decide_eq_true_eq, Bool.false_eq_true, Bool.not_true, Bool.not_false, id_eq, ite_true, ite_false, sp_fraction_of]
    refine ⟨e0, be, ?_⟩
    rw [low_q e0]; exact k
  · simp only [dSeq, dNext, dIf, dRet, dRetN, dDrop, dAsg, gN, gN0, gNc, gTp, gSubL, dPar, dPar3, dAug, dVar, dC, dOp, dUn, dTest, dAnd, dOr, dNot, dAndV, dOrV, dNotV, dIfE, dNil, dCons, dTup, dLst, dCB, dCall, dstart, dget, dset, dwp, dclr, asB, pI0, pI, pU, pAdd, pMul, pEqB, pIsB, pIx, pCI, pC2, pInt, pIsi, pLen, optQ, stL, lstAt, lsOf, atI0, atI1, atI2, atI3, ixN0, ixN1, ixN2, ixN3, mupd_same, mupd_mupd, dFor, iRng, List.map_cons, List.map_nil, List.length_cons, List.length_nil, List.replicate, List.cons_append, List.nil_append, List.append_nil, List.set_cons_zero, List.set_cons_succ, Nat.reduceAdd, Nat.reduceSub, Nat.sub_self, if_true, if_false, decide_eq_true_eq, Bool.false_eq_true, Bool.not_true, Bool.not_false, id_eq, ite_true, ite_false]
    refine ⟨F.map fun (n : Int) => (n : Rat) / (e : Rat), ?_, by simp; omega, hc _ _ _ (Sub.new np) h⟩
    unfold RowAt
    rw [mupd_same, List.map_map]; rfl
theorem co_scale (a : List Rat) (t : Rat) (i : Nat) : co (a.map (· * t)) i = co a i * t := by
  unfold co
  rw [List.getD_eq_getElem?_getD, List.getD_eq_getElem?_getD, List.getElem?_map]
  cases a[i]? with
  | none => simp
  | some x => rfl
theorem cv_scale (a b : List Rat) (c d : Rat) (k : Nat) : ∀ i, cv (a.map (· * c)) (b.map (· * d)) i k = cv a b i k * (c * d)
  | 0 => by simp [cv, sg]
  | i + 1 => by
    have ih := cv_scale a b c d k i
    unfold cv at ih ⊢
    rw [sg, sg, ih, co_scale, co_scale]
    split <;> grind
theorem mulL_scale (a b : List Rat) (c d : Rat) : mulL (a.map (· * c)) (b.map (· * d)) = (mulL a b).map (· * (c * d)) := by
  unfold mulL
  by_cases h : a = [] ∨ b = []
  · rw [if_pos h, if_pos (by simpa using h)]; rfl
  · rw [if_neg h, if_neg (by simpa using h), List.map_map, List.length_map, List.length_map]
    apply List.map_congr_left
    intro k _
    exact cv_scale a b c d k _
def sp_timed : DSp := sp_product
theorem body_timed (hc : Clo Q) (h : sp_product ds M Q) : b_poly_timed sp_poly_from sp_whole_timed sp_whole_of { nx := fun _ M' => Q .non M', rt := Q } (dstart ["one", "other"] ds) M := by
  obtain ⟨a, b, rfl, ha, hb, h⟩ := h
  have la := ha.len
  have lb := hb.len
  obtain ⟨⟨N1, B1, n1, n1', b1, pa⟩, _⟩ := ha.p
  obtain ⟨⟨N2, B2, n2, n2', b2, pb⟩, _⟩ := hb.o.p
  simp only [b_poly_timed, dSeq, dNext, dIf, dRet, dRetN, dDrop, dAsg, gN, gN0, gNc, gTp, gSubL, dPar, dPar3, dAug, dVar, dC, dOp, dUn, dTest, dAnd, dOr, dNot, dAndV, dOrV, dNotV, dIfE, dNil, dCons, dTup, dLst, dCB, dCall, dstart, dget, dset, dwp, dclr, asB, pI0, pI, pU, pAdd, pMul, pEqB, pIsB, pIx, pCI, pC2, pInt, pIsi, pLen, optQ, stL, lstAt, lsOf, atI0, atI1, atI2, atI3, ixN0, ixN1, ixN2, ixN3, mupd_same, mupd_mupd, dFor, iRng, List.map_cons, List.map_nil, List.length_cons, List.length_nil, List.replicate, List.cons_append, List.nil_append, List.append_nil, List.set_cons_zero, List.set_cons_succ, Nat.reduceAdd, Nat.reduceSub, Nat.sub_self, if_true, if_false, decide_eq_true_eq, Bool.false_eq_true, Bool.not_true, Bool.not_false, id_eq, ite_true, ite_false]
  refine ⟨a, N1, B1, rfl, n1, pa, n1', b1, by omega, fun p c A M1 s1 e1 c0 cN eA bA => ⟨b, N2, B2, rfl, n2, pb, n2', b2, by omega, fun q d B M2 s2 e2 d0 dN eB bB => ?_⟩⟩
  have lA : A.length = a.length := by have := congrArg List.length eA; unfold ratI at this; simpa using this
  have lB : B.length = b.length := by have := congrArg List.length eB; unfold ratI at this; simpa using this
  have p17 : (2 : Nat) ^ 1700 < 2 ^ 1800 := Nat.pow_lt_pow_right (by decide) (by decide)
  have p18 : (2 : Nat) ^ 1800 < 2 ^ 2000 := Nat.pow_lt_pow_right (by decide) (by decide)
  refine ⟨p, q, c, d, A, B, rfl, s2 _ _ e1, e2, by omega, by omega, by omega, by omega, ?_, ?_, fun n hn => ?_, fun n hn => ?_, fun r F e M3 s3 e3 lF eF e0 be hF => ?_⟩
  · show c.natAbs < 2 ^ 1800; omega
  · show d.natAbs < 2 ^ 1800; omega
  · have := bA n hn; show n.natAbs < 2 ^ 2000; omega
  · have := bB n hn; show n.natAbs < 2 ^ 2000; omega
  · refine ⟨r, e, F, rfl, e3, lF, e0, be, ?_⟩
    have key : (F.map fun (n : Int) => (n : Rat) / (e : Rat)) = mulL a b := by
      rw [eA, eB, mulL_scale] at eF
      by_cases hFe : F = []
      · subst hFe
        have : (mulL a b).map (· * ((c : Rat) * (d : Rat))) = [] := eF.symm
        rw [List.map_eq_nil_iff] at this
        rw [this]; rfl
      · have ee := hF hFe
        have e1 : (F.map fun (n : Int) => (n : Rat) / (e : Rat)) = (ratI F).map (· / (e : Rat)) := by unfold ratI; rw [List.map_map]; rfl
        rw [e1, eF, List.map_map]
        have : ∀ x ∈ mulL a b, ((fun x => x / (e : Rat)) ∘ fun x => x * ((c : Rat) * (d : Rat))) x = x := fun x _ => by
          have n := rat_ne e0
          simp only [Function.comp]
          rw [ee, cast_mul] at *
          grind
        rw [List.map_congr_left this, List.map_id']
    rw [key]
    exact hc _ _ _ ((s1.trans s2).trans s3) h
end
end K15

namespace K15
open PySem PySem.Spec PyProof.Rows L2 DL QF
section
variable {ds : List D} {M : Mem} {Q : DQ}
/-! ### the law's sums -/
def smO (a b : List Rat) (t : Rat) : List Rat := (List.range (max a.length b.length)).map fun i => co a i + co b i * t
def sp_sum_of : DSp := fun ds M Q => ∃ (a b : List Rat) (t : Rat), ds = [pq a, pq b, fq t] ∧ allSz a ∧ allSz b ∧ Sz t ∧ (∀ c ∈ b, Sz (c * t)) ∧ a.length ≤ 100 ∧ b.length ≤ 100 ∧ Q (pq (cut (smO a b t))) M
theorem sp_sum_of_mono : MonoSp sp_sum_of := ⟨fun h ⟨a, b, t, e, x, y, z, w, v, u, q⟩ => ⟨a, b, t, e, x, y, z, w, v, u, h _ _ q⟩⟩
theorem body_sum_of (hc : Clo Q) (h : sp_sum_of ds M Q) : b__law_sum_of sq_plus sq_times sp_cut { nx := fun _ M' => Q .non M', rt := Q } (dstart ["one", "other", "by", "row", "at", "first", "second"] ds) M := by
  obtain ⟨a, b, t, rfl, ha, hb, ht, hbt, la, lb, h⟩ := h
  have big := sl1000
  unfold b__law_sum_of
  refine seq_cut fun R hR => ?_
  simp only [dSeq, dNext, dIf, dRet, dRetN, dDrop, dAsg, gN, gN0, gNc, gTp, gSubL, dPar, dPar3, dAug, dVar, dC, dOp, dUn, dTest, dAnd, dOr, dNot, dAndV, dOrV, dNotV, dIfE, dNil, dCons, dTup, dLst, dCB, dCall, dstart, dget, dset, dwp, dclr, asB, pI0, pI, pU, pAdd, pMul, pEqB, pIsB, pIx, pCI, pC2, pInt, pIsi, pLen, optQ, stL, lstAt, lsOf, atI0, atI1, atI2, atI3, ixN0, ixN1, ixN2, ixN3, mupd_same, mupd_mupd, dFor, iRng, List.map_cons, List.map_nil, List.length_cons, List.length_nil, List.replicate, List.cons_append, List.nil_append, List.append_nil, List.set_cons_zero, List.set_cons_succ, Nat.reduceAdd, Nat.reduceSub, Nat.sub_self, if_true, if_false, decide_eq_true_eq, Bool.false_eq_true, Bool.not_true, Bool.not_false, id_eq, ite_true, ite_false]
  refine ⟨by decide, fun p np => ?_⟩
  subst hR
  refine seq_cut fun R hR => ?_
  obtain ⟨n, hn, hn2, hna, hnb⟩ : ∃ n : Nat, max ((a.length : Nat) : Int) ((b.length : Nat) : Int) = n ∧ n = max a.length b.length ∧ a.length ≤ n ∧ b.length ≤ n := ⟨max a.length b.length, by omega, rfl, by omega, by omega⟩
  simp only [dSeq, dNext, dIf, dRet, dRetN, dDrop, dAsg, gN, gN0, gNc, gTp, gSubL, dPar, dPar3, dAug, dVar, dC, dOp, dUn, dTest, dAnd, dOr, dNot, dAndV, dOrV, dNotV, dIfE, dNil, dCons, dTup, dLst, dCB, dCall, dstart, dget, dset, dwp, dclr, asB, pI0, pI, pU, pAdd, pMul, pEqB, pIsB, pIx, pCI, pC2, pInt, pIsi, pLen, optQ, stL, lstAt, lsOf, atI0, atI1, atI2, atI3, ixN0, ixN1, ixN2, ixN3, mupd_same, mupd_mupd, dFor, iRng, List.map_cons, List.map_nil, List.length_cons, List.length_nil, List.replicate, List.cons_append, List.nil_append, List.append_nil, List.set_cons_zero, List.set_cons_succ, Nat.reduceAdd, Nat.reduceSub, Nat.sub_self, if_true, if_false, decide_eq_true_eq, Bool.false_eq_true, Bool.not_true, Bool.not_false, id_eq, ite_true, ite_false, pq, pC2, List.length_map, hn]
  refine ⟨⟨by omega, by omega⟩, ?_⟩
  refine loop_rng (I := fun i τ M' => 0 ≤ i ∧ Sub M M' ∧ M' p = some (.lst ((List.range i.toNat).map fun i => fq (co a i + co b i * t))) ∧ ∃ u v w, τ = [some (.tup (a.map fq)), some (.tup (b.map fq)), some (fq t), some (.ref p), u, v, w]) ?_ ?_ n 0 _ _ (by omega) ⟨by omega, Sub.new np, mupd_same, none, none, none, rfl⟩
  · rintro i τ M1 X hi ⟨i0, hs, e, u, v, w, rfl⟩ hX
    obtain ⟨j, rfl⟩ : ∃ j : Nat, i = j := ⟨i.toNat, by omega⟩
    simp only [Int.toNat_natCast] at e
    have fin : sq_times [fq (co b j), fq t] M1 fun d M2 => sq_plus [fq (co a j), d] M2 fun d M3 => pAppend (.ref p) [d] M3 fun _ M4 => X [some (.tup (a.map fq)), some (.tup (b.map fq)), some (fq t), some (.ref p), some (.int (j : Int)), some (fq (co a j)), some (fq (co b j))] M4 := by
      have z : Sz (co b j * t) := by
        by_cases hj : j < b.length
        · exact hbt _ (List.mem_of_getElem? (co_lt hj))
        · rw [co_ge (by omega), Rat.zero_mul]; exact sz_zero
      refine ⟨_, _, rfl, sz_co hb _, ht, trivial, _, _, rfl, sz_co ha _, z, trivial, ?_⟩
      simp only [pAppend, lstAt, e]
      refine ⟨by simp; omega, hX _ _ ⟨by omega, hs.new' np, ?_, _, _, _, rfl⟩⟩
      rw [mupd_same, show ((j : Int) + 1).toNat = j + 1 by omega, List.range_succ, List.map_append]
      rfl
    have f0 : (D.tup [.int 0, .int 1]) = fq 0 := rfl
    simp only [dSeq, dNext, dIf, dRet, dRetN, dDrop, dAsg, gN, gN0, gNc, gTp, gSubL, dPar, dPar3, dAug, dVar, dC, dOp, dUn, dTest, dAnd, dOr, dNot, dAndV, dOrV, dNotV, dIfE, dNil, dCons, dTup, dLst, dCB, dCall, dstart, dget, dset, dwp, dclr, asB, pI0, pI, pU, pAdd, pMul, pEqB, pIsB, pIx, pCI, pC2, pInt, pIsi, pLen, optQ, stL, lstAt, lsOf, atI0, atI1, atI2, atI3, ixN0, ixN1, ixN2, ixN3, mupd_same, mupd_mupd, dFor, iRng, List.map_cons, List.map_nil, List.length_cons, List.length_nil, List.replicate, List.cons_append, List.nil_append, List.append_nil, List.set_cons_zero, List.set_cons_succ, Nat.reduceAdd, Nat.reduceSub, Nat.sub_self, if_true, if_false, decide_eq_true_eq, Bool.false_eq_true, Bool.not_true, Bool.not_false, id_eq, ite_true, ite_false, List.length_map, dBM, tyL]
    by_cases h1 : (j : Int) < (a.length : Nat)
    · simp only [h1, dSeq, dNext, dIf, dRet, dRetN, dDrop, dAsg, gN, gN0, gNc, gTp, gSubL, dPar, dPar3, dAug, dVar, dC, dOp, dUn, dTest, dAnd, dOr, dNot, dAndV, dOrV, dNotV, dIfE, dNil, dCons, dTup, dLst, dCB, dCall, dstart, dget, dset, dwp, dclr, asB, pI0, pI, pU, pAdd, pMul, pEqB, pIsB, pIx, pCI, pC2, pInt, pIsi, pLen, optQ, stL, lstAt, lsOf, atI0, atI1, atI2, atI3, ixN0, ixN1, ixN2, ixN3, mupd_same, mupd_mupd, dFor, iRng, List.map_cons, List.map_nil, List.length_cons, List.length_nil, List.replicate, List.cons_append, List.nil_append, List.append_nil, List.set_cons_zero, List.set_cons_succ, Nat.reduceAdd, Nat.reduceSub, Nat.sub_self, if_true, if_false, decide_eq_true_eq, Bool.false_eq_true, Bool.not_true, Bool.not_false, id_eq, ite_true, ite_false, atI_fq (show j < a.length by omega)]
      by_cases h2 : (j : Int) < (b.length : Nat)
      · simp only [h2, dSeq, dNext, dIf, dRet, dRetN, dDrop, dAsg, gN, gN0, gNc, gTp, gSubL, dPar, dPar3, dAug, dVar, dC, dOp, dUn, dTest, dAnd, dOr, dNot, dAndV, dOrV, dNotV, dIfE, dNil, dCons, dTup, dLst, dCB, dCall, dstart, dget, dset, dwp, dclr, asB, pI0, pI, pU, pAdd, pMul, pEqB, pIsB, pIx, pCI, pC2, pInt, pIsi, pLen, optQ, stL, lstAt, lsOf, atI0, atI1, atI2, atI3, ixN0, ixN1, ixN2, ixN3, mupd_same, mupd_mupd, dFor, iRng, List.map_cons, List.map_nil, List.length_cons, List.length_nil, List.replicate, List.cons_append, List.nil_append, List.append_nil, List.set_cons_zero, List.set_cons_succ, Nat.reduceAdd, Nat.reduceSub, Nat.sub_self, if_true, if_false, decide_eq_true_eq, Bool.false_eq_true, Bool.not_true, Bool.not_false, id_eq, ite_true, ite_false, atI_fq (show j < b.length by omega), e]
        exact ⟨trivial, fin⟩
      · simp only [h2, dSeq, dNext, dIf, dRet, dRetN, dDrop, dAsg, gN, gN0, gNc, gTp, gSubL, dPar, dPar3, dAug, dVar, dC, dOp, dUn, dTest, dAnd, dOr, dNot, dAndV, dOrV, dNotV, dIfE, dNil, dCons, dTup, dLst, dCB, dCall, dstart, dget, dset, dwp, dclr, asB, pI0, pI, pU, pAdd, pMul, pEqB, pIsB, pIx, pCI, pC2, pInt, pIsi, pLen, optQ, stL, lstAt, lsOf, atI0, atI1, atI2, atI3, ixN0, ixN1, ixN2, ixN3, mupd_same, mupd_mupd, dFor, iRng, List.map_cons, List.map_nil, List.length_cons, List.length_nil, List.replicate, List.cons_append, List.nil_append, List.append_nil, List.set_cons_zero, List.set_cons_succ, Nat.reduceAdd, Nat.reduceSub, Nat.sub_self, if_true, if_false, decide_eq_true_eq, Bool.false_eq_true, Bool.not_true, Bool.not_false, id_eq, ite_true, ite_false, f0, e]
        rw [co_ge (show b.length ≤ j by omega)] at fin
        exact ⟨by decide, trivial, fin⟩
    · simp only [h1, dSeq, dNext, dIf, dRet, dRetN, dDrop, dAsg, gN, gN0, gNc, gTp, gSubL, dPar, dPar3, dAug, dVar, dC, dOp, dUn, dTest, dAnd, dOr, dNot, dAndV, dOrV, dNotV, dIfE, dNil, dCons, dTup, dLst, dCB, dCall, dstart, dget, dset, dwp, dclr, asB, pI0, pI, pU, pAdd, pMul, pEqB, pIsB, pIx, pCI, pC2, pInt, pIsi, pLen, optQ, stL, lstAt, lsOf, atI0, atI1, atI2, atI3, ixN0, ixN1, ixN2, ixN3, mupd_same, mupd_mupd, dFor, iRng, List.map_cons, List.map_nil, List.length_cons, List.length_nil, List.replicate, List.cons_append, List.nil_append, List.append_nil, List.set_cons_zero, List.set_cons_succ, Nat.reduceAdd, Nat.reduceSub, Nat.sub_self, if_true, if_false, decide_eq_true_eq, Bool.false_eq_true, Bool.not_true, Bool.not_false, id_eq, ite_true, ite_false, f0]
      rw [co_ge (show a.length ≤ j by omega)] at fin
      by_cases h2 : (j : Int) < (b.length : Nat)
      · simp only [h2, dSeq, dNext, dIf, dRet, dRetN, dDrop, dAsg, gN, gN0, gNc, gTp, gSubL, dPar, dPar3, dAug, dVar, dC, dOp, dUn, dTest, dAnd, dOr, dNot, dAndV, dOrV, dNotV, dIfE, dNil, dCons, dTup, dLst, dCB, dCall, dstart, dget, dset, dwp, dclr, asB, pI0, pI, pU, pAdd, pMul, pEqB, pIsB, pIx, pCI, pC2, pInt, pIsi, pLen, optQ, stL, lstAt, lsOf, atI0, atI1, atI2, atI3, ixN0, ixN1, ixN2, ixN3, mupd_same, mupd_mupd, dFor, iRng, List.map_cons, List.map_nil, List.length_cons, List.length_nil, List.replicate, List.cons_append, List.nil_append, List.append_nil, List.set_cons_zero, List.set_cons_succ, Nat.reduceAdd, Nat.reduceSub, Nat.sub_self, if_true, if_false, decide_eq_true_eq, Bool.false_eq_true, Bool.not_true, Bool.not_false, id_eq, ite_true, ite_false, atI_fq (show j < b.length by omega), e]
        exact ⟨by decide, trivial, fin⟩
      · simp only [h2, dSeq, dNext, dIf, dRet, dRetN, dDrop, dAsg, gN, gN0, gNc, gTp, gSubL, dPar, dPar3, dAug, dVar, dC, dOp, dUn, dTest, dAnd, dOr, dNot, dAndV, dOrV, dNotV, dIfE, dNil, dCons, dTup, dLst, dCB, dCall, dstart, dget, dset, dwp, dclr, asB, pI0, pI, pU, pAdd, pMul, pEqB, pIsB, pIx, pCI, pC2, pInt, pIsi, pLen, optQ, stL, lstAt, lsOf, atI0, atI1, atI2, atI3, ixN0, ixN1, ixN2, ixN3, mupd_same, mupd_mupd, dFor, iRng, List.map_cons, List.map_nil, List.length_cons, List.length_nil, List.replicate, List.cons_append, List.nil_append, List.append_nil, List.set_cons_zero, List.set_cons_succ, Nat.reduceAdd, Nat.reduceSub, Nat.sub_self, if_true, if_false, decide_eq_true_eq, Bool.false_eq_true, Bool.not_true, Bool.not_false, id_eq, ite_true, ite_false, f0, e]
        rw [co_ge (show b.length ≤ j by omega)] at fin
        exact ⟨by decide, by decide, trivial, fin⟩
  · rintro τ M1 ⟨i0, hs, e, u, v, w, rfl⟩
    dsimp only
    subst hR
    simp only [dSeq, dNext, dIf, dRet, dRetN, dDrop, dAsg, gN, gN0, gNc, gTp, gSubL, dPar, dPar3, dAug, dVar, dC, dOp, dUn, dTest, dAnd, dOr, dNot, dAndV, dOrV, dNotV, dIfE, dNil, dCons, dTup, dLst, dCB, dCall, dstart, dget, dset, dwp, dclr, asB, pI0, pI, pU, pAdd, pMul, pEqB, pIsB, pIx, pCI, pC2, pInt, pIsi, pLen, optQ, stL, lstAt, lsOf, atI0, atI1, atI2, atI3, ixN0, ixN1, ixN2, ixN3, mupd_same, mupd_mupd, dFor, iRng, List.map_cons, List.map_nil, List.length_cons, List.length_nil, List.replicate, List.cons_append, List.nil_append, List.append_nil, List.set_cons_zero, List.set_cons_succ, Nat.reduceAdd, Nat.reduceSub, Nat.sub_self, if_true, if_false, decide_eq_true_eq, Bool.false_eq_true, Bool.not_true, Bool.not_false, id_eq, ite_true, ite_false]
    refine ⟨smO a b t, ?_, by unfold smO; simp; omega, hc _ _ _ hs h⟩
    unfold seqAt smO
    simp only [e, Int.toNat_natCast, List.map_map, hn2]
    rfl
theorem smO_one (a b : List Rat) : smO a b 1 = addL a b := by
  unfold smO addL
  apply List.map_congr_left
  intro i _
  rw [Rat.mul_one]
theorem smO_nil (a : List Rat) (t : Rat) : smO [] a t = a.map (· * t) := by
  unfold smO
  conv => rhs; rw [← list_co a]
  rw [List.map_map, show max ([] : List Rat).length a.length = a.length by simp]
  apply List.map_congr_left
  intro i _
  rw [co_nil]
  simp only [Function.comp]
  exact Rat.zero_add _
/-! ### drawn polynomials -/
theorem lc_gen {live : Mem → Prop} {g : DTG} {te : DTE} {p : Addr} {τ : DS} (I : List D → Mem → Prop) (hI : ∀ acc M, I acc M → live M ∧ M p = some (.lst acc)) (r0 : List D)
    (step : ∀ d acc M (K : DQ), d ∈ r0 → I acc M → (∀ y M4, M4 p = some (.lst acc) → I (acc ++ [y]) (mupd M4 p (.lst (acc ++ [y]))) → K y M4) → g d τ M fun τ2 M2 => te τ2 M2 K) :
    ∀ (r acc : List D) (M : Mem) (Q : Mem → Prop), (∀ d ∈ r, d ∈ r0) → acc.length + r.length ≤ sizeLine → I acc M → (∀ acc' M', acc'.length = acc.length + r.length → I acc' M' → Q M') → dLcL live g dYes te p τ r acc M Q
  | [], acc, M, Q, _, _, h, q => ⟨(hI _ _ h).1, q acc M (by simp) h⟩
  | d :: r, acc, M, Q, hr, hs, h, q => by
    refine ⟨(hI _ _ h).1, ?_⟩
    have hs' : acc.length + r.length + 1 ≤ sizeLine := by simp only [List.length_cons] at hs; omega
    refine step d acc M (fun y M4 => M4 p = some (.lst acc) ∧ acc.length < sizeLine ∧ dLcL live g dYes te p τ r (acc ++ [y]) (mupd M4 p (.lst (acc ++ [y]))) Q) (hr d (List.mem_cons_self ..)) h fun y M4 e i => ⟨e, by omega, ?_⟩
    refine lc_gen I hI r0 step r (acc ++ [y]) _ Q (fun d hd => hr d (List.mem_cons_of_mem _ hd)) (by simp only [List.length_append, List.length_cons, List.length_nil]; omega) i fun acc' M' hl i' => q acc' M' (by simp only [List.length_append, List.length_cons, List.length_nil] at hl ⊢; omega) i'
def sp_poly : DSp := fun ds M Q => match ds with
  | [.ref a, .int n, .int m] => ∃ l, HpA M a l ∧ 0 ≤ n ∧ n ≤ 50 ∧ 3 ≤ m ∧ m ≤ 10 ^ 12 ∧ ∀ (k : List Rat) (M' : Mem), (∀ c ∈ k, XF m.toNat c) → k.length ≤ n.toNat → cut k = k → SubH a l M M' → HpA M' a l → Q (pq k) M'
  | _ => False
theorem sp_poly_mono : MonoSp sp_poly := ⟨fun {ds M Q Q'} h q => by
  unfold sp_poly at q ⊢
  split at q
  · obtain ⟨l, a, b, c, d, e, f⟩ := q
    exact ⟨l, a, b, c, d, e, fun k M' x y z w v => h _ _ (f k M' x y z w v)⟩
  · exact q⟩
theorem cut_cut : ∀ l : List Rat, cut (cut l) = cut l
  | [] => rfl
  | c :: l => by
    by_cases h : c = 0 ∧ cut l = []
    · rw [cut, if_pos h]; rfl
    · rw [cut, if_neg h, cut, cut_cut l, if_neg h]
theorem body_poly (h : sp_poly ds M Q) : b__law_poly sp_draw sp_pick sp_fraction sp_cut { nx := fun _ M' => Q .non M', rt := Q } (dstart ["heap", "many", "most", "row", "at"] ds) M := by
  unfold sp_poly at h
  split at h
  · rename_i a n m
    obtain ⟨l, hw, n0, n1, m0, m1, h⟩ := h
    have big := sl1000
    simp only [b__law_poly, dSeq, dNext, dIf, dRet, dRetN, dDrop, dAsg, gN, gN0, gNc, gTp, gSubL, dPar, dPar3, dAug, dVar, dC, dOp, dUn, dTest, dAnd, dOr, dNot, dAndV, dOrV, dNotV, dIfE, dNil, dCons, dTup, dLst, dCB, dCall, dstart, dget, dset, dwp, dclr, asB, pI0, pI, pU, pAdd, pMul, pEqB, pIsB, pIx, pCI, pC2, pInt, pIsi, pLen, optQ, stL, lstAt, lsOf, atI0, atI1, atI2, atI3, ixN0, ixN1, ixN2, ixN3, mupd_same, mupd_mupd, dFor, iRng, List.map_cons, List.map_nil, List.length_cons, List.length_nil, List.replicate, List.cons_append, List.nil_append, List.append_nil, List.set_cons_zero, List.set_cons_succ, Nat.reduceAdd, Nat.reduceSub, Nat.sub_self, if_true, if_false, decide_eq_true_eq, Bool.false_eq_true, Bool.not_true, Bool.not_false, id_eq, ite_true, ite_false, dLc, sp_draw]
    refine ⟨l, hw, by omega, Int.lt_of_lt_of_le (by omega : n + 1 < 2 ^ 10) (by decide), fun x M1 x0 x1 s1 w1 => ⟨⟨by omega, by omega⟩, fun p np => ?_⟩⟩
    have pn := w1.at np
    refine lc_gen (I := fun acc M' => M' p = some (.lst acc) ∧ HpA M' a l ∧ SubH a l M M' ∧ ∃ k : List Rat, acc = k.map fq ∧ ∀ c ∈ k, XF m.toNat c) (fun acc M' q => ⟨trivial, q.1⟩) (rngD 0 x) ?_ (rngD 0 x) [] _ _ (fun _ h => h) (by simp [rngD]; omega) ⟨mupd_same, w1.new np, s1.new np, [], rfl, fun c hc => by cases hc⟩ ?_
    · rintro d acc M2 K hd ⟨e, w2, s2, k, rfl, hk⟩ hK
      obtain ⟨j, hj⟩ : ∃ j : Int, d = .int j := by
        unfold rngD at hd
        obtain ⟨i, _, rfl⟩ := List.mem_map.mp hd
        exact ⟨_, rfl⟩
      subst hj
      simp only [dSeq, dNext, dIf, dRet, dRetN, dDrop, dAsg, gN, gN0, gNc, gTp, gSubL, dPar, dPar3, dAug, dVar, dC, dOp, dUn, dTest, dAnd, dOr, dNot, dAndV, dOrV, dNotV, dIfE, dNil, dCons, dTup, dLst, dCB, dCall, dstart, dget, dset, dwp, dclr, asB, pI0, pI, pU, pAdd, pMul, pEqB, pIsB, pIx, pCI, pC2, pInt, pIsi, pLen, optQ, stL, lstAt, lsOf, atI0, atI1, atI2, atI3, ixN0, ixN1, ixN2, ixN3, mupd_same, mupd_mupd, dFor, iRng, List.map_cons, List.map_nil, List.length_cons, List.length_nil, List.replicate, List.cons_append, List.nil_append, List.append_nil, List.set_cons_zero, List.set_cons_succ, Nat.reduceAdd, Nat.reduceSub, Nat.sub_self, if_true, if_false, decide_eq_true_eq, Bool.false_eq_true, Bool.not_true, Bool.not_false, id_eq, ite_true, ite_false, sp_fraction]
      refine ⟨by decide, l, w2, m0, m1, fun r1 M3 hr1 s3 w3 => ⟨l, w3, m0, m1, fun r2 M4 hr2 s4 w4 => ⟨by decide, fun q nq => ?_⟩⟩⟩
      have e4 : M4 p = some (.lst (k.map fq)) := s4 _ _ pn.1 pn.2 (s3 _ _ pn.1 pn.2 e)
      refine ⟨l, _, seq_new, (HpA.ne w4 nq).1, (HpA.ne w4 nq).2, w4.new nq, by simp, by simp, fun d M5 hd s5 w5 => ?_⟩
      have nqp : p ≠ q := ne_new e4 nq
      have e5 : M5 p = some (.lst (k.map fq)) := s5 _ _ pn.1 pn.2 (by rw [mupd_ne nqp]; exact e4)
      obtain ⟨r, rfl, hr⟩ : ∃ r : Rat, d = fq r ∧ XF m.toNat r := by
        simp only [List.mem_cons, List.not_mem_nil, or_false] at hd
        rcases hd with rfl | rfl | rfl
        · exact ⟨0, rfl, XF.zero (by omega)⟩
        · exact ⟨r1, rfl, hr1⟩
        · exact ⟨r2, rfl, hr2⟩
      have sub5 : SubH a l M M5 := (((s2.trans s3).trans s4).new nq).trans s5
      have mp : ∀ x o, M x = some o → x ≠ a → x ≠ l → x ≠ p := fun x o ex xa xl z => by
        subst z
        have := s1 _ _ xa xl ex
        rw [np] at this; cases this
      refine hK _ M5 e5 ⟨mupd_same, ?_, fun x o xa xl ex => ?_, k ++ [r], by rw [List.map_append]; rfl, fun c hc => ?_⟩
      · obtain ⟨ns, s, g1, g2, rest⟩ := w5
        exact ⟨ns, s, by rw [mupd_ne pn.1.symm]; exact g1, by rw [mupd_ne pn.2.symm]; exact g2, rest⟩
      · rw [mupd_ne (mp x o ex xa xl)]; exact sub5 _ _ xa xl ex
      · rcases List.mem_append.mp hc with hc | hc
        · exact hk c hc
        · rw [List.mem_singleton.mp hc]; exact hr
    · rintro acc M2 hl ⟨e, w2, s2, k, rfl, hk⟩
      have lk : k.length ≤ n.toNat := by
        simp [rngD] at hl
        omega
      refine ⟨k, ?_, by omega, h _ _ (fun c hc => hk c (cut_sub k c hc)) (Nat.le_trans (cut_len k) lk) (cut_cut k) s2 w2⟩
      unfold seqAt; simp only [e]
  · exact h.elim
theorem pb_of {m : Nat} : ∀ l : List Rat, (∀ c ∈ l, XF m c) → ∃ N : Nat, 0 < N ∧ N ≤ m ^ l.length ∧ PB N (m * N) l
  | [], _ => ⟨1, by decide, by simp, fun c hc => by cases hc⟩
  | c :: l, h => by
    obtain ⟨N, n0, n1, hp⟩ := pb_of l fun d hd => h d (List.mem_cons_of_mem _ hd)
    obtain ⟨q, t, hc, hq, ht⟩ := h c (List.mem_cons_self ..)
    refine ⟨N * q, Nat.mul_pos n0 hc.pos, ?_, fun d hd => ?_⟩
    · rw [List.length_cons, Nat.pow_succ]; exact Nat.mul_le_mul n1 hq
    · rcases List.mem_cons.mp hd with rfl | hd
      · exact HD.cast (hc.up n0) (Nat.mul_comm _ _) (by
          calc t * N ≤ m * N := Nat.mul_le_mul_right _ ht
            _ ≤ m * N * q := Nat.le_mul_of_pos_right _ hc.pos
            _ = m * (N * q) := Nat.mul_assoc ..)
      · exact HD.cast ((hp d hd).up hc.pos) rfl (Nat.le_of_eq (Nat.mul_assoc ..))
theorem oz_of {l : List Rat} (h : ∀ c ∈ l, XF (10 ^ 12) c) (hl : l.length ≤ 40) : OZ l := by
  obtain ⟨N, n0, n1, hp⟩ := pb_of l h
  have e : N ≤ 2 ^ 1600 := Nat.le_trans n1 (Nat.le_trans (Nat.pow_le_pow_right (by decide) hl) (Nat.le_trans (Nat.pow_le_pow_left (show 10 ^ 12 ≤ 2 ^ 40 by decide) 40) (by rw [← Nat.pow_mul]; exact Nat.le_refl _)))
  exact ⟨⟨N, _, n0, e, Nat.le_trans (mul_pow2 (show 10 ^ 12 ≤ 2 ^ 40 by decide) e) (Nat.pow_le_pow_right (by decide) (by decide)), hp⟩, hl⟩
theorem lz_of {l : List Rat} (h : ∀ c ∈ l, XF 20 c) (hl : l.length ≤ 6) : LZ l := by
  obtain ⟨N, n0, n1, hp⟩ := pb_of l h
  have e : N ≤ 2 ^ 30 := Nat.le_trans n1 (Nat.le_trans (Nat.pow_le_pow_right (by decide) hl) (by decide))
  exact ⟨⟨N, _, n0, Nat.le_trans e (by decide), Nat.le_trans (mul_pow2 (show 20 ≤ 2 ^ 5 by decide) e) (by decide), hp⟩, hl⟩
end
end K15

namespace K15
open PySem PySem.Spec PyProof.Rows L2 DL QF
/-! ### alike -/
theorem lk_fq {k : Nat} (r : Rat) : lk (k + 1) (fq r) := by
  refine ⟨show 2 ≤ sizeLine by decide, fun d hd => ?_⟩
  simp only [List.mem_cons, List.not_mem_nil, or_false] at hd
  rcases hd with rfl | rfl <;> cases k <;> trivial
theorem lk_pq {k : Nat} {l : List Rat} (h : l.length ≤ 1000) : lk (k + 2) (pq l) := by
  have big := sl1000
  refine ⟨by rw [List.length_map]; omega, fun d hd => ?_⟩
  obtain ⟨r, _, rfl⟩ := List.mem_map.mp hd
  exact lk_fq r
theorem lk_tup {k : Nat} {es : List D} (hl : es.length ≤ 100) (h : ∀ d ∈ es, lk k d) : lk (k + 1) (.tup es) := by
  have big := sl1000
  exact ⟨by omega, h⟩
theorem lk_bl {k : Nat} {b : Bool} : lk k (.bl b) := by cases k <;> trivial
theorem like_of {k : Nat} {t d : D} {M : Mem} {Q : DQ} (h : t = d) (hk : lk k d) (hq : Q (.bl true) M) : sp_like (k + 1) [t, d] M Q := ⟨h, hk, hq⟩
section
variable {ds : List D} {M : Mem} {Q : DQ}
/-! ### what is a polynomial -/
inductive PAns (M : Mem) : D → Bool → Prop
  | not {d : D} {n : String} (h : kindD M d = some n) (hn : n ∈ kinds) (ne : n ≠ "tuple") : PAns M d false
  | bad {es : List D} (hl : es.length ≤ 1000) (ok : ∀ e ∈ es, fracOk M e) (b : ∃ e ∈ es, isFrac e = false) : PAns M (.tup es) false
  | good (l : List Rat) (hl : l.length ≤ 1000) (r : Bool) (hr : r = true ↔ cut l = l) : PAns M (pq l) r
def sp_is_poly : DSp := fun ds M Q => match ds with
  | [d] => ∃ r, PAns M d r ∧ Q (.bl r) M
  | _ => False
theorem sp_is_poly_mono : MonoSp sp_is_poly := ⟨fun {ds M Q Q'} h q => by
  unfold sp_is_poly at q ⊢
  split at q
  · obtain ⟨r, a, b⟩ := q
    exact ⟨r, a, h _ _ b⟩
  · exact q⟩
theorem isFrac_fq (r : Rat) : isFrac (fq r) = true := by
  have h := fq_fr r
  have h1 := h.pos
  have h2 := h.cop
  simp only at h1 h2
  unfold fq
  simp only [isFrac, h1, h2, decide_true, Bool.and_self]
theorem fracOk_fq (M : Mem) (r : Rat) : fracOk M (fq r) := ⟨trivial, trivial⟩
theorem fracOk_new {M : Mem} {p : Addr} {xs : List D} {d : D} (h : fracOk M d) (np : M p = none) : fracOk (mupd M p (.lst xs)) d := by
  cases d with
  | ref a =>
    have ne : a ≠ p := fun z => by
      subst z
      rcases h with h | h <;> simp [kindD, np] at h
    have e : kindD (mupd M p (.lst xs)) (.ref a) = kindD M (.ref a) := by
      unfold kindD
      simp only [mupd_ne ne]
    show kindD (mupd M p (.lst xs)) (.ref a) = some "list" ∨ kindD (mupd M p (.lst xs)) (.ref a) = some "dict"
    rw [e]; exact h
  | tup es =>
    match es, h with
    | [], _ => exact trivial
    | [_], _ => exact trivial
    | [_, _], h => exact h
    | _ :: _ :: _ :: _, _ => exact trivial
  | _ => exact h
theorem isiB_tup {n : String} (h : n ≠ "tuple") : isiB n "tuple" = false := by
  unfold isiB
  rw [decide_eq_false h, show decide ("tuple" = "int") = false by decide]
  simp
theorem all_frac {es : List D} (hl : es.length ≤ 1000) (ok : ∀ e ∈ es, fracOk M e) {K : DQ} {a b : Option D} (k : ∀ p, M p = none → Sub M (mupd M p (.lst (es.map fun e => .bl (isFrac e)))) ∧ K (.bl ((es.map isFrac).all id)) M) (sp0 : D := .non) :
    (dPure (dCB pAll (dCons (dLc (iSeqD (dVar 0)) (gN 1) dYes (dCall sp_is_fraction [] (dCons (dVar 1) dNil)) [1]) dNil)) : DTE) [some (.tup es), b] M K := by
  have big := sl1000
  simp only [dSeq, dNext, dIf, dRet, dRetN, dDrop, dAsg, gN, gN0, gNc, gTp, gSubL, dPar, dPar3, dAug, dVar, dC, dOp, dUn, dTest, dAnd, dOr, dNot, dAndV, dOrV, dNotV, dIfE, dNil, dCons, dTup, dLst, dCB, dCall, dstart, dget, dset, dwp, dclr, asB, pI0, pI, pU, pAdd, pMul, pEqB, pIsB, pIx, pCI, pC2, pInt, pIsi, pLen, optQ, stL, lstAt, lsOf, atI0, atI1, atI2, atI3, ixN0, ixN1, ixN2, ixN3, mupd_same, mupd_mupd, dFor, iRng, List.map_cons, List.map_nil, List.length_cons, List.length_nil, List.replicate, List.cons_append, List.nil_append, List.append_nil, List.set_cons_zero, List.set_cons_succ, Nat.reduceAdd, Nat.reduceSub, Nat.sub_self, if_true, if_false, decide_eq_true_eq, Bool.false_eq_true, Bool.not_true, Bool.not_false, id_eq, ite_true, ite_false, dPure, dLc, iSeqD, pBs]
  intro p np
  refine lc_map (M0 := M) (fun e => .bl (isFrac e)) (fun _ => trivial) es [] _ (fun e he xs K2 k2 => ?_) (by simp; omega) ?_
  · simp only [dSeq, dNext, dIf, dRet, dRetN, dDrop, dAsg, gN, gN0, gNc, gTp, gSubL, dPar, dPar3, dAug, dVar, dC, dOp, dUn, dTest, dAnd, dOr, dNot, dAndV, dOrV, dNotV, dIfE, dNil, dCons, dTup, dLst, dCB, dCall, dstart, dget, dset, dwp, dclr, asB, pI0, pI, pU, pAdd, pMul, pEqB, pIsB, pIx, pCI, pC2, pInt, pIsi, pLen, optQ, stL, lstAt, lsOf, atI0, atI1, atI2, atI3, ixN0, ixN1, ixN2, ixN3, mupd_same, mupd_mupd, dFor, iRng, List.map_cons, List.map_nil, List.length_cons, List.length_nil, List.replicate, List.cons_append, List.nil_append, List.append_nil, List.set_cons_zero, List.set_cons_succ, Nat.reduceAdd, Nat.reduceSub, Nat.sub_self, if_true, if_false, decide_eq_true_eq, Bool.false_eq_true, Bool.not_true, Bool.not_false, id_eq, ite_true, ite_false, sp_is_fraction]
    exact ⟨fracOk_new (ok e he) np, k2⟩
  · simp only [dSeq, dNext, dIf, dRet, dRetN, dDrop, dAsg, gN, gN0, gNc, gTp, gSubL, dPar, dPar3, dAug, dVar, dC, dOp, dUn, dTest, dAnd, dOr, dNot, dAndV, dOrV, dNotV, dIfE, dNil, dCons, dTup, dLst, dCB, dCall, dstart, dget, dset, dwp, dclr, asB, pI0, pI, pU, pAdd, pMul, pEqB, pIsB, pIx, pCI, pC2, pInt, pIsi, pLen, optQ, stL, lstAt, lsOf, atI0, atI1, atI2, atI3, ixN0, ixN1, ixN2, ixN3, mupd_same, mupd_mupd, dFor, iRng, List.map_cons, List.map_nil, List.length_cons, List.length_nil, List.replicate, List.cons_append, List.nil_append, List.append_nil, List.set_cons_zero, List.set_cons_succ, Nat.reduceAdd, Nat.reduceSub, Nat.sub_self, if_true, if_false, decide_eq_true_eq, Bool.false_eq_true, Bool.not_true, Bool.not_false, id_eq, ite_true, ite_false, bsOf_map]
    exact k p np
theorem body_is_poly (h : sp_is_poly ds M Q) : b_is_polynomial sp_is_fraction { nx := fun _ M' => Q .non M', rt := Q } (dstart ["value", "item"] ds) M := by
  unfold sp_is_poly at h
  split at h
  · rename_i d
    obtain ⟨r, hp, h⟩ := h
    unfold b_is_polynomial
    refine seq_cut fun R hR => ?_
    cases hp with
    | not hk hn ne =>
      simp only [dSeq, dNext, dIf, dRet, dRetN, dDrop, dAsg, gN, gN0, gNc, gTp, gSubL, dPar, dPar3, dAug, dVar, dC, dOp, dUn, dTest, dAnd, dOr, dNot, dAndV, dOrV, dNotV, dIfE, dNil, dCons, dTup, dLst, dCB, dCall, dstart, dget, dset, dwp, dclr, asB, pI0, pI, pU, pAdd, pMul, pEqB, pIsB, pIx, pCI, pC2, pInt, pIsi, pLen, optQ, stL, lstAt, lsOf, atI0, atI1, atI2, atI3, ixN0, ixN1, ixN2, ixN3, mupd_same, mupd_mupd, dFor, iRng, List.map_cons, List.map_nil, List.length_cons, List.length_nil, List.replicate, List.cons_append, List.nil_append, List.append_nil, List.set_cons_zero, List.set_cons_succ, Nat.reduceAdd, Nat.reduceSub, Nat.sub_self, if_true, if_false, decide_eq_true_eq, Bool.false_eq_true, Bool.not_true, Bool.not_false, id_eq, ite_true, ite_false, isiD_eq hk ⟨hn, k_tuple⟩, isiB_tup ne]
      exact h
    | @bad es hl ok b =>
      have e : (es.map isFrac).all id = false := by
        obtain ⟨x, hx, e⟩ := b
        rw [List.all_eq_false]
        exact ⟨isFrac x, List.mem_map.mpr ⟨x, hx, rfl⟩, by rw [e]; decide⟩
      have z := all_frac (M := M) (b := none) (K := fun d M1 => asB d M1 fun c M1 => if (!c) = true then Q (.bl false) M1 else R { nx := fun _ M' => Q .non M', rt := Q } [some (.tup es), none] M1) (a := none) hl ok (fun p np => ⟨Sub.new np, by simp only [e, dSeq, dNext, dIf, dRet, dRetN, dDrop, dAsg, gN, gN0, gNc, gTp, gSubL, dPar, dPar3, dAug, dVar, dC, dOp, dUn, dTest, dAnd, dOr, dNot, dAndV, dOrV, dNotV, dIfE, dNil, dCons, dTup, dLst, dCB, dCall, dstart, dget, dset, dwp, dclr, asB, pI0, pI, pU, pAdd, pMul, pEqB, pIsB, pIx, pCI, pC2, pInt, pIsi, pLen, optQ, stL, lstAt, lsOf, atI0, atI1, atI2, atI3, ixN0, ixN1, ixN2, ixN3, mupd_same, mupd_mupd, dFor, iRng, List.map_cons, List.map_nil, List.length_cons, List.length_nil, List.replicate, List.cons_append, List.nil_append, List.append_nil, List.set_cons_zero, List.set_cons_succ, Nat.reduceAdd, Nat.reduceSub, Nat.sub_self, if_true, if_false, decide_eq_true_eq, Bool.false_eq_true, Bool.not_true, Bool.not_false, id_eq, ite_true, ite_false]; exact h⟩)
      simp only [dstart, dIf, dOr, dNot, dTest, dCB, dCons, dNil, dVar, dC, pIsi, isi_tup k_tuple, it4, optQ, asB, dget, dRet, dNext, List.map_cons, List.map_nil, List.length_cons, List.length_nil, Nat.reduceAdd, Nat.reduceSub, List.replicate, List.cons_append, List.nil_append, Bool.not_true, Bool.false_eq_true, if_false] at z ⊢
      exact z
    | good l hl r hr =>
      have e : ((l.map fq).map isFrac).all id = true := by
        rw [List.all_eq_true]
        intro x hx
        obtain ⟨y, hy, rfl⟩ := List.mem_map.mp hx
        obtain ⟨z, _, rfl⟩ := List.mem_map.mp hy
        exact isFrac_fq z
      have fin : R { nx := fun _ M' => Q .non M', rt := Q } [some (.tup (l.map fq)), none] M := by
        subst hR
        have ok60 : plD 60 (.tup (l.map fq)) := pl_tup fun d hd => by
          obtain ⟨x, _, rfl⟩ := List.mem_map.mp hd
          exact pl_fq x
        simp only [dSeq, dNext, dIf, dRet, dRetN, dDrop, dAsg, gN, gN0, gNc, gTp, gSubL, dPar, dPar3, dAug, dVar, dC, dOp, dUn, dTest, dAnd, dOr, dNot, dAndV, dOrV, dNotV, dIfE, dNil, dCons, dTup, dLst, dCB, dCall, dstart, dget, dset, dwp, dclr, asB, pI0, pI, pU, pAdd, pMul, pEqB, pIsB, pIx, pCI, pC2, pInt, pIsi, pLen, optQ, stL, lstAt, lsOf, atI0, atI1, atI2, atI3, ixN0, ixN1, ixN2, ixN3, mupd_same, mupd_mupd, dFor, iRng, List.map_cons, List.map_nil, List.length_cons, List.length_nil, List.replicate, List.cons_append, List.nil_append, List.append_nil, List.set_cons_zero, List.set_cons_succ, Nat.reduceAdd, Nat.reduceSub, Nat.sub_self, if_true, if_false, decide_eq_true_eq, Bool.false_eq_true, Bool.not_true, Bool.not_false, id_eq, ite_true, ite_false]
        refine ⟨by decide, eqG_pl (l.map fq).isEmpty ok60 (pl_tup fun d hd => by cases hd) (by cases l <;> simp) ?_⟩
        cases hb : (l.map fq).isEmpty with
        | true =>
          have : l = [] := by simpa using hb
          subst this
          simp only [dSeq, dNext, dIf, dRet, dRetN, dDrop, dAsg, gN, gN0, gNc, gTp, gSubL, dPar, dPar3, dAug, dVar, dC, dOp, dUn, dTest, dAnd, dOr, dNot, dAndV, dOrV, dNotV, dIfE, dNil, dCons, dTup, dLst, dCB, dCall, dstart, dget, dset, dwp, dclr, asB, pI0, pI, pU, pAdd, pMul, pEqB, pIsB, pIx, pCI, pC2, pInt, pIsi, pLen, optQ, stL, lstAt, lsOf, atI0, atI1, atI2, atI3, ixN0, ixN1, ixN2, ixN3, mupd_same, mupd_mupd, dFor, iRng, List.map_cons, List.map_nil, List.length_cons, List.length_nil, List.replicate, List.cons_append, List.nil_append, List.append_nil, List.set_cons_zero, List.set_cons_succ, Nat.reduceAdd, Nat.reduceSub, Nat.sub_self, if_true, if_false, decide_eq_true_eq, Bool.false_eq_true, Bool.not_true, Bool.not_false, id_eq, ite_true, ite_false]
          have : r = true := hr.mpr rfl
          rw [← this]; exact h
        | false =>
          have l0 : l ≠ [] := by simpa using hb
          obtain ⟨m, c, rfl⟩ : ∃ m c, l = m ++ [c] := ⟨l.dropLast, l.getLast l0, (List.dropLast_concat_getLast l0).symm⟩
          simp only [List.map_append, List.map_cons, List.map_nil, dSeq, dNext, dIf, dRet, dRetN, dDrop, dAsg, gN, gN0, gNc, gTp, gSubL, dPar, dPar3, dAug, dVar, dC, dOp, dUn, dTest, dAnd, dOr, dNot, dAndV, dOrV, dNotV, dIfE, dNil, dCons, dTup, dLst, dCB, dCall, dstart, dget, dset, dwp, dclr, asB, pI0, pI, pU, pAdd, pMul, pEqB, pIsB, pIx, pCI, pC2, pInt, pIsi, pLen, optQ, stL, lstAt, lsOf, atI0, atI1, atI2, atI3, ixN0, ixN1, ixN2, ixN3, mupd_same, mupd_mupd, dFor, iRng, List.map_cons, List.map_nil, List.length_cons, List.length_nil, List.replicate, List.cons_append, List.nil_append, List.append_nil, List.set_cons_zero, List.set_cons_succ, Nat.reduceAdd, Nat.reduceSub, Nat.sub_self, if_true, if_false, decide_eq_true_eq, Bool.false_eq_true, Bool.not_true, Bool.not_false, id_eq, ite_true, ite_false, Int.reduceNeg, atI_m1, fq]
          have er : r = !decide (c.num = 0) := by
            by_cases hc : c = 0
            · have : decide (c.num = 0) = true := decide_eq_true ((num0 c).mpr hc)
              rw [this]
              cases r with
              | false => rfl
              | true =>
                have := hr.mp rfl
                rw [hc, cut_zero] at this
                have l1 := cut_len m
                rw [this] at l1
                simp at l1
                omega
            · have : decide (c.num = 0) = false := decide_eq_false fun e => hc ((num0 c).mp e)
              rw [this]
              exact hr.mpr (cut_last hc m)
          rw [← er]; exact h
      have z := all_frac (M := M) (b := none) (K := fun d M1 => asB d M1 fun c M1 => if (!c) = true then Q (.bl false) M1 else R { nx := fun _ M' => Q .non M', rt := Q } [some (.tup (l.map fq)), none] M1) (a := none) (es := l.map fq) (by simpa using hl) (fun e he => by
        obtain ⟨x, _, rfl⟩ := List.mem_map.mp he
        exact fracOk_fq M x) (fun p np => ⟨Sub.new np, by simp only [e, dSeq, dNext, dIf, dRet, dRetN, dDrop, dAsg, gN, gN0, gNc, gTp, gSubL, dPar, dPar3, dAug, dVar, dC, dOp, dUn, dTest, dAnd, dOr, dNot, dAndV, dOrV, dNotV, dIfE, dNil, dCons, dTup, dLst, dCB, dCall, dstart, dget, dset, dwp, dclr, asB, pI0, pI, pU, pAdd, pMul, pEqB, pIsB, pIx, pCI, pC2, pInt, pIsi, pLen, optQ, stL, lstAt, lsOf, atI0, atI1, atI2, atI3, ixN0, ixN1, ixN2, ixN3, mupd_same, mupd_mupd, dFor, iRng, List.map_cons, List.map_nil, List.length_cons, List.length_nil, List.replicate, List.cons_append, List.nil_append, List.append_nil, List.set_cons_zero, List.set_cons_succ, Nat.reduceAdd, Nat.reduceSub, Nat.sub_self, if_true, if_false, decide_eq_true_eq, Bool.false_eq_true, Bool.not_true, Bool.not_false, id_eq, ite_true, ite_false]; exact fin⟩)
      simp only [dstart, dIf, dOr, dNot, dTest, dCB, dCons, dNil, dVar, dC, pIsi, pq, isi_tup k_tuple, it4, optQ, asB, dget, dRet, dNext, List.map_cons, List.map_nil, List.length_cons, List.length_nil, Nat.reduceAdd, Nat.reduceSub, List.replicate, List.cons_append, List.nil_append, Bool.not_true, Bool.false_eq_true, if_false] at z ⊢
      exact z
  · exact h.elim
/-! ### the pair is right -/
def sp_right : DSp := fun ds M Q => ∃ (x0 : D) (a b : List Rat) (x t : Rat), ds = [x0, pq a, pq b, fq x, fq t] ∧ OZ a ∧ LZ b ∧ XZ x ∧ XZ t ∧ Q (.bl true) M
theorem sp_right_mono : MonoSp sp_right := ⟨fun h ⟨x0, a, b, x, t, e, y, z, w, v, q⟩ => ⟨x0, a, b, x, t, e, y, z, w, v, h _ _ q⟩⟩
theorem PZ.allSz {l : List Rat} (h : PZ l) : allSz l := h.sz
theorem xz_one : XZ 1 := XF.one (by decide)
theorem xz_zero : XZ 0 := XF.zero (by decide)
theorem slL_pz {a : List Rat} (h : OZ a) : PZ (slL a) := by
  obtain ⟨⟨N, B, n0, n1, b1, hp⟩, hl⟩ := h
  refine ⟨⟨N * 1, B * 2 ^ 6, by omega, ?_, ?_, fun c hc => ?_⟩, by unfold slL; simp; omega⟩
  · rw [Nat.mul_one]; exact Nat.le_trans n1 (Nat.pow_le_pow_right (by decide) (by decide))
  · exact Nat.le_trans (mul_pow2 b1 (Nat.le_refl (2 ^ 6))) (Nat.pow_le_pow_right (by decide) (by decide))
  · unfold slL at hc
    obtain ⟨i, hi, rfl⟩ := List.mem_map.mp hc
    have := List.mem_range.mp hi
    exact ((co_hd n0 hp (i + 1)).mul ((HD.int ((i : Int) + 1)).mono (show _ ≤ 2 ^ 6 by omega)))
theorem sg_first (f : Nat → Rat) : ∀ n : Nat, sg f (n + 1) = f 0 + sg (fun i => f (i + 1)) n
  | 0 => by simp [sg]; grind
  | n + 1 => by rw [sg, sg_first f n, sg]; grind
theorem one_powQ : ∀ n : Nat, (1 : Rat) ^ n = 1
  | 0 => Rat.pow_zero _
  | n + 1 => by rw [Rat.pow_succ, one_powQ n, Rat.mul_one]
theorem sum_slope (a : List Rat) : smP (cut (slL a)) (cut (slL a)).length = ev a 1 - ev a 0 := by
  unfold smP
  have e1 : sg (fun i => co (cut (slL a)) i / (((i : Int) + 1 : Int) : Rat)) (cut (slL a)).length = sg (fun i => co (slL a) i / (((i : Int) + 1 : Int) : Rat)) (slL a).length := by
    rw [sg_congr (g := fun i => co (slL a) i / (((i : Int) + 1 : Int) : Rat)) fun i _ => by rw [co_cut]]
    symm
    apply sg_le (cut_len _)
    intro i h1 h2
    rw [← co_cut, co_ge h1, Rat.div_def, Rat.zero_mul]
  rw [e1]
  have ls : (slL a).length = a.length - 1 := by unfold slL; simp
  rw [ls]
  have e2 : sg (fun i => co (slL a) i / (((i : Int) + 1 : Int) : Rat)) (a.length - 1) = sg (fun i => co a (i + 1)) (a.length - 1) := by
    apply sg_congr
    intro i hi
    have n := rat_ne (show ((i : Int) + 1) ≠ 0 by omega)
    unfold slL
    rw [co_map _ hi]
    grind
  rw [e2]
  cases a with
  | nil => simp [ev, sg]; grind
  | cons c l =>
    have e3 : ev (c :: l) 1 = sg (fun i => co (c :: l) i) (l.length + 1) := by
      rw [ev_co]
      apply sg_congr
      intro i _
      rw [one_powQ, Rat.one_mul]
    rw [e3, sg_first]
    have e4 : ev (c :: l) 0 = c := by rw [ev, Rat.zero_mul]; grind
    rw [e4, show (c :: l).length - 1 = l.length by simp]
    show _ = co (c :: l) 0 + _ - c
    rw [show co (c :: l) 0 = c from rfl]
    grind
theorem body_right (hc : Clo Q) (h : sp_right ds M Q) : b__law_pair_right (sp_like 4) sp_sum_of sp_product sp_scaled sp_product sp_added sp_cut sq_times sp_at sp_at sp_slope sq_plus sq_over sp_sum sq_minus { nx := fun _ M' => Q .non M', rt := Q } (dstart ["heap", "one", "other", "place", "by", "slope", "at", "due"] ds) M := by
  obtain ⟨x0, a, b, x, t, rfl, ha, hb, hx, ht, h⟩ := h
  have big := sl1000
  have la := ha.len
  have lb := hb.len
  have pa := ha.p
  have pb := hb.o.p
  have f1 : (D.tup [.int 1, .int 1]) = fq 1 := rfl
  have f0 : (D.tup [.int 0, .int 1]) = fq 0 := rfl
  have fn : (D.tup []) = pq [] := rfl
  have lc : ∀ l : List Rat, (cut l).length ≤ l.length := cut_len
  have lm : (mulL a b).length ≤ 100 := by have := (mulL_pz ha hb).len; omega
  have ladd : (addL a b).length ≤ 100 := by unfold addL; simp; omega
  have lsl : (slL a).length ≤ 100 := by unfold slL; simp; omega
  unfold b__law_pair_right
  refine seq_cut fun R hR => ?_
  simp only [dSeq, dNext, dIf, dRet, dRetN, dDrop, dAsg, gN, gN0, gNc, gTp, gSubL, dPar, dPar3, dAug, dVar, dC, dOp, dUn, dTest, dAnd, dOr, dNot, dAndV, dOrV, dNotV, dIfE, dNil, dCons, dTup, dLst, dCB, dCall, dstart, dget, dset, dwp, dclr, asB, pI0, pI, pU, pAdd, pMul, pEqB, pIsB, pIx, pCI, pC2, pInt, pIsi, pLen, optQ, stL, lstAt, lsOf, atI0, atI1, atI2, atI3, ixN0, ixN1, ixN2, ixN3, mupd_same, mupd_mupd, dFor, iRng, List.map_cons, List.map_nil, List.length_cons, List.length_nil, List.replicate, List.cons_append, List.nil_append, List.append_nil, List.set_cons_zero, List.set_cons_succ, Nat.reduceAdd, Nat.reduceSub, Nat.sub_self, if_true, if_false, decide_eq_true_eq, Bool.false_eq_true, Bool.not_true, Bool.not_false, id_eq, ite_true, ite_false]
  refine ⟨a, b, rfl, pa.sz, pb.sz, by omega, by omega, a, b, rfl, ha, hb, a, t, rfl, pa.sz, ht.sz, by omega, by decide, by decide, ?_⟩
  simp only [f1]
  refine ⟨a, b, 1, rfl, pa.sz, pb.sz, sz_one, fun c hcc => by rw [Rat.mul_one]; exact pb.sz c hcc, by omega, by omega, a, b, rfl, ha, hb, by decide, ?_⟩
  simp only [fn]
  refine ⟨[], a, t, rfl, (fun c hcc => by cases hcc), pa.sz, ht.sz, fun c hcc => ?_, by simp, by omega, by decide, ?_⟩
  · have := item_sz pa ht hcc (k := 1) (by decide)
    rwa [Rat.pow_succ, Rat.pow_zero, Rat.one_mul] at this
  rw [smO_one, smO_nil]
  refine like_of rfl (lk_tup (by simp) fun d hd => ?_) ?_
  · simp only [List.mem_cons, List.not_mem_nil, or_false] at hd
    rcases hd with rfl | rfl | rfl
    · exact lk_pq (by have := lc (addL a b); omega)
    · exact lk_pq (by have := lc (mulL a b); omega)
    · exact lk_pq (by have := lc (a.map (· * t)); simp at this; omega)
  simp only [dSeq, dNext, dIf, dRet, dRetN, dDrop, dAsg, gN, gN0, gNc, gTp, gSubL, dPar, dPar3, dAug, dVar, dC, dOp, dUn, dTest, dAnd, dOr, dNot, dAndV, dOrV, dNotV, dIfE, dNil, dCons, dTup, dLst, dCB, dCall, dstart, dget, dset, dwp, dclr, asB, pI0, pI, pU, pAdd, pMul, pEqB, pIsB, pIx, pCI, pC2, pInt, pIsi, pLen, optQ, stL, lstAt, lsOf, atI0, atI1, atI2, atI3, ixN0, ixN1, ixN2, ixN3, mupd_same, mupd_mupd, dFor, iRng, List.map_cons, List.map_nil, List.length_cons, List.length_nil, List.replicate, List.cons_append, List.nil_append, List.append_nil, List.set_cons_zero, List.set_cons_succ, Nat.reduceAdd, Nat.reduceSub, Nat.sub_self, if_true, if_false, decide_eq_true_eq, Bool.false_eq_true, Bool.not_true, Bool.not_false, id_eq, ite_true, ite_false]
  subst hR
  refine seq_cut fun R hR => ?_
  simp only [dSeq, dNext, dIf, dRet, dRetN, dDrop, dAsg, gN, gN0, gNc, gTp, gSubL, dPar, dPar3, dAug, dVar, dC, dOp, dUn, dTest, dAnd, dOr, dNot, dAndV, dOrV, dNotV, dIfE, dNil, dCons, dTup, dLst, dCB, dCall, dstart, dget, dset, dwp, dclr, asB, pI0, pI, pU, pAdd, pMul, pEqB, pIsB, pIx, pCI, pC2, pInt, pIsi, pLen, optQ, stL, lstAt, lsOf, atI0, atI1, atI2, atI3, ixN0, ixN1, ixN2, ixN3, mupd_same, mupd_mupd, dFor, iRng, List.map_cons, List.map_nil, List.length_cons, List.length_nil, List.replicate, List.cons_append, List.nil_append, List.append_nil, List.set_cons_zero, List.set_cons_succ, Nat.reduceAdd, Nat.reduceSub, Nat.sub_self, if_true, if_false, decide_eq_true_eq, Bool.false_eq_true, Bool.not_true, Bool.not_false, id_eq, ite_true, ite_false, pq, dLc, List.length_map]
  refine ⟨⟨⟨by decide, by decide⟩, by omega, by omega⟩, fun p np => ?_⟩
  refine slope_lc pa.sz (by omega) (fun i xs K hi k => ?_) ?_
  · simp only [dSeq, dNext, dIf, dRet, dRetN, dDrop, dAsg, gN, gN0, gNc, gTp, gSubL, dPar, dPar3, dAug, dVar, dC, dOp, dUn, dTest, dAnd, dOr, dNot, dAndV, dOrV, dNotV, dIfE, dNil, dCons, dTup, dLst, dCB, dCall, dstart, dget, dset, dwp, dclr, asB, pI0, pI, pU, pAdd, pMul, pEqB, pIsB, pIx, pCI, pC2, pInt, pIsi, pLen, optQ, stL, lstAt, lsOf, atI0, atI1, atI2, atI3, ixN0, ixN1, ixN2, ixN3, mupd_same, mupd_mupd, dFor, iRng, List.map_cons, List.map_nil, List.length_cons, List.length_nil, List.replicate, List.cons_append, List.nil_append, List.append_nil, List.set_cons_zero, List.set_cons_succ, Nat.reduceAdd, Nat.reduceSub, Nat.sub_self, if_true, if_false, decide_eq_true_eq, Bool.false_eq_true, Bool.not_true, Bool.not_false, id_eq, ite_true, ite_false]
    rw [show (i : Int) + 1 = ((i + 1 : Nat) : Int) from rfl, atI_fq hi]
    exact ⟨by decide, slope_te pa.sz (by omega) hi k⟩
  have hs : Sub M (mupd M p (.lst ((slL a).map fq))) := Sub.new np
  have at1 : mupd M p (.lst ((slL a).map fq)) p = some (.lst ((slL a).map fq)) := mupd_same
  generalize mupd M p (.lst ((slL a).map fq)) = M1 at hs at1
  refine ⟨slL a, by unfold seqAt; simp only [at1], by omega, ?_⟩
  have hsl := (slL_pz ha).sub (cut_sub (slL a)) (cut_len (slL a))
  subst hR
  refine seq_cut fun R hR => ?_
  simp only [dSeq, dNext, dIf, dRet, dRetN, dDrop, dAsg, gN, gN0, gNc, gTp, gSubL, dPar, dPar3, dAug, dVar, dC, dOp, dUn, dTest, dAnd, dOr, dNot, dAndV, dOrV, dNotV, dIfE, dNil, dCons, dTup, dLst, dCB, dCall, dstart, dget, dset, dwp, dclr, asB, pI0, pI, pU, pAdd, pMul, pEqB, pIsB, pIx, pCI, pC2, pInt, pIsi, pLen, optQ, stL, lstAt, lsOf, atI0, atI1, atI2, atI3, ixN0, ixN1, ixN2, ixN3, mupd_same, mupd_mupd, dFor, iRng, List.map_cons, List.map_nil, List.length_cons, List.length_nil, List.replicate, List.cons_append, List.nil_append, List.append_nil, List.set_cons_zero, List.set_cons_succ, Nat.reduceAdd, Nat.reduceSub, Nat.sub_self, if_true, if_false, decide_eq_true_eq, Bool.false_eq_true, Bool.not_true, Bool.not_false, id_eq, ite_true, ite_false]
  refine ⟨a, rfl, pa.sz, by omega, a, x, rfl, pa, hx, by decide, a, x, rfl, pa, hx, by decide, ?_⟩
  refine like_of rfl (lk_tup (by simp) fun d hd => ?_) ?_
  · simp only [List.mem_cons, List.not_mem_nil, or_false] at hd
    rcases hd with rfl | rfl
    · exact lk_pq (by have := lc (slL a); omega)
    · exact lk_fq _
  simp only [dSeq, dNext, dIf, dRet, dRetN, dDrop, dAsg, gN, gN0, gNc, gTp, gSubL, dPar, dPar3, dAug, dVar, dC, dOp, dUn, dTest, dAnd, dOr, dNot, dAndV, dOrV, dNotV, dIfE, dNil, dCons, dTup, dLst, dCB, dCall, dstart, dget, dset, dwp, dclr, asB, pI0, pI, pU, pAdd, pMul, pEqB, pIsB, pIx, pCI, pC2, pInt, pIsi, pLen, optQ, stL, lstAt, lsOf, atI0, atI1, atI2, atI3, ixN0, ixN1, ixN2, ixN3, mupd_same, mupd_mupd, dFor, iRng, List.map_cons, List.map_nil, List.length_cons, List.length_nil, List.replicate, List.cons_append, List.nil_append, List.append_nil, List.set_cons_zero, List.set_cons_succ, Nat.reduceAdd, Nat.reduceSub, Nat.sub_self, if_true, if_false, decide_eq_true_eq, Bool.false_eq_true, Bool.not_true, Bool.not_false, id_eq, ite_true, ite_false]
  subst hR
  refine seq_cut fun R hR => ?_
  simp only [dSeq, dNext, dIf, dRet, dRetN, dDrop, dAsg, gN, gN0, gNc, gTp, gSubL, dPar, dPar3, dAug, dVar, dC, dOp, dUn, dTest, dAnd, dOr, dNot, dAndV, dOrV, dNotV, dIfE, dNil, dCons, dTup, dLst, dCB, dCall, dstart, dget, dset, dwp, dclr, asB, pI0, pI, pU, pAdd, pMul, pEqB, pIsB, pIx, pCI, pC2, pInt, pIsi, pLen, optQ, stL, lstAt, lsOf, atI0, atI1, atI2, atI3, ixN0, ixN1, ixN2, ixN3, mupd_same, mupd_mupd, dFor, iRng, List.map_cons, List.map_nil, List.length_cons, List.length_nil, List.replicate, List.cons_append, List.nil_append, List.append_nil, List.set_cons_zero, List.set_cons_succ, Nat.reduceAdd, Nat.reduceSub, Nat.sub_self, if_true, if_false, decide_eq_true_eq, Bool.false_eq_true, Bool.not_true, Bool.not_false, id_eq, ite_true, ite_false]
  refine ⟨by decide, ?_⟩
  subst hR
  refine seq_cut fun R hR => ?_
  simp only [dSeq, dNext, dIf, dRet, dRetN, dDrop, dAsg, gN, gN0, gNc, gTp, gSubL, dPar, dPar3, dAug, dVar, dC, dOp, dUn, dTest, dAnd, dOr, dNot, dAndV, dOrV, dNotV, dIfE, dNil, dCons, dTup, dLst, dCB, dCall, dstart, dget, dset, dwp, dclr, asB, pI0, pI, pU, pAdd, pMul, pEqB, pIsB, pIx, pCI, pC2, pInt, pIsi, pLen, optQ, stL, lstAt, lsOf, atI0, atI1, atI2, atI3, ixN0, ixN1, ixN2, ixN3, mupd_same, mupd_mupd, dFor, iRng, List.map_cons, List.map_nil, List.length_cons, List.length_nil, List.replicate, List.cons_append, List.nil_append, List.append_nil, List.set_cons_zero, List.set_cons_succ, Nat.reduceAdd, Nat.reduceSub, Nat.sub_self, if_true, if_false, decide_eq_true_eq, Bool.false_eq_true, Bool.not_true, Bool.not_false, id_eq, ite_true, ite_false, List.length_map]
  refine ⟨⟨by omega, by omega⟩, ?_⟩
  refine loop_rng (I := fun i τ M' => M' = M1 ∧ 0 ≤ i ∧ ∃ u, τ = [some x0, some (.tup (a.map fq)), some (.tup (b.map fq)), some (fq x), some (fq t), some (pq (cut (slL a))), u, some (fq (smP a i.toNat))]) ?_ ?_ a.length 0 _ _ (by omega) ⟨rfl, by omega, _, rfl⟩
  · rintro i τ M' X hi ⟨rfl, i0, u, rfl⟩ hX
    obtain ⟨j, rfl⟩ : ∃ j : Nat, i = j := ⟨i.toNat, by omega⟩
    have hm : co a j ∈ a := List.mem_of_getElem? (co_lt (by omega))
    simp only [dSeq, dNext, dIf, dRet, dRetN, dDrop, dAsg, gN, gN0, gNc, gTp, gSubL, dPar, dPar3, dAug, dVar, dC, dOp, dUn, dTest, dAnd, dOr, dNot, dAndV, dOrV, dNotV, dIfE, dNil, dCons, dTup, dLst, dCB, dCall, dstart, dget, dset, dwp, dclr, asB, pI0, pI, pU, pAdd, pMul, pEqB, pIsB, pIx, pCI, pC2, pInt, pIsi, pLen, optQ, stL, lstAt, lsOf, atI0, atI1, atI2, atI3, ixN0, ixN1, ixN2, ixN3, mupd_same, mupd_mupd, dFor, iRng, List.map_cons, List.map_nil, List.length_cons, List.length_nil, List.replicate, List.cons_append, List.nil_append, List.append_nil, List.set_cons_zero, List.set_cons_succ, Nat.reduceAdd, Nat.reduceSub, Nat.sub_self, if_true, if_false, decide_eq_true_eq, Bool.false_eq_true, Bool.not_true, Bool.not_false, id_eq, ite_true, ite_false, atI_fq (show j < a.length by omega), Int.toNat_natCast]
    refine ⟨by decide, co a j, (((j : Int) + 1 : Int) : Rat), rfl, pa.sz _ hm, sz_int (by omega), rat_ne (by omega), _, _, rfl, smP_sz pa (by omega), div_sz pa hm (by omega), trivial, hX _ _ ⟨rfl, by omega, some (.int (j : Int)), ?_⟩⟩
    rw [show ((j : Int) + 1).toNat = j + 1 by omega]
    rfl
  · rintro τ M' ⟨rfl, i0, u, rfl⟩
    dsimp only
    subst hR
    refine seq_cut fun R hR => ?_
    simp only [dSeq, dNext, dIf, dRet, dRetN, dDrop, dAsg, gN, gN0, gNc, gTp, gSubL, dPar, dPar3, dAug, dVar, dC, dOp, dUn, dTest, dAnd, dOr, dNot, dAndV, dOrV, dNotV, dIfE, dNil, dCons, dTup, dLst, dCB, dCall, dstart, dget, dset, dwp, dclr, asB, pI0, pI, pU, pAdd, pMul, pEqB, pIsB, pIx, pCI, pC2, pInt, pIsi, pLen, optQ, stL, lstAt, lsOf, atI0, atI1, atI2, atI3, ixN0, ixN1, ixN2, ixN3, mupd_same, mupd_mupd, dFor, iRng, List.map_cons, List.map_nil, List.length_cons, List.length_nil, List.replicate, List.cons_append, List.nil_append, List.append_nil, List.set_cons_zero, List.set_cons_succ, Nat.reduceAdd, Nat.reduceSub, Nat.sub_self, if_true, if_false, decide_eq_true_eq, Bool.false_eq_true, Bool.not_true, Bool.not_false, id_eq, ite_true, ite_false, Int.toNat_natCast]
    refine ⟨a, rfl, pa, like_of rfl (lk_fq _) ?_⟩
    simp only [dSeq, dNext, dIf, dRet, dRetN, dDrop, dAsg, gN, gN0, gNc, gTp, gSubL, dPar, dPar3, dAug, dVar, dC, dOp, dUn, dTest, dAnd, dOr, dNot, dAndV, dOrV, dNotV, dIfE, dNil, dCons, dTup, dLst, dCB, dCall, dstart, dget, dset, dwp, dclr, asB, pI0, pI, pU, pAdd, pMul, pEqB, pIsB, pIx, pCI, pC2, pInt, pIsi, pLen, optQ, stL, lstAt, lsOf, atI0, atI1, atI2, atI3, ixN0, ixN1, ixN2, ixN3, mupd_same, mupd_mupd, dFor, iRng, List.map_cons, List.map_nil, List.length_cons, List.length_nil, List.replicate, List.cons_append, List.nil_append, List.append_nil, List.set_cons_zero, List.set_cons_succ, Nat.reduceAdd, Nat.reduceSub, Nat.sub_self, if_true, if_false, decide_eq_true_eq, Bool.false_eq_true, Bool.not_true, Bool.not_false, id_eq, ite_true, ite_false]
    refine ⟨_, rfl, hsl, ?_⟩
    simp only [f1, f0]
    refine ⟨by decide, a, 1, rfl, pa, xz_one, by decide, a, 0, rfl, pa, xz_zero, _, _, rfl, (ev_sz pa xz_one).1, (ev_sz pa xz_zero).1, trivial, ?_⟩
    refine like_of (by rw [sum_slope]) (lk_fq _) ?_
    simp only [dSeq, dNext, dIf, dRet, dRetN, dDrop, dAsg, gN, gN0, gNc, gTp, gSubL, dPar, dPar3, dAug, dVar, dC, dOp, dUn, dTest, dAnd, dOr, dNot, dAndV, dOrV, dNotV, dIfE, dNil, dCons, dTup, dLst, dCB, dCall, dstart, dget, dset, dwp, dclr, asB, pI0, pI, pU, pAdd, pMul, pEqB, pIsB, pIx, pCI, pC2, pInt, pIsi, pLen, optQ, stL, lstAt, lsOf, atI0, atI1, atI2, atI3, ixN0, ixN1, ixN2, ixN3, mupd_same, mupd_mupd, dFor, iRng, List.map_cons, List.map_nil, List.length_cons, List.length_nil, List.replicate, List.cons_append, List.nil_append, List.append_nil, List.set_cons_zero, List.set_cons_succ, Nat.reduceAdd, Nat.reduceSub, Nat.sub_self, if_true, if_false, decide_eq_true_eq, Bool.false_eq_true, Bool.not_true, Bool.not_false, id_eq, ite_true, ite_false]
    subst hR
    simp only [dSeq, dNext, dIf, dRet, dRetN, dDrop, dAsg, gN, gN0, gNc, gTp, gSubL, dPar, dPar3, dAug, dVar, dC, dOp, dUn, dTest, dAnd, dOr, dNot, dAndV, dOrV, dNotV, dIfE, dNil, dCons, dTup, dLst, dCB, dCall, dstart, dget, dset, dwp, dclr, asB, pI0, pI, pU, pAdd, pMul, pEqB, pIsB, pIx, pCI, pC2, pInt, pIsi, pLen, optQ, stL, lstAt, lsOf, atI0, atI1, atI2, atI3, ixN0, ixN1, ixN2, ixN3, mupd_same, mupd_mupd, dFor, iRng, List.map_cons, List.map_nil, List.length_cons, List.length_nil, List.replicate, List.cons_append, List.nil_append, List.append_nil, List.set_cons_zero, List.set_cons_succ, Nat.reduceAdd, Nat.reduceSub, Nat.sub_self, if_true, if_false, decide_eq_true_eq, Bool.false_eq_true, Bool.not_true, Bool.not_false, id_eq, ite_true, ite_false]
    have pm := (mulL_pz ha hb).sub (cut_sub _) (cut_len _)
    refine ⟨a, b, rfl, ha, hb, _, x, rfl, pm, hx, a, x, rfl, pa, hx, b, x, rfl, pb, hx, _, _, rfl, (ev_sz pa hx).1, (ev_sz pb hx).1, trivial, ?_⟩
    refine like_of (by rw [ev_cut, ev_mul]) (lk_fq _) (hc _ _ _ hs h)
end
end K15

namespace K15
open PySem PySem.Spec PyProof.Rows L2 DL QF
section
variable {ds : List D} {M : Mem} {Q : DQ}
def sp_judged : DSp := fun ds M Q => ∃ (x0 : D) (a : List Rat), ds = [x0, pq a] ∧ cut a = a ∧ a.length ≤ 100 ∧ Q (.bl true) M
theorem sp_judged_mono : MonoSp sp_judged := ⟨fun h ⟨x0, a, e, x, y, q⟩ => ⟨x0, a, e, x, y, h _ _ q⟩⟩
def odd1 (a : List Rat) (l1 : Addr) : List D := [.non, .ref l1, .str "x", .tup (a.map fq ++ [.tup [.int 2, .int 4]]), .tup (a.map fq ++ [.int 1]), .tup (a.map fq ++ [.tup [.int 1, .int 0]]), .tup (a.map fq ++ [.tup [.bl true, .int 1]])]
def odd2 (a : List Rat) (l2 : Addr) : List D := [.tup (a.map fq ++ [.tup [.int 1, .int 1, .int 1]]), .tup (a.map fq ++ [.ref l2]), .tup (a.map fq ++ [.tup [.int 1, .int (0 - 1)]]), .tup (a.map fq ++ [.non]), .int 0, .tup (.tup [.int 0, .int 2] :: (a.map fq ++ [.tup [.int 1, .int 1]]))]
theorem pbad {M : Mem} {a : List Rat} {e : D} (la : a.length ≤ 100) (ok : fracOk M e) (b : isFrac e = false) : PAns M (.tup (a.map fq ++ [e])) false := by
  refine .bad (by simp; omega) (fun x hx => ?_) ⟨e, by simp, b⟩
  rcases List.mem_append.mp hx with hx | hx
  · obtain ⟨r, _, rfl⟩ := List.mem_map.mp hx
    exact fracOk_fq M r
  · rw [List.mem_singleton.mp hx]; exact ok
theorem body_judged (hc : Clo Q) (h : sp_judged ds M Q) : b__law_judged (sp_like 4) sp_is_poly { nx := fun _ M' => Q .non M', rt := Q } (dstart ["heap", "one", "odd", "value"] ds) M := by
  obtain ⟨x0, a, rfl, ha, la, h⟩ := h
  have big := sl1000
  unfold b__law_judged
  refine seq_cut fun R hR => ?_
  have e1 : D.tup (a.map fq ++ [D.tup [.int 0, .int 1]]) = pq (a ++ [0]) := by unfold pq; rw [List.map_append]; rfl
  simp only [dSeq, dNext, dIf, dRet, dRetN, dDrop, dAsg, gN, gN0, gNc, gTp, gSubL, dPar, dPar3, dAug, dVar, dC, dOp, dUn, dTest, dAnd, dOr, dNot, dAndV, dOrV, dNotV, dIfE, dNil, dCons, dTup, dLst, dCB, dCall, dstart, dget, dset, dwp, dclr, asB, pI0, pI, pU, pAdd, pMul, pEqB, pIsB, pIx, pCI, pC2, pInt, pIsi, pLen, optQ, stL, lstAt, lsOf, atI0, atI1, atI2, atI3, ixN0, ixN1, ixN2, ixN3, mupd_same, mupd_mupd, dFor, iRng, List.map_cons, List.map_nil, List.length_cons, List.length_nil, List.replicate, List.cons_append, List.nil_append, List.append_nil, List.set_cons_zero, List.set_cons_succ, Nat.reduceAdd, Nat.reduceSub, Nat.sub_self, if_true, if_false, decide_eq_true_eq, Bool.false_eq_true, Bool.not_true, Bool.not_false, id_eq, ite_true, ite_false, pq, sp_is_poly]
  refine ⟨true, .good a (by omega) true (by simp [ha]), by decide, true, .good [] (by simp) true (by simp [cut]), by decide, by decide, by simp; omega, false, ?_, by decide, by decide, ?_⟩
  · rw [e1]
    refine .good (a ++ [0]) (by simp; omega) false ?_
    rw [cut_zero]
    constructor
    · intro z; cases z
    · intro z
      have := cut_len a
      rw [z] at this
      simp at this
      omega
  refine like_of rfl (lk_tup (by simp) fun d hd => ?_) ?_
  · simp only [List.mem_cons, List.not_mem_nil, or_false] at hd
    rcases hd with rfl | rfl | rfl <;> exact lk_bl
  simp only [dSeq, dNext, dIf, dRet, dRetN, dDrop, dAsg, gN, gN0, gNc, gTp, gSubL, dPar, dPar3, dAug, dVar, dC, dOp, dUn, dTest, dAnd, dOr, dNot, dAndV, dOrV, dNotV, dIfE, dNil, dCons, dTup, dLst, dCB, dCall, dstart, dget, dset, dwp, dclr, asB, pI0, pI, pU, pAdd, pMul, pEqB, pIsB, pIx, pCI, pC2, pInt, pIsi, pLen, optQ, stL, lstAt, lsOf, atI0, atI1, atI2, atI3, ixN0, ixN1, ixN2, ixN3, mupd_same, mupd_mupd, dFor, iRng, List.map_cons, List.map_nil, List.length_cons, List.length_nil, List.replicate, List.cons_append, List.nil_append, List.append_nil, List.set_cons_zero, List.set_cons_succ, Nat.reduceAdd, Nat.reduceSub, Nat.sub_self, if_true, if_false, decide_eq_true_eq, Bool.false_eq_true, Bool.not_true, Bool.not_false, id_eq, ite_true, ite_false]
  subst hR
  refine seq_cut fun R hR => ?_
  simp only [dSeq, dNext, dIf, dRet, dRetN, dDrop, dAsg, gN, gN0, gNc, gTp, gSubL, dPar, dPar3, dAug, dVar, dC, dOp, dUn, dTest, dAnd, dOr, dNot, dAndV, dOrV, dNotV, dIfE, dNil, dCons, dTup, dLst, dCB, dCall, dstart, dget, dset, dwp, dclr, asB, pI0, pI, pU, pAdd, pMul, pEqB, pIsB, pIx, pCI, pC2, pInt, pIsi, pLen, optQ, stL, lstAt, lsOf, atI0, atI1, atI2, atI3, ixN0, ixN1, ixN2, ixN3, mupd_same, mupd_mupd, dFor, iRng, List.map_cons, List.map_nil, List.length_cons, List.length_nil, List.replicate, List.cons_append, List.nil_append, List.append_nil, List.set_cons_zero, List.set_cons_succ, Nat.reduceAdd, Nat.reduceSub, Nat.sub_self, if_true, if_false, decide_eq_true_eq, Bool.false_eq_true, Bool.not_true, Bool.not_false, id_eq, ite_true, ite_false, pList]
  intro l1 n1
  refine ⟨by decide, by decide, by simp; omega, by decide, by simp; omega, by decide, by decide, by simp; omega, by decide, by decide, by simp; omega, by decide, fun p1 np1 => ?_⟩
  have el1 : mupd (mupd M l1 (.lst (a.map fq))) p1 (.lst [.non, .ref l1, .str "x", .tup (a.map fq ++ [.tup [.int 2, .int 4]]), .tup (a.map fq ++ [.int 1]), .tup (a.map fq ++ [.tup [.int 1, .int 0]]), .tup (a.map fq ++ [.tup [.bl true, .int 1]])]) l1 = some (.lst (a.map fq)) := by
    rw [mupd_ne (DL.none_of np1).2.symm, mupd_same]
  have ep1 : mupd (mupd M l1 (.lst (a.map fq))) p1 (.lst [.non, .ref l1, .str "x", .tup (a.map fq ++ [.tup [.int 2, .int 4]]), .tup (a.map fq ++ [.int 1]), .tup (a.map fq ++ [.tup [.int 1, .int 0]]), .tup (a.map fq ++ [.tup [.bl true, .int 1]])]) p1 = some (.lst [.non, .ref l1, .str "x", .tup (a.map fq ++ [.tup [.int 2, .int 4]]), .tup (a.map fq ++ [.int 1]), .tup (a.map fq ++ [.tup [.int 1, .int 0]]), .tup (a.map fq ++ [.tup [.bl true, .int 1]])]) := mupd_same
  have s1 : Sub M (mupd (mupd M l1 (.lst (a.map fq))) p1 (.lst [.non, .ref l1, .str "x", .tup (a.map fq ++ [.tup [.int 2, .int 4]]), .tup (a.map fq ++ [.int 1]), .tup (a.map fq ++ [.tup [.int 1, .int 0]]), .tup (a.map fq ++ [.tup [.bl true, .int 1]])])) := (Sub.new n1).trans (Sub.new np1)
  generalize mupd (mupd M l1 (.lst (a.map fq))) p1 (.lst [.non, .ref l1, .str "x", .tup (a.map fq ++ [.tup [.int 2, .int 4]]), .tup (a.map fq ++ [.int 1]), .tup (a.map fq ++ [.tup [.int 1, .int 0]]), .tup (a.map fq ++ [.tup [.bl true, .int 1]])]) = M1 at el1 ep1 s1
  subst hR
  refine seq_cut fun R hR => ?_
  simp only [dSeq, dNext, dIf, dRet, dRetN, dDrop, dAsg, gN, gN0, gNc, gTp, gSubL, dPar, dPar3, dAug, dVar, dC, dOp, dUn, dTest, dAnd, dOr, dNot, dAndV, dOrV, dNotV, dIfE, dNil, dCons, dTup, dLst, dCB, dCall, dstart, dget, dset, dwp, dclr, asB, pI0, pI, pU, pAdd, pMul, pEqB, pIsB, pIx, pCI, pC2, pInt, pIsi, pLen, optQ, stL, lstAt, lsOf, atI0, atI1, atI2, atI3, ixN0, ixN1, ixN2, ixN3, mupd_same, mupd_mupd, dFor, iRng, List.map_cons, List.map_nil, List.length_cons, List.length_nil, List.replicate, List.cons_append, List.nil_append, List.append_nil, List.set_cons_zero, List.set_cons_succ, Nat.reduceAdd, Nat.reduceSub, Nat.sub_self, if_true, if_false, decide_eq_true_eq, Bool.false_eq_true, Bool.not_true, Bool.not_false, id_eq, ite_true, ite_false]
  refine ⟨by decide, by decide, by simp; omega, by decide, fun l2 n2 => ?_⟩
  refine ⟨by decide, by simp; omega, by decide, by decide, by simp; omega, by decide, by simp; omega, by decide, by decide, by simp; omega, by decide, by decide, by simp; omega, by decide, fun p2 np2 => ?_⟩
  obtain ⟨n2p, n2l⟩ := DL.none_of np2
  have ep1' : mupd (mupd M1 l2 (.lst [.int 1, .int 1])) p2 (.lst (odd2 a l2)) p1 = some (.lst (odd1 a l1)) := by
    rw [mupd_ne (ne_new ep1 n2p), mupd_ne (ne_new ep1 n2)]; exact ep1
  have el1' : mupd (mupd M1 l2 (.lst [.int 1, .int 1])) p2 (.lst (odd2 a l2)) l1 = some (.lst (a.map fq)) := by
    rw [mupd_ne (ne_new el1 n2p), mupd_ne (ne_new el1 n2)]; exact el1
  have el2' : mupd (mupd M1 l2 (.lst [.int 1, .int 1])) p2 (.lst (odd2 a l2)) l2 = some (.lst [.int 1, .int 1]) := by
    rw [mupd_ne n2l.symm, mupd_same]
  have s2 : Sub M (mupd (mupd M1 l2 (.lst [.int 1, .int 1])) p2 (.lst (odd2 a l2))) := (s1.trans (Sub.new n2)).trans (Sub.new np2)
  change match mupd (mupd M1 l2 (.lst [.int 1, .int 1])) p2 (.lst (odd2 a l2)) p1, some (MO.lst (odd2 a l2)) with
    | some (MO.lst xs), some (MO.lst ys) => xs.length + ys.length ≤ sizeLine ∧ ∀ (p : Addr), mupd (mupd M1 l2 (.lst [.int 1, .int 1])) p2 (.lst (odd2 a l2)) p = none → R { nx := fun x M' => Q D.non M', rt := Q } [some x0, some (D.tup (List.map fq a)), some (D.ref p), none] (mupd (mupd (mupd M1 l2 (.lst [.int 1, .int 1])) p2 (.lst (odd2 a l2))) p (MO.lst (xs ++ ys)))
    | x, x_1 => False
  generalize mupd (mupd M1 l2 (.lst [.int 1, .int 1])) p2 (.lst (odd2 a l2)) = M2 at ep1' el1' el2' s2
  simp only [ep1']
  refine ⟨by simp [odd1, odd2]; omega, fun p3 np3 => ?_⟩
  have all : ∀ d ∈ odd1 a l1 ++ odd2 a l2, ∀ M' : Mem, M' l1 = some (.lst (a.map fq)) → M' l2 = some (.lst [.int 1, .int 1]) → PAns M' d false := by
    intro d hd M' g1 g2
    have k1 : kindD M' (.ref l1) = some "list" := by unfold kindD; simp only [g1]
    have k2 : kindD M' (.ref l2) = some "list" := by unfold kindD; simp only [g2]
    simp only [odd1, odd2, List.cons_append, List.nil_append, List.mem_cons, List.not_mem_nil, or_false] at hd
    rcases hd with rfl | rfl | rfl | rfl | rfl | rfl | rfl | rfl | rfl | rfl | rfl | rfl | rfl
    · exact .not (n := "NoneType") rfl (by decide) (by decide)
    · exact .not k1 (by decide) (by decide)
    · exact .not (n := "str") rfl (by decide) (by decide)
    · exact pbad la ⟨trivial, trivial⟩ (by decide)
    · exact pbad la trivial rfl
    · exact pbad la ⟨trivial, trivial⟩ (by decide)
    · exact pbad la ⟨trivial, trivial⟩ rfl
    · exact pbad la trivial rfl
    · exact pbad la (.inl k2) rfl
    · exact pbad la ⟨trivial, trivial⟩ (by decide)
    · exact pbad la trivial rfl
    · exact .not (n := "int") rfl (by decide) (by decide)
    · refine .bad (by simp; omega) (fun x hx => ?_) ⟨.tup [.int 0, .int 2], by simp, by decide⟩
      rcases List.mem_cons.mp hx with rfl | hx
      · exact ⟨trivial, trivial⟩
      · rcases List.mem_append.mp hx with hx | hx
        · obtain ⟨r, _, rfl⟩ := List.mem_map.mp hx
          exact fracOk_fq M' r
        · rw [List.mem_singleton.mp hx]; exact ⟨trivial, trivial⟩
  have len : (odd1 a l1 ++ odd2 a l2).length = 13 := rfl
  generalize odd1 a l1 ++ odd2 a l2 = O at all len
  have n31 := ne_new el1' np3
  have n32 := ne_new el2' np3
  have at3 : mupd M2 p3 (.lst O) p3 = some (.lst O) := mupd_same
  have g1 : mupd M2 p3 (.lst O) l1 = some (.lst (a.map fq)) := by rw [mupd_ne n31]; exact el1'
  have g2 : mupd M2 p3 (.lst O) l2 = some (.lst [.int 1, .int 1]) := by rw [mupd_ne n32]; exact el2'
  have s3 : Sub M (mupd M2 p3 (.lst O)) := s2.trans (Sub.new np3)
  generalize mupd M2 p3 (.lst O) = M3 at at3 g1 g2 s3
  subst hR
  simp only [dSeq, dNext, dIf, dRet, dRetN, dDrop, dAsg, gN, gN0, gNc, gTp, gSubL, dPar, dPar3, dAug, dVar, dC, dOp, dUn, dTest, dAnd, dOr, dNot, dAndV, dOrV, dNotV, dIfE, dNil, dCons, dTup, dLst, dCB, dCall, dstart, dget, dset, dwp, dclr, asB, pI0, pI, pU, pAdd, pMul, pEqB, pIsB, pIx, pCI, pC2, pInt, pIsi, pLen, optQ, stL, lstAt, lsOf, atI0, atI1, atI2, atI3, ixN0, ixN1, ixN2, ixN3, mupd_same, mupd_mupd, dFor, iRng, List.map_cons, List.map_nil, List.length_cons, List.length_nil, List.replicate, List.cons_append, List.nil_append, List.append_nil, List.set_cons_zero, List.set_cons_succ, Nat.reduceAdd, Nat.reduceSub, Nat.sub_self, if_true, if_false, decide_eq_true_eq, Bool.false_eq_true, Bool.not_true, Bool.not_false, id_eq, ite_true, ite_false, dPure, dLc, iSeqD, pBs, at3]
  intro p4 np4
  refine lc_map (live := isL p3 O) (M0 := M3) (fun _ => .bl true) (fun xs => by show mupd M3 p4 _ p3 = _; rw [mupd_ne (ne_new at3 np4)]; exact at3) O [] _ (fun d hd xs K k => ?_) (by rw [len]; simp; omega) ?_
  · simp only [dSeq, dNext, dIf, dRet, dRetN, dDrop, dAsg, gN, gN0, gNc, gTp, gSubL, dPar, dPar3, dAug, dVar, dC, dOp, dUn, dTest, dAnd, dOr, dNot, dAndV, dOrV, dNotV, dIfE, dNil, dCons, dTup, dLst, dCB, dCall, dstart, dget, dset, dwp, dclr, asB, pI0, pI, pU, pAdd, pMul, pEqB, pIsB, pIx, pCI, pC2, pInt, pIsi, pLen, optQ, stL, lstAt, lsOf, atI0, atI1, atI2, atI3, ixN0, ixN1, ixN2, ixN3, mupd_same, mupd_mupd, dFor, iRng, List.map_cons, List.map_nil, List.length_cons, List.length_nil, List.replicate, List.cons_append, List.nil_append, List.append_nil, List.set_cons_zero, List.set_cons_succ, Nat.reduceAdd, Nat.reduceSub, Nat.sub_self, if_true, if_false, decide_eq_true_eq, Bool.false_eq_true, Bool.not_true, Bool.not_false, id_eq, ite_true, ite_false, sp_is_poly]
    refine ⟨false, all d hd _ (by rw [mupd_ne (ne_new g1 np4)]; exact g1) (by rw [mupd_ne (ne_new g2 np4)]; exact g2), like_of rfl lk_bl k⟩
  · simp only [dSeq, dNext, dIf, dRet, dRetN, dDrop, dAsg, gN, gN0, gNc, gTp, gSubL, dPar, dPar3, dAug, dVar, dC, dOp, dUn, dTest, dAnd, dOr, dNot, dAndV, dOrV, dNotV, dIfE, dNil, dCons, dTup, dLst, dCB, dCall, dstart, dget, dset, dwp, dclr, asB, pI0, pI, pU, pAdd, pMul, pEqB, pIsB, pIx, pCI, pC2, pInt, pIsi, pLen, optQ, stL, lstAt, lsOf, atI0, atI1, atI2, atI3, ixN0, ixN1, ixN2, ixN3, mupd_same, mupd_mupd, dFor, iRng, List.map_cons, List.map_nil, List.length_cons, List.length_nil, List.replicate, List.cons_append, List.nil_append, List.append_nil, List.set_cons_zero, List.set_cons_succ, Nat.reduceAdd, Nat.reduceSub, Nat.sub_self, if_true, if_false, decide_eq_true_eq, Bool.false_eq_true, Bool.not_true, Bool.not_false, id_eq, ite_true, ite_false, map_const, bsOf_rep]
    rw [show (List.replicate O.length true).all id = true by simp]
    exact ⟨Sub.new np4, hc _ _ _ s3 h⟩
end
end K15

namespace K15
open PySem PySem.Spec PyProof.Rows L2 DL QF
section
variable {ds : List D} {M : Mem} {Q : DQ}
def sp_law : DSp := fun ds M Q => ∃ ns : List Int, ds = [.kl (ns.map .int)] ∧ Q (.bl true) M
theorem sp_law_mono : MonoSp sp_law := ⟨fun h ⟨ns, e, q⟩ => ⟨ns, e, h _ _ q⟩⟩
theorem smO_lz {a : List Rat} (h : LZ a) : LZ (cut (smO [] a (((0 - 1 : Int)) : Rat))) := by
  rw [smO_nil]
  obtain ⟨⟨N, B, n0, n1, b1, hp⟩, hl⟩ := h
  refine LZ.sub ⟨⟨N, B, n0, n1, b1, fun c hc => ?_⟩, by simpa using hl⟩ (cut_sub _) (cut_len _)
  obtain ⟨x, hx, rfl⟩ := List.mem_map.mp hc
  have e : x * (((0 - 1 : Int)) : Rat) = -x := by
    rw [show (((0 - 1 : Int)) : Rat) = -1 from rfl]; grind
  show HD N B (x * (((0 - 1 : Int)) : Rat))
  rw [e]; exact (hp x hx).neg
theorem body_law (hc : Clo Q) (h : sp_law ds M Q) : b_law sp_heap sp_draw sp_poly sp_sum_of sp_right sp_pick sp_fraction sp_judged { nx := fun _ M' => Q .non M', rt := Q } (dstart ["script", "heap", "turn", "great", "one", "other"] ds) M := by
  obtain ⟨ns, rfl, h⟩ := h
  have big := sl1000
  unfold b_law
  refine seq_cut fun R hR => ?_
  simp only [dSeq, dNext, dIf, dRet, dRetN, dDrop, dAsg, gN, gN0, gNc, gTp, gSubL, dPar, dPar3, dAug, dVar, dC, dOp, dUn, dTest, dAnd, dOr, dNot, dAndV, dOrV, dNotV, dIfE, dNil, dCons, dTup, dLst, dCB, dCall, dstart, dget, dset, dwp, dclr, asB, pI0, pI, pU, pAdd, pMul, pEqB, pIsB, pIx, pCI, pC2, pInt, pIsi, pLen, optQ, stL, lstAt, lsOf, atI0, atI1, atI2, atI3, ixN0, ixN1, ixN2, ixN3, mupd_same, mupd_mupd, dFor, iRng, List.map_cons, List.map_nil, List.length_cons, List.length_nil, List.replicate, List.cons_append, List.nil_append, List.append_nil, List.set_cons_zero, List.set_cons_succ, Nat.reduceAdd, Nat.reduceSub, Nat.sub_self, if_true, if_false, decide_eq_true_eq, Bool.false_eq_true, Bool.not_true, Bool.not_false, id_eq, ite_true, ite_false, sp_heap]
  refine ⟨ns, rfl, fun a l M1 s1 na nl w1 => ?_⟩
  subst hR
  refine seq_cut fun R hR => ?_
  simp only [dSeq, dNext, dIf, dRet, dRetN, dDrop, dAsg, gN, gN0, gNc, gTp, gSubL, dPar, dPar3, dAug, dVar, dC, dOp, dUn, dTest, dAnd, dOr, dNot, dAndV, dOrV, dNotV, dIfE, dNil, dCons, dTup, dLst, dCB, dCall, dstart, dget, dset, dwp, dclr, asB, pI0, pI, pU, pAdd, pMul, pEqB, pIsB, pIx, pCI, pC2, pInt, pIsi, pLen, optQ, stL, lstAt, lsOf, atI0, atI1, atI2, atI3, ixN0, ixN1, ixN2, ixN3, mupd_same, mupd_mupd, dFor, iRng, List.map_cons, List.map_nil, List.length_cons, List.length_nil, List.replicate, List.cons_append, List.nil_append, List.append_nil, List.set_cons_zero, List.set_cons_succ, Nat.reduceAdd, Nat.reduceSub, Nat.sub_self, if_true, if_false, decide_eq_true_eq, Bool.false_eq_true, Bool.not_true, Bool.not_false, id_eq, ite_true, ite_false]
  refine ⟨⟨by decide, by decide⟩, ?_⟩
  refine loop_rng (I := fun i τ M' => 0 ≤ i ∧ SubH a l M1 M' ∧ HpA M' a l ∧ ∃ u g x y, τ = [some (.kl (ns.map .int)), some (.ref a), u, g, x, y]) ?_ ?_ 5 0 _ _ rfl ⟨by decide, SubH.refl _ _ _, w1, none, none, none, none, rfl⟩
  · rintro i τ M2 X hi ⟨i0, s2, w2, u, g, x, y, rfl⟩ hX
    show dSeq _ _ _ _ _
    refine seq_cut fun R1 hR1 => ?_
    have main : ∀ (gr : Bool) (M3 : Mem), (gr = true → i = 4) → SubH a l M1 M3 → HpA M3 a l → R1 { nx := X, rt := Q, bk := R { nx := fun _ M' => Q .non M', rt := Q }, ct := X } [some (.kl (ns.map .int)), some (.ref a), some (.int i), some (.bl gr), x, y] M3 := by
      intro gr M3 hg s3 w3
      subst hR1
      refine seq_cut fun R1 hR1 => ?_
      have two : ∀ (p q : List Rat) (M4 : Mem), OZ p → cut p = p → LZ q → (gr = false → LZ p) → SubH a l M1 M4 → HpA M4 a l → R1 { nx := X, rt := Q, bk := R { nx := fun _ M' => Q .non M', rt := Q }, ct := X } [some (.kl (ns.map .int)), some (.ref a), some (.int i), some (.bl gr), some (pq p), some (pq q)] M4 := by
        intro p q M4 op cp lq hpl s4 w4
        have lp := op.len
        subst hR1
        refine seq_cut fun R1 hR1 => ?_
        have rest : ∀ q : List Rat, LZ q → R1 { nx := X, rt := Q, bk := R { nx := fun _ M' => Q .non M', rt := Q }, ct := X } [some (.kl (ns.map .int)), some (.ref a), some (.int i), some (.bl gr), some (pq p), some (pq q)] M4 := by
          intro q lq
          subst hR1
          have f1 : (D.tup [.int 1, .int 1]) = fq 1 := rfl
          have f0 : (D.tup [.int 0, .int 1]) = fq 0 := rfl
          simp only [dSeq, dNext, dIf, dRet, dRetN, dDrop, dAsg, gN, gN0, gNc, gTp, gSubL, dPar, dPar3, dAug, dVar, dC, dOp, dUn, dTest, dAnd, dOr, dNot, dAndV, dOrV, dNotV, dIfE, dNil, dCons, dTup, dLst, dCB, dCall, dstart, dget, dset, dwp, dclr, asB, pI0, pI, pU, pAdd, pMul, pEqB, pIsB, pIx, pCI, pC2, pInt, pIsi, pLen, optQ, stL, lstAt, lsOf, atI0, atI1, atI2, atI3, ixN0, ixN1, ixN2, ixN3, mupd_same, mupd_mupd, dFor, iRng, List.map_cons, List.map_nil, List.length_cons, List.length_nil, List.replicate, List.cons_append, List.nil_append, List.append_nil, List.set_cons_zero, List.set_cons_succ, Nat.reduceAdd, Nat.reduceSub, Nat.sub_self, if_true, if_false, decide_eq_true_eq, Bool.false_eq_true, Bool.not_true, Bool.not_false, id_eq, ite_true, ite_false, sp_fraction, sp_pick]
          refine ⟨by decide, by decide, l, w4, by decide, by decide, fun r M5 hr s5 w5 => ⟨by decide, fun p1 np1 => ?_⟩⟩
          refine ⟨l, _, seq_new, (HpA.ne w5 np1).1, (HpA.ne w5 np1).2, w5.new np1, by simp, by simp, fun d M6 hd s6 w6 => ?_⟩
          obtain ⟨z, rfl, hz⟩ : ∃ z : Rat, d = fq z ∧ XZ z := by
            simp only [List.mem_cons, List.not_mem_nil, or_false] at hd
            rcases hd with rfl | rfl | rfl
            · exact ⟨0, rfl, xz_zero⟩
            · exact ⟨1, rfl, xz_one⟩
            · exact ⟨r, rfl, hr⟩
          have s6' : SubH a l M1 M6 := ((s4.trans s5).new np1).trans s6
          refine ⟨by decide, l, w6, by decide, by decide, fun r2 M7 hr2 s7 w7 => ⟨by decide, fun p2 np2 => ?_⟩⟩
          refine ⟨l, _, seq_new, (HpA.ne w7 np2).1, (HpA.ne w7 np2).2, w7.new np2, by simp, by simp, fun d M8 hd s8 w8 => ?_⟩
          obtain ⟨t, rfl, ht⟩ : ∃ z : Rat, d = fq z ∧ XZ z := by
            simp only [List.mem_cons, List.not_mem_nil, or_false] at hd
            rcases hd with rfl | rfl
            · exact ⟨0, rfl, xz_zero⟩
            · exact ⟨r2, rfl, hr2⟩
          have s8' : SubH a l M1 M8 := ((s6'.trans s7).new np2).trans s8
          refine ⟨_, p, q, z, t, rfl, op, lq, hz, ht, ?_⟩
          simp only [dSeq, dNext, dIf, dRet, dRetN, dDrop, dAsg, gN, gN0, gNc, gTp, gSubL, dPar, dPar3, dAug, dVar, dC, dOp, dUn, dTest, dAnd, dOr, dNot, dAndV, dOrV, dNotV, dIfE, dNil, dCons, dTup, dLst, dCB, dCall, dstart, dget, dset, dwp, dclr, asB, pI0, pI, pU, pAdd, pMul, pEqB, pIsB, pIx, pCI, pC2, pInt, pIsi, pLen, optQ, stL, lstAt, lsOf, atI0, atI1, atI2, atI3, ixN0, ixN1, ixN2, ixN3, mupd_same, mupd_mupd, dFor, iRng, List.map_cons, List.map_nil, List.length_cons, List.length_nil, List.replicate, List.cons_append, List.nil_append, List.append_nil, List.set_cons_zero, List.set_cons_succ, Nat.reduceAdd, Nat.reduceSub, Nat.sub_self, if_true, if_false, decide_eq_true_eq, Bool.false_eq_true, Bool.not_true, Bool.not_false, id_eq, ite_true, ite_false]
          refine ⟨_, p, rfl, cp, by omega, ?_⟩
          simp only [dSeq, dNext, dIf, dRet, dRetN, dDrop, dAsg, gN, gN0, gNc, gTp, gSubL, dPar, dPar3, dAug, dVar, dC, dOp, dUn, dTest, dAnd, dOr, dNot, dAndV, dOrV, dNotV, dIfE, dNil, dCons, dTup, dLst, dCB, dCall, dstart, dget, dset, dwp, dclr, asB, pI0, pI, pU, pAdd, pMul, pEqB, pIsB, pIx, pCI, pC2, pInt, pIsi, pLen, optQ, stL, lstAt, lsOf, atI0, atI1, atI2, atI3, ixN0, ixN1, ixN2, ixN3, mupd_same, mupd_mupd, dFor, iRng, List.map_cons, List.map_nil, List.length_cons, List.length_nil, List.replicate, List.cons_append, List.nil_append, List.append_nil, List.set_cons_zero, List.set_cons_succ, Nat.reduceAdd, Nat.reduceSub, Nat.sub_self, if_true, if_false, decide_eq_true_eq, Bool.false_eq_true, Bool.not_true, Bool.not_false, id_eq, ite_true, ite_false]
          exact hX _ _ ⟨by omega, s8', w8, _, _, _, _, rfl⟩
        by_cases h1 : i = 1
        · have hgr : gr = false := by
            cases gr with
            | false => rfl
            | true => have := hg rfl; omega
          have lzp := hpl hgr
          simp only [h1, dSeq, dNext, dIf, dRet, dRetN, dDrop, dAsg, gN, gN0, gNc, gTp, gSubL, dPar, dPar3, dAug, dVar, dC, dOp, dUn, dTest, dAnd, dOr, dNot, dAndV, dOrV, dNotV, dIfE, dNil, dCons, dTup, dLst, dCB, dCall, dstart, dget, dset, dwp, dclr, asB, pI0, pI, pU, pAdd, pMul, pEqB, pIsB, pIx, pCI, pC2, pInt, pIsi, pLen, optQ, stL, lstAt, lsOf, atI0, atI1, atI2, atI3, ixN0, ixN1, ixN2, ixN3, mupd_same, mupd_mupd, dFor, iRng, List.map_cons, List.map_nil, List.length_cons, List.length_nil, List.replicate, List.cons_append, List.nil_append, List.append_nil, List.set_cons_zero, List.set_cons_succ, Nat.reduceAdd, Nat.reduceSub, Nat.sub_self, if_true, if_false, decide_eq_true_eq, Bool.false_eq_true, Bool.not_true, Bool.not_false, id_eq, ite_true, ite_false, decide_true] at rest ⊢
          refine ⟨by decide, by decide, [], p, (((0 - 1 : Int)) : Rat), rfl, (fun c hcc => by cases hcc), op.p.sz, sz_int (by decide), fun c hcc => ?_, by simp, by omega, rest _ (smO_lz lzp)⟩
          obtain ⟨⟨N, B, n0, n1, b1, hp⟩, _⟩ := lzp
          have e : c * (((0 - 1 : Int)) : Rat) = -c := by
            rw [show (((0 - 1 : Int)) : Rat) = -1 from rfl]; grind
          rw [e]
          exact (hp c hcc).neg.sz (lt3000 n1 (by decide)) (lt3000 b1 (by decide))
        · simp only [h1, dSeq, dNext, dIf, dRet, dRetN, dDrop, dAsg, gN, gN0, gNc, gTp, gSubL, dPar, dPar3, dAug, dVar, dC, dOp, dUn, dTest, dAnd, dOr, dNot, dAndV, dOrV, dNotV, dIfE, dNil, dCons, dTup, dLst, dCB, dCall, dstart, dget, dset, dwp, dclr, asB, pI0, pI, pU, pAdd, pMul, pEqB, pIsB, pIx, pCI, pC2, pInt, pIsi, pLen, optQ, stL, lstAt, lsOf, atI0, atI1, atI2, atI3, ixN0, ixN1, ixN2, ixN3, mupd_same, mupd_mupd, dFor, iRng, List.map_cons, List.map_nil, List.length_cons, List.length_nil, List.replicate, List.cons_append, List.nil_append, List.append_nil, List.set_cons_zero, List.set_cons_succ, Nat.reduceAdd, Nat.reduceSub, Nat.sub_self, if_true, if_false, decide_eq_true_eq, Bool.false_eq_true, Bool.not_true, Bool.not_false, id_eq, ite_true, ite_false, decide_false]
          exact rest q lq
      simp only [dSeq, dNext, dIf, dRet, dRetN, dDrop, dAsg, gN, gN0, gNc, gTp, gSubL, dPar, dPar3, dAug, dVar, dC, dOp, dUn, dTest, dAnd, dOr, dNot, dAndV, dOrV, dNotV, dIfE, dNil, dCons, dTup, dLst, dCB, dCall, dstart, dget, dset, dwp, dclr, asB, pI0, pI, pU, pAdd, pMul, pEqB, pIsB, pIx, pCI, pC2, pInt, pIsi, pLen, optQ, stL, lstAt, lsOf, atI0, atI1, atI2, atI3, ixN0, ixN1, ixN2, ixN3, mupd_same, mupd_mupd, dFor, iRng, List.map_cons, List.map_nil, List.length_cons, List.length_nil, List.replicate, List.cons_append, List.nil_append, List.append_nil, List.set_cons_zero, List.set_cons_succ, Nat.reduceAdd, Nat.reduceSub, Nat.sub_self, if_true, if_false, decide_eq_true_eq, Bool.false_eq_true, Bool.not_true, Bool.not_false, id_eq, ite_true, ite_false, sp_poly]
      cases gr with
      | true =>
        simp only [dSeq, dNext, dIf, dRet, dRetN, dDrop, dAsg, gN, gN0, gNc, gTp, gSubL, dPar, dPar3, dAug, dVar, dC, dOp, dUn, dTest, dAnd, dOr, dNot, dAndV, dOrV, dNotV, dIfE, dNil, dCons, dTup, dLst, dCB, dCall, dstart, dget, dset, dwp, dclr, asB, pI0, pI, pU, pAdd, pMul, pEqB, pIsB, pIx, pCI, pC2, pInt, pIsi, pLen, optQ, stL, lstAt, lsOf, atI0, atI1, atI2, atI3, ixN0, ixN1, ixN2, ixN3, mupd_same, mupd_mupd, dFor, iRng, List.map_cons, List.map_nil, List.length_cons, List.length_nil, List.replicate, List.cons_append, List.nil_append, List.append_nil, List.set_cons_zero, List.set_cons_succ, Nat.reduceAdd, Nat.reduceSub, Nat.sub_self, if_true, if_false, decide_eq_true_eq, Bool.false_eq_true, Bool.not_true, Bool.not_false, id_eq, ite_true, ite_false]
        refine ⟨⟨by decide, by decide, by decide⟩, l, w3, by decide, by decide, by decide, by decide, fun p M4 hp lp cp s4 w4 => ⟨l, w4, by decide, by decide, by decide, by decide, fun q M5 hq lq cq s5 w5 => ?_⟩⟩
        exact two p q M5 (oz_of hp lp) cp (lz_of hq (Nat.le_trans lq (by decide))) (fun z => by cases z) ((s3.trans s4).trans s5) w5
      | false =>
        simp only [dSeq, dNext, dIf, dRet, dRetN, dDrop, dAsg, gN, gN0, gNc, gTp, gSubL, dPar, dPar3, dAug, dVar, dC, dOp, dUn, dTest, dAnd, dOr, dNot, dAndV, dOrV, dNotV, dIfE, dNil, dCons, dTup, dLst, dCB, dCall, dstart, dget, dset, dwp, dclr, asB, pI0, pI, pU, pAdd, pMul, pEqB, pIsB, pIx, pCI, pC2, pInt, pIsi, pLen, optQ, stL, lstAt, lsOf, atI0, atI1, atI2, atI3, ixN0, ixN1, ixN2, ixN3, mupd_same, mupd_mupd, dFor, iRng, List.map_cons, List.map_nil, List.length_cons, List.length_nil, List.replicate, List.cons_append, List.nil_append, List.append_nil, List.set_cons_zero, List.set_cons_succ, Nat.reduceAdd, Nat.reduceSub, Nat.sub_self, if_true, if_false, decide_eq_true_eq, Bool.false_eq_true, Bool.not_true, Bool.not_false, id_eq, ite_true, ite_false]
        refine ⟨l, w3, by decide, by decide, by decide, by decide, fun p M4 hp lp cp s4 w4 => ⟨l, w4, by decide, by decide, by decide, by decide, fun q M5 hq lq cq s5 w5 => ?_⟩⟩
        have lzp := lz_of hp lp
        exact two p q M5 lzp.o cp (lz_of hq lq) (fun _ => lzp) ((s3.trans s4).trans s5) w5
    by_cases h4 : i = 4
    · simp only [h4, dSeq, dNext, dIf, dRet, dRetN, dDrop, dAsg, gN, gN0, gNc, gTp, gSubL, dPar, dPar3, dAug, dVar, dC, dOp, dUn, dTest, dAnd, dOr, dNot, dAndV, dOrV, dNotV, dIfE, dNil, dCons, dTup, dLst, dCB, dCall, dstart, dget, dset, dwp, dclr, asB, pI0, pI, pU, pAdd, pMul, pEqB, pIsB, pIx, pCI, pC2, pInt, pIsi, pLen, optQ, stL, lstAt, lsOf, atI0, atI1, atI2, atI3, ixN0, ixN1, ixN2, ixN3, mupd_same, mupd_mupd, dFor, iRng, List.map_cons, List.map_nil, List.length_cons, List.length_nil, List.replicate, List.cons_append, List.nil_append, List.append_nil, List.set_cons_zero, List.set_cons_succ, Nat.reduceAdd, Nat.reduceSub, Nat.sub_self, if_true, if_false, decide_eq_true_eq, Bool.false_eq_true, Bool.not_true, Bool.not_false, id_eq, ite_true, ite_false, decide_true, sp_draw] at main ⊢
      by_cases h0 : ((ns.map D.int).length : Nat) = 0
      · simp only [h0, dSeq, dNext, dIf, dRet, dRetN, dDrop, dAsg, gN, gN0, gNc, gTp, gSubL, dPar, dPar3, dAug, dVar, dC, dOp, dUn, dTest, dAnd, dOr, dNot, dAndV, dOrV, dNotV, dIfE, dNil, dCons, dTup, dLst, dCB, dCall, dstart, dget, dset, dwp, dclr, asB, pI0, pI, pU, pAdd, pMul, pEqB, pIsB, pIx, pCI, pC2, pInt, pIsi, pLen, optQ, stL, lstAt, lsOf, atI0, atI1, atI2, atI3, ixN0, ixN1, ixN2, ixN3, mupd_same, mupd_mupd, dFor, iRng, List.map_cons, List.map_nil, List.length_cons, List.length_nil, List.replicate, List.cons_append, List.nil_append, List.append_nil, List.set_cons_zero, List.set_cons_succ, Nat.reduceAdd, Nat.reduceSub, Nat.sub_self, if_true, if_false, decide_eq_true_eq, Bool.false_eq_true, Bool.not_true, Bool.not_false, id_eq, ite_true, ite_false, decide_true]
        exact main true M2 (fun _ => trivial) s2 w2
      · have h0' : ¬ (((ns.map D.int).length : Nat) : Int) = 0 := by omega
        simp only [h0', dSeq, dNext, dIf, dRet, dRetN, dDrop, dAsg, gN, gN0, gNc, gTp, gSubL, dPar, dPar3, dAug, dVar, dC, dOp, dUn, dTest, dAnd, dOr, dNot, dAndV, dOrV, dNotV, dIfE, dNil, dCons, dTup, dLst, dCB, dCall, dstart, dget, dset, dwp, dclr, asB, pI0, pI, pU, pAdd, pMul, pEqB, pIsB, pIx, pCI, pC2, pInt, pIsi, pLen, optQ, stL, lstAt, lsOf, atI0, atI1, atI2, atI3, ixN0, ixN1, ixN2, ixN3, mupd_same, mupd_mupd, dFor, iRng, List.map_cons, List.map_nil, List.length_cons, List.length_nil, List.replicate, List.cons_append, List.nil_append, List.append_nil, List.set_cons_zero, List.set_cons_succ, Nat.reduceAdd, Nat.reduceSub, Nat.sub_self, if_true, if_false, decide_eq_true_eq, Bool.false_eq_true, Bool.not_true, Bool.not_false, id_eq, ite_true, ite_false, decide_false]
        refine ⟨l, w2, by decide, by decide, fun d M3 d0 d1 s3 w3 => ?_⟩
        exact main _ M3 (fun _ => trivial) (s2.trans s3) w3
    · simp only [h4, dSeq, dNext, dIf, dRet, dRetN, dDrop, dAsg, gN, gN0, gNc, gTp, gSubL, dPar, dPar3, dAug, dVar, dC, dOp, dUn, dTest, dAnd, dOr, dNot, dAndV, dOrV, dNotV, dIfE, dNil, dCons, dTup, dLst, dCB, dCall, dstart, dget, dset, dwp, dclr, asB, pI0, pI, pU, pAdd, pMul, pEqB, pIsB, pIx, pCI, pC2, pInt, pIsi, pLen, optQ, stL, lstAt, lsOf, atI0, atI1, atI2, atI3, ixN0, ixN1, ixN2, ixN3, mupd_same, mupd_mupd, dFor, iRng, List.map_cons, List.map_nil, List.length_cons, List.length_nil, List.replicate, List.cons_append, List.nil_append, List.append_nil, List.set_cons_zero, List.set_cons_succ, Nat.reduceAdd, Nat.reduceSub, Nat.sub_self, if_true, if_false, decide_eq_true_eq, Bool.false_eq_true, Bool.not_true, Bool.not_false, id_eq, ite_true, ite_false, decide_false]
      exact main false M2 (fun z => by cases z) s2 w2
  · rintro τ M2 ⟨i0, s2, w2, u, g, x, y, rfl⟩
    dsimp only
    subst hR
    simp only [dSeq, dNext, dIf, dRet, dRetN, dDrop, dAsg, gN, gN0, gNc, gTp, gSubL, dPar, dPar3, dAug, dVar, dC, dOp, dUn, dTest, dAnd, dOr, dNot, dAndV, dOrV, dNotV, dIfE, dNil, dCons, dTup, dLst, dCB, dCall, dstart, dget, dset, dwp, dclr, asB, pI0, pI, pU, pAdd, pMul, pEqB, pIsB, pIx, pCI, pC2, pInt, pIsi, pLen, optQ, stL, lstAt, lsOf, atI0, atI1, atI2, atI3, ixN0, ixN1, ixN2, ixN3, mupd_same, mupd_mupd, dFor, iRng, List.map_cons, List.map_nil, List.length_cons, List.length_nil, List.replicate, List.cons_append, List.nil_append, List.append_nil, List.set_cons_zero, List.set_cons_succ, Nat.reduceAdd, Nat.reduceSub, Nat.sub_self, if_true, if_false, decide_eq_true_eq, Bool.false_eq_true, Bool.not_true, Bool.not_false, id_eq, ite_true, ite_false]
    refine hc _ _ _ (fun x o e => s2 x o (fun z => ?_) (fun z => ?_) (s1 x o e)) h
    · subst z; rw [e] at na; cases na
    · subst z; rw [e] at nl; cases nl
end
end K15

namespace K15
open PySem PySem.Spec PyProof.Rows L2 DL QF
abbrev FnP (K : PySem.W.Frag) (x : Str) (st : Stmt) (f : Addr) (fd : FuncData) : Prop := FunD K x x (defArgs st) (defBody st) (defScope st) [] [] f fd
section
variable {P : Program} {w : World} {K : PySem.W.Frag} {mg : Str → Option Value} {base : Heap} {ff : Addr} {fd : FuncData}
theorem ok__law_heap {k : Nat} (F : FnP K "_law_heap" s__law_heap ff fd) (n_abs : mg "abs" = none) (n_int : mg "int" = none) : FnOk P w K mg base CX0 (k + 1) ff fd ["script"] (upSp K (sp_heap)) :=
  def_ok F sc__law_heap (by
      intro ds M Q h
      unfold sp_heap at h
      split at h
      · rfl
      · exact h.elim)
    (fun cdv A outer s H E hr => d__law_heap n_abs n_int)
    (fun ds M Q hc h => body_heap ds M Q hc h)
theorem ok__law_draw {k : Nat} (F : FnP K "_law_draw" s__law_draw ff fd) (n_int : mg "int" = none) : FnOk P w K mg base CX0 (k + 1) ff fd ["heap", "many"] (upSp K (sp_draw)) :=
  def_ok F sc__law_draw (by
      intro ds M Q h
      unfold sp_draw at h
      split at h
      · rfl
      · exact h.elim)
    (fun cdv A outer s H E hr => d__law_draw n_int hr.units)
    (fun ds M Q hc h => body_draw ds M Q hc h)
theorem ok__law_pick {k : Nat} (F : FnP K "_law_pick" s__law_pick ff fd) (c__law_draw_2 : ∀ A' : Around, Room k A' → Can P w K mg base A' "_law_draw" [] (sp_draw)) (n_len : mg "len" = none) : FnOk P w K mg base CX0 (k + 1) ff fd ["heap", "some"] (upSp K (sp_pick)) :=
  def_ok F sc__law_pick (by
      intro ds M Q h
      unfold sp_pick at h
      split at h
      · rfl
      · exact h.elim)
    (fun cdv A outer s H E hr => d__law_pick (c__law_draw_2 _ hr) n_len)
    (fun ds M Q hc h => body_pick ds M Q hc h)
theorem ok__law_gcd {k : Nat} (F : FnP K "_law_gcd" s__law_gcd ff fd) (n_abs : mg "abs" = none) (n_int : mg "int" = none) : FnOk P w K mg base CX0 (k + 1) ff fd ["one", "other"] (upSp K (sp_divisor_of)) :=
  def_ok F sc__law_gcd (by
      intro ds M Q h
      unfold sp_divisor_of at h
      split at h
      · rfl
      · exact h.elim)
    (fun cdv A outer s H E hr => d__law_gcd n_abs n_int hr.units)
    (fun ds M Q hc h => QF.body__law_gcd h)
theorem ok__law_f {k : Nat} (F : FnP K "_law_f" s__law_f ff fd) (c__law_gcd_2 : ∀ A' : Around, Room k A' → Can P w K mg base A' "_law_gcd" [] (sp_divisor_of)) : FnOk P w K mg base CX0 (k + 1) ff fd ["top", "bottom"] (upSp K (sp_fraction_of)) :=
  def_ok F sc__law_f (by
      intro ds M Q h
      unfold sp_fraction_of at h
      split at h
      · rfl
      · exact h.elim)
    (fun cdv A outer s H E hr => d__law_f (c__law_gcd_2 _ hr))
    (fun ds M Q hc h => body__law_f h)
theorem ok__law_fraction {k : Nat} (F : FnP K "_law_fraction" s__law_fraction ff fd) (c__law_draw_2 : ∀ A' : Around, Room k A' → Can P w K mg base A' "_law_draw" [] (sp_draw)) (c__law_f_2 : ∀ A' : Around, Room k A' → Can P w K mg base A' "_law_f" [] (sp_fraction_of)) (c__law_pick_2 : ∀ A' : Around, Room k A' → Can P w K mg base A' "_law_pick" [] (sp_pick)) : FnOk P w K mg base CX0 (k + 1) ff fd ["heap", "most"] (upSp K (sp_fraction)) :=
  def_ok F sc__law_fraction (by
      intro ds M Q h
      unfold sp_fraction at h
      split at h
      · rfl
      · exact h.elim)
    (fun cdv A outer s H E hr => d__law_fraction (c__law_draw_2 _ hr) (c__law_f_2 _ hr) (c__law_pick_2 _ hr))
    (fun ds M Q hc h => body_fraction h)
theorem ok__law_cut {k : Nat} (F : FnP K "_law_cut" s__law_cut ff fd) (n_list : mg "list" = none) (n_range : mg "range" = none) (n_len : mg "len" = none) (n_tuple : mg "tuple" = none) : FnOk P w K mg base CX0 (k + 1) ff fd ["row"] (upSp K (sp_cut)) :=
  def_ok F sc__law_cut (by
      intro ds M Q h
      unfold sp_cut at h
      split at h
      · rfl
      · exact h.elim)
    (fun cdv A outer s H E hr => d__law_cut n_list n_range n_len n_tuple hr.units)
    (fun ds M Q hc h => body_cut hc h)
theorem ok__law_poly {k : Nat} (F : FnP K "_law_poly" s__law_poly ff fd) (c__law_draw_2 : ∀ A' : Around, Room k A' → Can P w K mg base A' "_law_draw" [] (sp_draw)) (c__law_pick_2 : ∀ A' : Around, Room k A' → Can P w K mg base A' "_law_pick" [] (sp_pick)) (c__law_fraction_2 : ∀ A' : Around, Room k A' → Can P w K mg base A' "_law_fraction" [] (sp_fraction)) (c__law_cut_1 : ∀ A' : Around, Room k A' → Can P w K mg base A' "_law_cut" [] (sp_cut)) (n_range : mg "range" = none) : FnOk P w K mg base CX0 (k + 1) ff fd ["heap", "many", "most"] (upSp K (sp_poly)) :=
  def_ok F sc__law_poly (by
      intro ds M Q h
      unfold sp_poly at h
      split at h
      · rfl
      · exact h.elim)
    (fun cdv A outer s H E hr => d__law_poly (c__law_draw_2 _ hr) (c__law_pick_2 _ hr) (c__law_fraction_2 _ hr) (c__law_cut_1 _ hr) n_range)
    (fun ds M Q hc h => body_poly h)
theorem ok__law_plus {k : Nat} (F : FnP K "_law_plus" s__law_plus ff fd) (c__law_f_2 : ∀ A' : Around, Room k A' → Can P w K mg base A' "_law_f" [] (sp_fraction_of)) : FnOk P w K mg base CX0 (k + 1) ff fd ["one", "other"] (upSp K (sq_plus)) :=
  def_ok F sc__law_plus (spQ2_len)
    (fun cdv A outer s H E hr => d__law_plus (c__law_f_2 _ hr))
    (fun ds M Q hc h => body__law_plus h)
theorem ok__law_times {k : Nat} (F : FnP K "_law_times" s__law_times ff fd) (c__law_f_2 : ∀ A' : Around, Room k A' → Can P w K mg base A' "_law_f" [] (sp_fraction_of)) : FnOk P w K mg base CX0 (k + 1) ff fd ["one", "other"] (upSp K (sq_times)) :=
  def_ok F sc__law_times (spQ2_len)
    (fun cdv A outer s H E hr => d__law_times (c__law_f_2 _ hr))
    (fun ds M Q hc h => body__law_times h)
theorem ok__law_sum_of {k : Nat} (F : FnP K "_law_sum_of" s__law_sum_of ff fd) (c__law_plus_2 : ∀ A' : Around, Room k A' → Can P w K mg base A' "_law_plus" [] (sq_plus)) (c__law_times_2 : ∀ A' : Around, Room k A' → Can P w K mg base A' "_law_times" [] (sq_times)) (c__law_cut_1 : ∀ A' : Around, Room k A' → Can P w K mg base A' "_law_cut" [] (sp_cut)) (n_range : mg "range" = none) (n_max : mg "max" = none) (n_len : mg "len" = none) : FnOk P w K mg base CX0 (k + 1) ff fd ["one", "other", "by"] (upSp K (sp_sum_of)) :=
  def_ok F sc__law_sum_of (fun ds M Q h => by
      obtain ⟨a, b, c, rfl, _⟩ := h
      rfl)
    (fun cdv A outer s H E hr => d__law_sum_of (c__law_plus_2 _ hr) (c__law_times_2 _ hr) (c__law_cut_1 _ hr) n_range n_max n_len)
    (fun ds M Q hc h => body_sum_of hc h)
theorem ok__law_same {k : Nat} (F : FnP K "_law_same" s__law_same ff fd) (c__law_same_2 : ∀ A' : Around, Room k A' → Can P w K mg base A' "_law_same" [] (sp_like k)) (n_isinstance : mg "isinstance" = none) (n_tuple : mg "tuple" = none) (n_len : mg "len" = none) (n_all : mg "all" = none) (n_range : mg "range" = none) (n_str : mg "str" = none) (n_int : mg "int" = none) (n_bool : mg "bool" = none) : FnOk P w K mg base CX0 (k + 1) ff fd ["value", "due"] (upSp K (sp_like (k + 1))) :=
  def_ok F sc__law_same (by
      intro ds M Q h
      change spLikeS k ds M Q at h
      unfold spLikeS at h
      split at h
      · rfl
      · exact h.elim)
    (fun cdv A outer s H E hr => d__law_same (c__law_same_2 _ hr) n_isinstance n_tuple n_len n_all n_range n_str n_int n_bool hr.units)
    (fun ds M Q hc h => body_same k ds M Q hc h)
theorem ok__law_product_of {k : Nat} (F : FnP K "_law_product_of" s__law_product_of ff fd) (c__law_plus_2 : ∀ A' : Around, Room k A' → Can P w K mg base A' "_law_plus" [] (sq_plus)) (c__law_times_2 : ∀ A' : Around, Room k A' → Can P w K mg base A' "_law_times" [] (sq_times)) (c__law_cut_1 : ∀ A' : Around, Room k A' → Can P w K mg base A' "_law_cut" [] (sp_cut)) (n_max : mg "max" = none) (n_len : mg "len" = none) (n_range : mg "range" = none) : FnOk P w K mg base CX0 (k + 1) ff fd ["one", "other"] (upSp K (sp_product)) :=
  def_ok F sc__law_product_of (fun ds M Q h => by
      obtain ⟨a, b, rfl, _⟩ := h
      rfl)
    (fun cdv A outer s H E hr => d__law_product_of (c__law_plus_2 _ hr) (c__law_times_2 _ hr) (c__law_cut_1 _ hr) n_max n_len n_range)
    (fun ds M Q hc h => body_product hc h)
theorem ok_poly_of {k : Nat} (F : FnP K "poly_of" s_poly_of ff fd) (n_len : mg "len" = none) (n_tuple : mg "tuple" = none) : FnOk P w K mg base CX0 (k + 1) ff fd ["row"] (upSp K (sp_poly_of)) :=
  def_ok F sc_poly_of (by
      intro ds M Q h
      unfold sp_poly_of at h
      split at h
      · rfl
      · exact h.elim)
    (fun cdv A outer s H E hr => d_poly_of n_len n_tuple hr.units)
    (fun ds M Q hc h => body_poly_of h)
theorem ok_divisor_of {k : Nat} (F : FnP K "divisor_of" s_divisor_of ff fd) (n_abs : mg "abs" = none) : FnOk P w K mg base CX0 (k + 1) ff fd ["one", "other"] (upSp K (sp_divisor_of)) :=
  def_ok F sc_divisor_of (by
      intro ds M Q h
      unfold sp_divisor_of at h
      split at h
      · rfl
      · exact h.elim)
    (fun cdv A outer s H E hr => d_divisor_of n_abs)
    (fun ds M Q hc h => QF.body_divisor_of h)
theorem ok_fraction_of {k : Nat} (F : FnP K "fraction_of" s_fraction_of ff fd) (c_divisor_of_2 : ∀ A' : Around, Room k A' → Can P w K mg base A' "divisor_of" [] (sp_divisor_of)) : FnOk P w K mg base CX0 (k + 1) ff fd ["top", "bottom"] (upSp K (sp_fraction_of)) :=
  def_ok F sc_fraction_of (by
      intro ds M Q h
      unfold sp_fraction_of at h
      split at h
      · rfl
      · exact h.elim)
    (fun cdv A outer s H E hr => d_fraction_of (c_divisor_of_2 _ hr))
    (fun ds M Q hc h => QF.body_fraction_of h)
theorem ok_times {k : Nat} (F : FnP K "times" s_times ff fd) (c_fraction_of_2 : ∀ A' : Around, Room k A' → Can P w K mg base A' "fraction_of" [] (sp_fraction_of)) : FnOk P w K mg base CX0 (k + 1) ff fd ["one", "other"] (upSp K (sq_times)) :=
  def_ok F sc_times (spQ2_len)
    (fun cdv A outer s H E hr => d_times (c_fraction_of_2 _ hr) hr.units)
    (fun ds M Q hc h => QF.body_times (q_times h))
theorem ok_poly_scaled {k : Nat} (F : FnP K "poly_scaled" s_poly_scaled ff fd) (c_poly_of_1 : ∀ A' : Around, Room k A' → Can P w K mg base A' "poly_of" [] (sp_poly_of)) (c_times_2 : ∀ A' : Around, Room k A' → Can P w K mg base A' "times" [] (sq_times)) : FnOk P w K mg base CX0 (k + 1) ff fd ["one", "fraction"] (upSp K (sp_scaled)) :=
  def_ok F sc_poly_scaled (fun ds M Q h => by
      obtain ⟨a, b, rfl, _⟩ := h
      rfl)
    (fun cdv A outer s H E hr => d_poly_scaled (c_poly_of_1 _ hr) (c_times_2 _ hr))
    (fun ds M Q hc h => body_scaled hc h)
theorem ok_poly_from {k : Nat} (F : FnP K "poly_from" s_poly_from ff fd) (c_poly_of_1 : ∀ A' : Around, Room k A' → Can P w K mg base A' "poly_of" [] (sp_poly_of)) (c_fraction_of_2 : ∀ A' : Around, Room k A' → Can P w K mg base A' "fraction_of" [] (sp_fraction_of)) : FnOk P w K mg base CX0 (k + 1) ff fd ["whole"] (upSp K (sp_poly_from)) :=
  def_ok F sc_poly_from (fun ds M Q h => by
      obtain ⟨a, b, c, rfl, _⟩ := h
      rfl)
    (fun cdv A outer s H E hr => d_poly_from (c_poly_of_1 _ hr) (c_fraction_of_2 _ hr))
    (fun ds M Q hc h => body_poly_from hc h)
theorem ok_whole_timed {k : Nat} (F : FnP K "whole_timed" s_whole_timed ff fd) (n_len : mg "len" = none) (n_enumerate : mg "enumerate" = none) : FnOk P w K mg base CX0 (k + 1) ff fd ["one", "other"] (upSp K (sp_whole_timed)) :=
  def_ok F sc_whole_timed (fun ds M Q h => by
      obtain ⟨a, b, c, d, e, f, rfl, _⟩ := h
      rfl)
    (fun cdv A outer s H E hr => d_whole_timed n_len n_enumerate hr.units)
    (fun ds M Q hc h => body_whole_timed h)
theorem ok_whole_of {k : Nat} (F : FnP K "whole_of" s_whole_of ff fd) (c_divisor_of_2 : ∀ A' : Around, Room k A' → Can P w K mg base A' "divisor_of" [] (sp_divisor_of)) : FnOk P w K mg base CX0 (k + 1) ff fd ["one"] (upSp K (sp_whole_of)) :=
  def_ok F sc_whole_of (fun ds M Q h => by
      obtain ⟨a, b, c, rfl, _⟩ := h
      rfl)
    (fun cdv A outer s H E hr => d_whole_of (c_divisor_of_2 _ hr))
    (fun ds M Q hc h => body_whole_of h)
theorem ok_poly_timed {k : Nat} (F : FnP K "poly_timed" s_poly_timed ff fd) (c_poly_from_1 : ∀ A' : Around, Room k A' → Can P w K mg base A' "poly_from" [] (sp_poly_from)) (c_whole_timed_2 : ∀ A' : Around, Room k A' → Can P w K mg base A' "whole_timed" [] (sp_whole_timed)) (c_whole_of_1 : ∀ A' : Around, Room k A' → Can P w K mg base A' "whole_of" [] (sp_whole_of)) : FnOk P w K mg base CX0 (k + 1) ff fd ["one", "other"] (upSp K (sp_product)) :=
  def_ok F sc_poly_timed (fun ds M Q h => by
      obtain ⟨a, b, rfl, _⟩ := h
      rfl)
    (fun cdv A outer s H E hr => d_poly_timed (c_poly_from_1 _ hr) (c_whole_timed_2 _ hr) (c_whole_of_1 _ hr))
    (fun ds M Q hc h => body_timed hc h)
theorem ok_plus {k : Nat} (F : FnP K "plus" s_plus ff fd) (c_fraction_of_2 : ∀ A' : Around, Room k A' → Can P w K mg base A' "fraction_of" [] (sp_fraction_of)) : FnOk P w K mg base CX0 (k + 1) ff fd ["one", "other"] (upSp K (sq_plus)) :=
  def_ok F sc_plus (spQ2_len)
    (fun cdv A outer s H E hr => d_plus (c_fraction_of_2 _ hr) hr.units)
    (fun ds M Q hc h => QF.body_plus (q_plus h))
theorem ok_poly_added {k : Nat} (F : FnP K "poly_added" s_poly_added ff fd) (c_poly_of_1 : ∀ A' : Around, Room k A' → Can P w K mg base A' "poly_of" [] (sp_poly_of)) (c_plus_2 : ∀ A' : Around, Room k A' → Can P w K mg base A' "plus" [] (sq_plus)) (g_ZERO : GC K mg "ZERO" (.tup [(.int 0), (.int 1)])) (n_max : mg "max" = none) (n_len : mg "len" = none) (n_tuple : mg "tuple" = none) (n_zip : mg "zip" = none) : FnOk P w K mg base CX0 (k + 1) ff fd ["one", "other"] (upSp K (sp_added)) :=
  def_ok F sc_poly_added (fun ds M Q h => by
      obtain ⟨a, b, rfl, _⟩ := h
      rfl)
    (fun cdv A outer s H E hr => d_poly_added (c_poly_of_1 _ hr) (c_plus_2 _ hr) g_ZERO n_max n_len n_tuple n_zip)
    (fun ds M Q hc h => body_added hc h)
theorem ok__law_at {k : Nat} (F : FnP K "_law_at" s__law_at ff fd) (c__law_times_2 : ∀ A' : Around, Room k A' → Can P w K mg base A' "_law_times" [] (sq_times)) (c__law_plus_2 : ∀ A' : Around, Room k A' → Can P w K mg base A' "_law_plus" [] (sq_plus)) : FnOk P w K mg base CX0 (k + 1) ff fd ["one", "place"] (upSp K (sp_at)) :=
  def_ok F sc__law_at (fun ds M Q h => by
      obtain ⟨a, b, rfl, _⟩ := h
      rfl)
    (fun cdv A outer s H E hr => d__law_at (c__law_times_2 _ hr) (c__law_plus_2 _ hr))
    (fun ds M Q hc h => body__law_at h)
theorem ok_poly_at {k : Nat} (F : FnP K "poly_at" s_poly_at ff fd) (c_plus_2 : ∀ A' : Around, Room k A' → Can P w K mg base A' "plus" [] (sq_plus)) (c_times_2 : ∀ A' : Around, Room k A' → Can P w K mg base A' "times" [] (sq_times)) (g_ZERO : GC K mg "ZERO" (.tup [(.int 0), (.int 1)])) : FnOk P w K mg base CX0 (k + 1) ff fd ["one", "place"] (upSp K (sp_at)) :=
  def_ok F sc_poly_at (fun ds M Q h => by
      obtain ⟨a, b, rfl, _⟩ := h
      rfl)
    (fun cdv A outer s H E hr => d_poly_at (c_plus_2 _ hr) (c_times_2 _ hr) g_ZERO)
    (fun ds M Q hc h => body_at h)
theorem ok_poly_slope {k : Nat} (F : FnP K "poly_slope" s_poly_slope ff fd) (c_poly_of_1 : ∀ A' : Around, Room k A' → Can P w K mg base A' "poly_of" [] (sp_poly_of)) (c_times_2 : ∀ A' : Around, Room k A' → Can P w K mg base A' "times" [] (sq_times)) (n_range : mg "range" = none) (n_len : mg "len" = none) : FnOk P w K mg base CX0 (k + 1) ff fd ["one"] (upSp K (sp_slope)) :=
  def_ok F sc_poly_slope (fun ds M Q h => by
      obtain ⟨a, rfl, _⟩ := h
      rfl)
    (fun cdv A outer s H E hr => d_poly_slope (c_poly_of_1 _ hr) (c_times_2 _ hr) n_range n_len)
    (fun ds M Q hc h => body_slope hc h)
theorem ok__law_over {k : Nat} (F : FnP K "_law_over" s__law_over ff fd) (c__law_f_2 : ∀ A' : Around, Room k A' → Can P w K mg base A' "_law_f" [] (sp_fraction_of)) : FnOk P w K mg base CX0 (k + 1) ff fd ["one", "other"] (upSp K (sq_over)) :=
  def_ok F sc__law_over (spQ2_len)
    (fun cdv A outer s H E hr => d__law_over (c__law_f_2 _ hr))
    (fun ds M Q hc h => body__law_over h)
theorem ok_over {k : Nat} (F : FnP K "over" s_over ff fd) (c_fraction_of_2 : ∀ A' : Around, Room k A' → Can P w K mg base A' "fraction_of" [] (sp_fraction_of)) : FnOk P w K mg base CX0 (k + 1) ff fd ["one", "other"] (upSp K (sq_over)) :=
  def_ok F sc_over (spQ2_len)
    (fun cdv A outer s H E hr => d_over (c_fraction_of_2 _ hr))
    (fun ds M Q hc h => QF.body_over (q_over h))
theorem ok_poly_sum {k : Nat} (F : FnP K "poly_sum" s_poly_sum ff fd) (c_plus_2 : ∀ A' : Around, Room k A' → Can P w K mg base A' "plus" [] (sq_plus)) (c_over_2 : ∀ A' : Around, Room k A' → Can P w K mg base A' "over" [] (sq_over)) (g_ZERO : GC K mg "ZERO" (.tup [(.int 0), (.int 1)])) (n_enumerate : mg "enumerate" = none) : FnOk P w K mg base CX0 (k + 1) ff fd ["one"] (upSp K (sp_sum)) :=
  def_ok F sc_poly_sum (fun ds M Q h => by
      obtain ⟨a, rfl, _⟩ := h
      rfl)
    (fun cdv A outer s H E hr => d_poly_sum (c_plus_2 _ hr) (c_over_2 _ hr) g_ZERO n_enumerate)
    (fun ds M Q hc h => body_sum h)
theorem ok__law_less {k : Nat} (F : FnP K "_law_less" s__law_less ff fd) (c__law_f_2 : ∀ A' : Around, Room k A' → Can P w K mg base A' "_law_f" [] (sp_fraction_of)) : FnOk P w K mg base CX0 (k + 1) ff fd ["one", "other"] (upSp K (sq_minus)) :=
  def_ok F sc__law_less (spQ2_len)
    (fun cdv A outer s H E hr => d__law_less (c__law_f_2 _ hr))
    (fun ds M Q hc h => body__law_less h)
theorem ok__law_pair_right {k : Nat} (F : FnP K "_law_pair_right" s__law_pair_right ff fd) (c__law_same_2 : ∀ A' : Around, Room k A' → Can P w K mg base A' "_law_same" [] (sp_like 4)) (c__law_sum_of_3 : ∀ A' : Around, Room k A' → Can P w K mg base A' "_law_sum_of" [] (sp_sum_of)) (c__law_product_of_2 : ∀ A' : Around, Room k A' → Can P w K mg base A' "_law_product_of" [] (sp_product)) (c_poly_scaled_2 : ∀ A' : Around, Room k A' → Can P w K mg base A' "poly_scaled" [] (sp_scaled)) (c_poly_timed_2 : ∀ A' : Around, Room k A' → Can P w K mg base A' "poly_timed" [] (sp_product)) (c_poly_added_2 : ∀ A' : Around, Room k A' → Can P w K mg base A' "poly_added" [] (sp_added)) (c__law_cut_1 : ∀ A' : Around, Room k A' → Can P w K mg base A' "_law_cut" [] (sp_cut)) (c__law_times_2 : ∀ A' : Around, Room k A' → Can P w K mg base A' "_law_times" [] (sq_times)) (c__law_at_2 : ∀ A' : Around, Room k A' → Can P w K mg base A' "_law_at" [] (sp_at)) (c_poly_at_2 : ∀ A' : Around, Room k A' → Can P w K mg base A' "poly_at" [] (sp_at)) (c_poly_slope_1 : ∀ A' : Around, Room k A' → Can P w K mg base A' "poly_slope" [] (sp_slope)) (c__law_plus_2 : ∀ A' : Around, Room k A' → Can P w K mg base A' "_law_plus" [] (sq_plus)) (c__law_over_2 : ∀ A' : Around, Room k A' → Can P w K mg base A' "_law_over" [] (sq_over)) (c_poly_sum_1 : ∀ A' : Around, Room k A' → Can P w K mg base A' "poly_sum" [] (sp_sum)) (c__law_less_2 : ∀ A' : Around, Room k A' → Can P w K mg base A' "_law_less" [] (sq_minus)) (n_range : mg "range" = none) (n_len : mg "len" = none) : FnOk P w K mg base CX0 (k + 1) ff fd ["heap", "one", "other", "place", "by"] (upSp K (sp_right)) :=
  def_ok F sc__law_pair_right (fun ds M Q h => by
      obtain ⟨a, b, c, d, e, rfl, _⟩ := h
      rfl)
    (fun cdv A outer s H E hr => d__law_pair_right (c__law_same_2 _ hr) (c__law_sum_of_3 _ hr) (c__law_product_of_2 _ hr) (c_poly_scaled_2 _ hr) (c_poly_timed_2 _ hr) (c_poly_added_2 _ hr) (c__law_cut_1 _ hr) (c__law_times_2 _ hr) (c__law_at_2 _ hr) (c_poly_at_2 _ hr) (c_poly_slope_1 _ hr) (c__law_plus_2 _ hr) (c__law_over_2 _ hr) (c_poly_sum_1 _ hr) (c__law_less_2 _ hr) n_range n_len)
    (fun ds M Q hc h => body_right hc h)
theorem ok_is_integer {k : Nat} (F : FnP K "is_integer" s_is_integer ff fd) (n_isinstance : mg "isinstance" = none) (n_int : mg "int" = none) (n_bool : mg "bool" = none) : FnOk P w K mg base CX0 (k + 1) ff fd ["value"] (upSp K (sp_is_integer)) :=
  def_ok F sc_is_integer (by
      intro ds M Q h
      unfold sp_is_integer at h
      split at h
      · rfl
      · exact h.elim)
    (fun cdv A outer s H E hr => d_is_integer n_isinstance n_int n_bool)
    (fun ds M Q hc h => QF.body_is_integer h)
theorem ok_is_fraction {k : Nat} (F : FnP K "is_fraction" s_is_fraction ff fd) (c_is_integer_1 : ∀ A' : Around, Room k A' → Can P w K mg base A' "is_integer" [] (sp_is_integer)) (c_divisor_of_2 : ∀ A' : Around, Room k A' → Can P w K mg base A' "divisor_of" [] (sp_divisor_of)) (n_isinstance : mg "isinstance" = none) (n_tuple : mg "tuple" = none) (n_len : mg "len" = none) : FnOk P w K mg base CX0 (k + 1) ff fd ["value"] (upSp K (sp_is_fraction)) :=
  def_ok F sc_is_fraction (by
      intro ds M Q h
      unfold sp_is_fraction at h
      split at h
      · rfl
      · exact h.elim)
    (fun cdv A outer s H E hr => d_is_fraction (c_is_integer_1 _ hr) (c_divisor_of_2 _ hr) n_isinstance n_tuple n_len hr.units)
    (fun ds M Q hc h => QF.body_is_fraction h)
theorem ok_is_polynomial {k : Nat} (F : FnP K "is_polynomial" s_is_polynomial ff fd) (c_is_fraction_1 : ∀ A' : Around, Room k A' → Can P w K mg base A' "is_fraction" [] (sp_is_fraction)) (n_isinstance : mg "isinstance" = none) (n_tuple : mg "tuple" = none) (n_all : mg "all" = none) : FnOk P w K mg base CX0 (k + 1) ff fd ["value"] (upSp K (sp_is_poly)) :=
  def_ok F sc_is_polynomial (by
      intro ds M Q h
      unfold sp_is_poly at h
      split at h
      · rfl
      · exact h.elim)
    (fun cdv A outer s H E hr => d_is_polynomial (c_is_fraction_1 _ hr) n_isinstance n_tuple n_all hr.units)
    (fun ds M Q hc h => body_is_poly h)
theorem ok__law_judged {k : Nat} (F : FnP K "_law_judged" s__law_judged ff fd) (c__law_same_2 : ∀ A' : Around, Room k A' → Can P w K mg base A' "_law_same" [] (sp_like 4)) (c_is_polynomial_1 : ∀ A' : Around, Room k A' → Can P w K mg base A' "is_polynomial" [] (sp_is_poly)) (n_list : mg "list" = none) (n_all : mg "all" = none) : FnOk P w K mg base CX0 (k + 1) ff fd ["heap", "one"] (upSp K (sp_judged)) :=
  def_ok F sc__law_judged (fun ds M Q h => by
      obtain ⟨a, b, rfl, _⟩ := h
      rfl)
    (fun cdv A outer s H E hr => d__law_judged (c__law_same_2 _ hr) (c_is_polynomial_1 _ hr) n_list n_all)
    (fun ds M Q hc h => body_judged hc h)
theorem ok_law {k : Nat} (F : FnP K "law" s_law ff fd) (c__law_heap_1 : ∀ A' : Around, Room k A' → Can P w K mg base A' "_law_heap" [] (sp_heap)) (c__law_draw_2 : ∀ A' : Around, Room k A' → Can P w K mg base A' "_law_draw" [] (sp_draw)) (c__law_poly_3 : ∀ A' : Around, Room k A' → Can P w K mg base A' "_law_poly" [] (sp_poly)) (c__law_sum_of_3 : ∀ A' : Around, Room k A' → Can P w K mg base A' "_law_sum_of" [] (sp_sum_of)) (c__law_pair_right_5 : ∀ A' : Around, Room k A' → Can P w K mg base A' "_law_pair_right" [] (sp_right)) (c__law_pick_2 : ∀ A' : Around, Room k A' → Can P w K mg base A' "_law_pick" [] (sp_pick)) (c__law_fraction_2 : ∀ A' : Around, Room k A' → Can P w K mg base A' "_law_fraction" [] (sp_fraction)) (c__law_judged_2 : ∀ A' : Around, Room k A' → Can P w K mg base A' "_law_judged" [] (sp_judged)) (n_range : mg "range" = none) (n_len : mg "len" = none) : FnOk P w K mg base CX0 (k + 1) ff fd ["script"] (upSp K (sp_law)) :=
  def_ok F sc_law (fun ds M Q h => by
      obtain ⟨ns, rfl, _⟩ := h
      rfl)
    (fun cdv A outer s H E hr => d_law (c__law_heap_1 _ hr) (c__law_draw_2 _ hr) (c__law_poly_3 _ hr) (c__law_sum_of_3 _ hr) (c__law_pair_right_5 _ hr) (c__law_pick_2 _ hr) (c__law_fraction_2 _ hr) (c__law_judged_2 _ hr) n_range n_len hr.units)
    (fun ds M Q hc h => body_law hc h)
end
def h__law_heap : He.DefD := ⟨("_law_heap", none), "_law_heap", "_law_heap", defArgs s__law_heap, defBody s__law_heap, defScope s__law_heap, [], []⟩
def h__law_draw : He.DefD := ⟨("_law_draw", none), "_law_draw", "_law_draw", defArgs s__law_draw, defBody s__law_draw, defScope s__law_draw, [], []⟩
def h__law_pick : He.DefD := ⟨("_law_pick", none), "_law_pick", "_law_pick", defArgs s__law_pick, defBody s__law_pick, defScope s__law_pick, [], []⟩
def h__law_gcd : He.DefD := ⟨("_law_gcd", none), "_law_gcd", "_law_gcd", defArgs s__law_gcd, defBody s__law_gcd, defScope s__law_gcd, [], []⟩
def h__law_f : He.DefD := ⟨("_law_f", none), "_law_f", "_law_f", defArgs s__law_f, defBody s__law_f, defScope s__law_f, [], []⟩
def h__law_fraction : He.DefD := ⟨("_law_fraction", none), "_law_fraction", "_law_fraction", defArgs s__law_fraction, defBody s__law_fraction, defScope s__law_fraction, [], []⟩
def h__law_cut : He.DefD := ⟨("_law_cut", none), "_law_cut", "_law_cut", defArgs s__law_cut, defBody s__law_cut, defScope s__law_cut, [], []⟩
def h__law_poly : He.DefD := ⟨("_law_poly", none), "_law_poly", "_law_poly", defArgs s__law_poly, defBody s__law_poly, defScope s__law_poly, [], []⟩
def h__law_plus : He.DefD := ⟨("_law_plus", none), "_law_plus", "_law_plus", defArgs s__law_plus, defBody s__law_plus, defScope s__law_plus, [], []⟩
def h__law_times : He.DefD := ⟨("_law_times", none), "_law_times", "_law_times", defArgs s__law_times, defBody s__law_times, defScope s__law_times, [], []⟩
def h__law_sum_of : He.DefD := ⟨("_law_sum_of", none), "_law_sum_of", "_law_sum_of", defArgs s__law_sum_of, defBody s__law_sum_of, defScope s__law_sum_of, [], []⟩
def h__law_same : He.DefD := ⟨("_law_same", none), "_law_same", "_law_same", defArgs s__law_same, defBody s__law_same, defScope s__law_same, [], []⟩
def h__law_product_of : He.DefD := ⟨("_law_product_of", none), "_law_product_of", "_law_product_of", defArgs s__law_product_of, defBody s__law_product_of, defScope s__law_product_of, [], []⟩
def h_poly_of : He.DefD := ⟨("poly_of", none), "poly_of", "poly_of", defArgs s_poly_of, defBody s_poly_of, defScope s_poly_of, [], []⟩
def h_divisor_of : He.DefD := ⟨("divisor_of", none), "divisor_of", "divisor_of", defArgs s_divisor_of, defBody s_divisor_of, defScope s_divisor_of, [], []⟩
def h_fraction_of : He.DefD := ⟨("fraction_of", none), "fraction_of", "fraction_of", defArgs s_fraction_of, defBody s_fraction_of, defScope s_fraction_of, [], []⟩
def h_times : He.DefD := ⟨("times", none), "times", "times", defArgs s_times, defBody s_times, defScope s_times, [], []⟩
def h_poly_scaled : He.DefD := ⟨("poly_scaled", none), "poly_scaled", "poly_scaled", defArgs s_poly_scaled, defBody s_poly_scaled, defScope s_poly_scaled, [], []⟩
def h_poly_from : He.DefD := ⟨("poly_from", none), "poly_from", "poly_from", defArgs s_poly_from, defBody s_poly_from, defScope s_poly_from, [], []⟩
def h_whole_timed : He.DefD := ⟨("whole_timed", none), "whole_timed", "whole_timed", defArgs s_whole_timed, defBody s_whole_timed, defScope s_whole_timed, [], []⟩
def h_whole_of : He.DefD := ⟨("whole_of", none), "whole_of", "whole_of", defArgs s_whole_of, defBody s_whole_of, defScope s_whole_of, [], []⟩
def h_poly_timed : He.DefD := ⟨("poly_timed", none), "poly_timed", "poly_timed", defArgs s_poly_timed, defBody s_poly_timed, defScope s_poly_timed, [], []⟩
def h_plus : He.DefD := ⟨("plus", none), "plus", "plus", defArgs s_plus, defBody s_plus, defScope s_plus, [], []⟩
def h_poly_added : He.DefD := ⟨("poly_added", none), "poly_added", "poly_added", defArgs s_poly_added, defBody s_poly_added, defScope s_poly_added, [], []⟩
def h__law_at : He.DefD := ⟨("_law_at", none), "_law_at", "_law_at", defArgs s__law_at, defBody s__law_at, defScope s__law_at, [], []⟩
def h_poly_at : He.DefD := ⟨("poly_at", none), "poly_at", "poly_at", defArgs s_poly_at, defBody s_poly_at, defScope s_poly_at, [], []⟩
def h_poly_slope : He.DefD := ⟨("poly_slope", none), "poly_slope", "poly_slope", defArgs s_poly_slope, defBody s_poly_slope, defScope s_poly_slope, [], []⟩
def h__law_over : He.DefD := ⟨("_law_over", none), "_law_over", "_law_over", defArgs s__law_over, defBody s__law_over, defScope s__law_over, [], []⟩
def h_over : He.DefD := ⟨("over", none), "over", "over", defArgs s_over, defBody s_over, defScope s_over, [], []⟩
def h_poly_sum : He.DefD := ⟨("poly_sum", none), "poly_sum", "poly_sum", defArgs s_poly_sum, defBody s_poly_sum, defScope s_poly_sum, [], []⟩
def h__law_less : He.DefD := ⟨("_law_less", none), "_law_less", "_law_less", defArgs s__law_less, defBody s__law_less, defScope s__law_less, [], []⟩
def h__law_pair_right : He.DefD := ⟨("_law_pair_right", none), "_law_pair_right", "_law_pair_right", defArgs s__law_pair_right, defBody s__law_pair_right, defScope s__law_pair_right, [], []⟩
def h_is_integer : He.DefD := ⟨("is_integer", none), "is_integer", "is_integer", defArgs s_is_integer, defBody s_is_integer, defScope s_is_integer, [], []⟩
def h_is_fraction : He.DefD := ⟨("is_fraction", none), "is_fraction", "is_fraction", defArgs s_is_fraction, defBody s_is_fraction, defScope s_is_fraction, [], []⟩
def h_is_polynomial : He.DefD := ⟨("is_polynomial", none), "is_polynomial", "is_polynomial", defArgs s_is_polynomial, defBody s_is_polynomial, defScope s_is_polynomial, [], []⟩
def h__law_judged : He.DefD := ⟨("_law_judged", none), "_law_judged", "_law_judged", defArgs s__law_judged, defBody s__law_judged, defScope s__law_judged, [], []⟩
def h_law : He.DefD := ⟨("law", none), "law", "law", defArgs s_law, defBody s_law, defScope s_law, [], []⟩
def fn : List He.DefD := [h__law_heap, h__law_draw, h__law_pick, h__law_gcd, h__law_f, h__law_fraction, h__law_cut, h__law_poly, h__law_plus, h__law_times, h__law_sum_of, h__law_same, h__law_product_of, h_poly_of, h_divisor_of, h_fraction_of, h_times, h_poly_scaled, h_poly_from, h_whole_timed, h_whole_of, h_poly_timed, h_plus, h_poly_added, h__law_at, h_poly_at, h_poly_slope, h__law_over, h_over, h_poly_sum, h__law_less, h__law_pair_right, h_is_integer, h_is_fraction, h_is_polynomial, h__law_judged, h_law]
def fa : List He.Fa := [.glo "_law_heap", .glo "_law_draw", .glo "_law_pick", .glo "_law_gcd", .glo "_law_f", .glo "_law_fraction", .glo "_law_cut", .glo "_law_poly", .glo "_law_plus", .glo "_law_times", .glo "_law_sum_of", .glo "_law_same", .glo "_law_product_of", .glo "poly_of", .glo "divisor_of", .glo "fraction_of", .glo "times", .glo "poly_scaled", .glo "poly_from", .glo "whole_timed", .glo "whole_of", .glo "poly_timed", .glo "plus", .glo "poly_added", .glo "_law_at", .glo "poly_at", .glo "poly_slope", .glo "_law_over", .glo "over", .glo "poly_sum", .glo "_law_less", .glo "_law_pair_right", .glo "is_integer", .glo "is_fraction", .glo "is_polynomial", .glo "_law_judged", .glo "law", .free "abs", .free "int", .free "len", .free "list", .free "range", .free "tuple", .free "max", .free "isinstance", .free "all", .free "str", .free "bool", .free "enumerate", .free "zip"]
def cs : List (Str × D) := [("ZERO", (.tup [(.int 0), (.int 1)]))]
abbrev R : PySem.W.OpenRow := PySem.W.OpenLaw.row PySem.Challenge.rw_slopesumskept_k15_polynomials_along_the
abbrev hk : PySem.W.Hook := hookC 4 fa cs fn
def ob (s : PySem.W.SharedT) : He.AlD := obsCG 4 fa cs fn (HandSHeadRun.getT s)
theorem ob_eq (s : PySem.W.SharedT) : ob s = hk.obs s.abs := obsCG_eq (HandSHeadRun.getT_eq s)
def loose0 : List Str := ["is_integer", "ZERO", "divisor_of", "is_fraction", "fraction_of", "plus", "times", "over", "is_polynomial", "poly_of", "poly_added", "poly_scaled", "whole_of", "whole_timed", "poly_from", "poly_timed", "poly_slope", "poly_sum", "poly_at", "_law_heap", "_law_draw", "_law_pick", "_law_same", "_law_gcd", "_law_f", "_law_plus", "_law_times", "_law_over", "_law_less", "_law_fraction"]
def loose1 : List Str := ["_law_cut", "_law_poly", "_law_sum_of", "_law_product_of", "_law_at", "_law_pair_right", "_law_judged"]
def loose : List Str := loose0 ++ loose1
theorem run (w : World) : HandSHeadRun.RunEq R (PySem.W.view R.prog [41]) hk ob 2080 loose w := by
  intro os
  kernel_rfl
theorem facts {P : Program} {w : World} {K : PySem.W.Frag} {h : Heap} {mg : Str → Option Value} {f : Addr} (X : K.In h) (G : h.Ns mainGlobals mg) (hfa : mg ("law" : Str) = some (.ref f)) (c : SaysC fa cs fn K) :
    ∃ fd : FuncData, (∀ (s : Shared) (v : Value), BindsTo s fd ⟨[v], []⟩ [("script", v)]) ∧ ∀ base : Heap, K.In base → base.Ns mainGlobals mg → FnOk P w K mg base CX0 6 f fd ["script"] (upSp K (sp_law)) := by
  obtain ⟨fd__law_heap, F__law_heap⟩ := c.d.def_ 0 (d := h__law_heap) rfl
  have m__law_heap := He.glo_ok X G (c.d.fact 0 (f := .glo "_law_heap") rfl)
  obtain ⟨fd__law_draw, F__law_draw⟩ := c.d.def_ 1 (d := h__law_draw) rfl
  have m__law_draw := He.glo_ok X G (c.d.fact 1 (f := .glo "_law_draw") rfl)
  obtain ⟨fd__law_pick, F__law_pick⟩ := c.d.def_ 2 (d := h__law_pick) rfl
  have m__law_pick := He.glo_ok X G (c.d.fact 2 (f := .glo "_law_pick") rfl)
  obtain ⟨fd__law_gcd, F__law_gcd⟩ := c.d.def_ 3 (d := h__law_gcd) rfl
  have m__law_gcd := He.glo_ok X G (c.d.fact 3 (f := .glo "_law_gcd") rfl)
  obtain ⟨fd__law_f, F__law_f⟩ := c.d.def_ 4 (d := h__law_f) rfl
  have m__law_f := He.glo_ok X G (c.d.fact 4 (f := .glo "_law_f") rfl)
  obtain ⟨fd__law_fraction, F__law_fraction⟩ := c.d.def_ 5 (d := h__law_fraction) rfl
  have m__law_fraction := He.glo_ok X G (c.d.fact 5 (f := .glo "_law_fraction") rfl)
  obtain ⟨fd__law_cut, F__law_cut⟩ := c.d.def_ 6 (d := h__law_cut) rfl
  have m__law_cut := He.glo_ok X G (c.d.fact 6 (f := .glo "_law_cut") rfl)
  obtain ⟨fd__law_poly, F__law_poly⟩ := c.d.def_ 7 (d := h__law_poly) rfl
  have m__law_poly := He.glo_ok X G (c.d.fact 7 (f := .glo "_law_poly") rfl)
  obtain ⟨fd__law_plus, F__law_plus⟩ := c.d.def_ 8 (d := h__law_plus) rfl
  have m__law_plus := He.glo_ok X G (c.d.fact 8 (f := .glo "_law_plus") rfl)
  obtain ⟨fd__law_times, F__law_times⟩ := c.d.def_ 9 (d := h__law_times) rfl
  have m__law_times := He.glo_ok X G (c.d.fact 9 (f := .glo "_law_times") rfl)
  obtain ⟨fd__law_sum_of, F__law_sum_of⟩ := c.d.def_ 10 (d := h__law_sum_of) rfl
  have m__law_sum_of := He.glo_ok X G (c.d.fact 10 (f := .glo "_law_sum_of") rfl)
  obtain ⟨fd__law_same, F__law_same⟩ := c.d.def_ 11 (d := h__law_same) rfl
  have m__law_same := He.glo_ok X G (c.d.fact 11 (f := .glo "_law_same") rfl)
  obtain ⟨fd__law_product_of, F__law_product_of⟩ := c.d.def_ 12 (d := h__law_product_of) rfl
  have m__law_product_of := He.glo_ok X G (c.d.fact 12 (f := .glo "_law_product_of") rfl)
  obtain ⟨fd_poly_of, F_poly_of⟩ := c.d.def_ 13 (d := h_poly_of) rfl
  have m_poly_of := He.glo_ok X G (c.d.fact 13 (f := .glo "poly_of") rfl)
  obtain ⟨fd_divisor_of, F_divisor_of⟩ := c.d.def_ 14 (d := h_divisor_of) rfl
  have m_divisor_of := He.glo_ok X G (c.d.fact 14 (f := .glo "divisor_of") rfl)
  obtain ⟨fd_fraction_of, F_fraction_of⟩ := c.d.def_ 15 (d := h_fraction_of) rfl
  have m_fraction_of := He.glo_ok X G (c.d.fact 15 (f := .glo "fraction_of") rfl)
  obtain ⟨fd_times, F_times⟩ := c.d.def_ 16 (d := h_times) rfl
  have m_times := He.glo_ok X G (c.d.fact 16 (f := .glo "times") rfl)
  obtain ⟨fd_poly_scaled, F_poly_scaled⟩ := c.d.def_ 17 (d := h_poly_scaled) rfl
  have m_poly_scaled := He.glo_ok X G (c.d.fact 17 (f := .glo "poly_scaled") rfl)
  obtain ⟨fd_poly_from, F_poly_from⟩ := c.d.def_ 18 (d := h_poly_from) rfl
  have m_poly_from := He.glo_ok X G (c.d.fact 18 (f := .glo "poly_from") rfl)
  obtain ⟨fd_whole_timed, F_whole_timed⟩ := c.d.def_ 19 (d := h_whole_timed) rfl
  have m_whole_timed := He.glo_ok X G (c.d.fact 19 (f := .glo "whole_timed") rfl)
  obtain ⟨fd_whole_of, F_whole_of⟩ := c.d.def_ 20 (d := h_whole_of) rfl
  have m_whole_of := He.glo_ok X G (c.d.fact 20 (f := .glo "whole_of") rfl)
  obtain ⟨fd_poly_timed, F_poly_timed⟩ := c.d.def_ 21 (d := h_poly_timed) rfl
  have m_poly_timed := He.glo_ok X G (c.d.fact 21 (f := .glo "poly_timed") rfl)
  obtain ⟨fd_plus, F_plus⟩ := c.d.def_ 22 (d := h_plus) rfl
  have m_plus := He.glo_ok X G (c.d.fact 22 (f := .glo "plus") rfl)
  obtain ⟨fd_poly_added, F_poly_added⟩ := c.d.def_ 23 (d := h_poly_added) rfl
  have m_poly_added := He.glo_ok X G (c.d.fact 23 (f := .glo "poly_added") rfl)
  obtain ⟨fd__law_at, F__law_at⟩ := c.d.def_ 24 (d := h__law_at) rfl
  have m__law_at := He.glo_ok X G (c.d.fact 24 (f := .glo "_law_at") rfl)
  obtain ⟨fd_poly_at, F_poly_at⟩ := c.d.def_ 25 (d := h_poly_at) rfl
  have m_poly_at := He.glo_ok X G (c.d.fact 25 (f := .glo "poly_at") rfl)
  obtain ⟨fd_poly_slope, F_poly_slope⟩ := c.d.def_ 26 (d := h_poly_slope) rfl
  have m_poly_slope := He.glo_ok X G (c.d.fact 26 (f := .glo "poly_slope") rfl)
  obtain ⟨fd__law_over, F__law_over⟩ := c.d.def_ 27 (d := h__law_over) rfl
  have m__law_over := He.glo_ok X G (c.d.fact 27 (f := .glo "_law_over") rfl)
  obtain ⟨fd_over, F_over⟩ := c.d.def_ 28 (d := h_over) rfl
  have m_over := He.glo_ok X G (c.d.fact 28 (f := .glo "over") rfl)
  obtain ⟨fd_poly_sum, F_poly_sum⟩ := c.d.def_ 29 (d := h_poly_sum) rfl
  have m_poly_sum := He.glo_ok X G (c.d.fact 29 (f := .glo "poly_sum") rfl)
  obtain ⟨fd__law_less, F__law_less⟩ := c.d.def_ 30 (d := h__law_less) rfl
  have m__law_less := He.glo_ok X G (c.d.fact 30 (f := .glo "_law_less") rfl)
  obtain ⟨fd__law_pair_right, F__law_pair_right⟩ := c.d.def_ 31 (d := h__law_pair_right) rfl
  have m__law_pair_right := He.glo_ok X G (c.d.fact 31 (f := .glo "_law_pair_right") rfl)
  obtain ⟨fd_is_integer, F_is_integer⟩ := c.d.def_ 32 (d := h_is_integer) rfl
  have m_is_integer := He.glo_ok X G (c.d.fact 32 (f := .glo "is_integer") rfl)
  obtain ⟨fd_is_fraction, F_is_fraction⟩ := c.d.def_ 33 (d := h_is_fraction) rfl
  have m_is_fraction := He.glo_ok X G (c.d.fact 33 (f := .glo "is_fraction") rfl)
  obtain ⟨fd_is_polynomial, F_is_polynomial⟩ := c.d.def_ 34 (d := h_is_polynomial) rfl
  have m_is_polynomial := He.glo_ok X G (c.d.fact 34 (f := .glo "is_polynomial") rfl)
  obtain ⟨fd__law_judged, F__law_judged⟩ := c.d.def_ 35 (d := h__law_judged) rfl
  have m__law_judged := He.glo_ok X G (c.d.fact 35 (f := .glo "_law_judged") rfl)
  obtain ⟨fd_law, F_law⟩ := c.d.def_ 36 (d := h_law) rfl
  have m_law := He.glo_ok X G (c.d.fact 36 (f := .glo "law") rfl)
  have n_abs := He.free_ok X G (c.d.fact 37 (f := .free "abs") rfl)
  have n_int := He.free_ok X G (c.d.fact 38 (f := .free "int") rfl)
  have n_len := He.free_ok X G (c.d.fact 39 (f := .free "len") rfl)
  have n_list := He.free_ok X G (c.d.fact 40 (f := .free "list") rfl)
  have n_range := He.free_ok X G (c.d.fact 41 (f := .free "range") rfl)
  have n_tuple := He.free_ok X G (c.d.fact 42 (f := .free "tuple") rfl)
  have n_max := He.free_ok X G (c.d.fact 43 (f := .free "max") rfl)
  have n_isinstance := He.free_ok X G (c.d.fact 44 (f := .free "isinstance") rfl)
  have n_all := He.free_ok X G (c.d.fact 45 (f := .free "all") rfl)
  have n_str := He.free_ok X G (c.d.fact 46 (f := .free "str") rfl)
  have n_bool := He.free_ok X G (c.d.fact 47 (f := .free "bool") rfl)
  have n_enumerate := He.free_ok X G (c.d.fact 48 (f := .free "enumerate") rfl)
  have n_zip := He.free_ok X G (c.d.fact 49 (f := .free "zip") rfl)
  have g_ZERO : GC K mg "ZERO" (.tup [(.int 0), (.int 1)]) := gc_ok X G (c.con 0 rfl)
  have e := hfa.symm.trans m_law
  cases e
  have b := FunD.bindsA (ps := ["script"]) F_law fun _ _ _ _ _ _ us hl => match us, hl with | [_], _ => rfl
  refine ⟨fd_law, fun s v => b s [v] rfl, fun base _ _ => ?_⟩
  have O__law_heap : FnOk P w K mg base CX0 1 (He.ga K "_law_heap") fd__law_heap ["script"] (upSp K (sp_heap)) := ok__law_heap (k := 0) F__law_heap n_abs n_int
  have C__law_heap_1 : ∀ (j : Nat) (A' : Around), 1 ≤ j → Room j A' → Can P w K mg base A' "_law_heap" [] (sp_heap) := fun j A' hk hr => can_mk O__law_heap hr hk m__law_heap F__law_heap.kp (F__law_heap.bindsN fun _ _ _ _ _ _ us hl => match us, hl with | [_], _ => rfl) .nil (fun _ => .nil) (sp_heap_mono)
  have O__law_draw : FnOk P w K mg base CX0 1 (He.ga K "_law_draw") fd__law_draw ["heap", "many"] (upSp K (sp_draw)) := ok__law_draw (k := 0) F__law_draw n_int
  have C__law_draw_2 : ∀ (j : Nat) (A' : Around), 1 ≤ j → Room j A' → Can P w K mg base A' "_law_draw" [] (sp_draw) := fun j A' hk hr => can_mk O__law_draw hr hk m__law_draw F__law_draw.kp (F__law_draw.bindsN fun _ _ _ _ _ _ us hl => match us, hl with | [_, _], _ => rfl) .nil (fun _ => .nil) (sp_draw_mono)
  have O__law_pick : FnOk P w K mg base CX0 2 (He.ga K "_law_pick") fd__law_pick ["heap", "some"] (upSp K (sp_pick)) := ok__law_pick (k := 1) F__law_pick (fun A' hr => C__law_draw_2 1 A' (by decide) hr) n_len
  have C__law_pick_2 : ∀ (j : Nat) (A' : Around), 2 ≤ j → Room j A' → Can P w K mg base A' "_law_pick" [] (sp_pick) := fun j A' hk hr => can_mk O__law_pick hr hk m__law_pick F__law_pick.kp (F__law_pick.bindsN fun _ _ _ _ _ _ us hl => match us, hl with | [_, _], _ => rfl) .nil (fun _ => .nil) (sp_pick_mono)
  have O__law_gcd : FnOk P w K mg base CX0 1 (He.ga K "_law_gcd") fd__law_gcd ["one", "other"] (upSp K (sp_divisor_of)) := ok__law_gcd (k := 0) F__law_gcd n_abs n_int
  have C__law_gcd_2 : ∀ (j : Nat) (A' : Around), 1 ≤ j → Room j A' → Can P w K mg base A' "_law_gcd" [] (sp_divisor_of) := fun j A' hk hr => can_mk O__law_gcd hr hk m__law_gcd F__law_gcd.kp (F__law_gcd.bindsN fun _ _ _ _ _ _ us hl => match us, hl with | [_, _], _ => rfl) .nil (fun _ => .nil) (sp_divisor_of_mono)
  have O__law_f : FnOk P w K mg base CX0 2 (He.ga K "_law_f") fd__law_f ["top", "bottom"] (upSp K (sp_fraction_of)) := ok__law_f (k := 1) F__law_f (fun A' hr => C__law_gcd_2 1 A' (by decide) hr)
  have C__law_f_2 : ∀ (j : Nat) (A' : Around), 2 ≤ j → Room j A' → Can P w K mg base A' "_law_f" [] (sp_fraction_of) := fun j A' hk hr => can_mk O__law_f hr hk m__law_f F__law_f.kp (F__law_f.bindsN fun _ _ _ _ _ _ us hl => match us, hl with | [_, _], _ => rfl) .nil (fun _ => .nil) (sp_fraction_of_mono)
  have O__law_fraction : FnOk P w K mg base CX0 3 (He.ga K "_law_fraction") fd__law_fraction ["heap", "most"] (upSp K (sp_fraction)) := ok__law_fraction (k := 2) F__law_fraction (fun A' hr => C__law_draw_2 2 A' (by decide) hr) (fun A' hr => C__law_f_2 2 A' (by decide) hr) (fun A' hr => C__law_pick_2 2 A' (by decide) hr)
  have C__law_fraction_2 : ∀ (j : Nat) (A' : Around), 3 ≤ j → Room j A' → Can P w K mg base A' "_law_fraction" [] (sp_fraction) := fun j A' hk hr => can_mk O__law_fraction hr hk m__law_fraction F__law_fraction.kp (F__law_fraction.bindsN fun _ _ _ _ _ _ us hl => match us, hl with | [_, _], _ => rfl) .nil (fun _ => .nil) (sp_fraction_mono)
  have O__law_cut : FnOk P w K mg base CX0 1 (He.ga K "_law_cut") fd__law_cut ["row"] (upSp K (sp_cut)) := ok__law_cut (k := 0) F__law_cut n_list n_range n_len n_tuple
  have C__law_cut_1 : ∀ (j : Nat) (A' : Around), 1 ≤ j → Room j A' → Can P w K mg base A' "_law_cut" [] (sp_cut) := fun j A' hk hr => can_mk O__law_cut hr hk m__law_cut F__law_cut.kp (F__law_cut.bindsN fun _ _ _ _ _ _ us hl => match us, hl with | [_], _ => rfl) .nil (fun _ => .nil) (sp_cut_mono)
  have O__law_poly : FnOk P w K mg base CX0 4 (He.ga K "_law_poly") fd__law_poly ["heap", "many", "most"] (upSp K (sp_poly)) := ok__law_poly (k := 3) F__law_poly (fun A' hr => C__law_draw_2 3 A' (by decide) hr) (fun A' hr => C__law_pick_2 3 A' (by decide) hr) (fun A' hr => C__law_fraction_2 3 A' (by decide) hr) (fun A' hr => C__law_cut_1 3 A' (by decide) hr) n_range
  have C__law_poly_3 : ∀ (j : Nat) (A' : Around), 4 ≤ j → Room j A' → Can P w K mg base A' "_law_poly" [] (sp_poly) := fun j A' hk hr => can_mk O__law_poly hr hk m__law_poly F__law_poly.kp (F__law_poly.bindsN fun _ _ _ _ _ _ us hl => match us, hl with | [_, _, _], _ => rfl) .nil (fun _ => .nil) (sp_poly_mono)
  have O__law_plus : FnOk P w K mg base CX0 3 (He.ga K "_law_plus") fd__law_plus ["one", "other"] (upSp K (sq_plus)) := ok__law_plus (k := 2) F__law_plus (fun A' hr => C__law_f_2 2 A' (by decide) hr)
  have C__law_plus_2 : ∀ (j : Nat) (A' : Around), 3 ≤ j → Room j A' → Can P w K mg base A' "_law_plus" [] (sq_plus) := fun j A' hk hr => can_mk O__law_plus hr hk m__law_plus F__law_plus.kp (F__law_plus.bindsN fun _ _ _ _ _ _ us hl => match us, hl with | [_, _], _ => rfl) .nil (fun _ => .nil) (spQ2_mono)
  have O__law_times : FnOk P w K mg base CX0 3 (He.ga K "_law_times") fd__law_times ["one", "other"] (upSp K (sq_times)) := ok__law_times (k := 2) F__law_times (fun A' hr => C__law_f_2 2 A' (by decide) hr)
  have C__law_times_2 : ∀ (j : Nat) (A' : Around), 3 ≤ j → Room j A' → Can P w K mg base A' "_law_times" [] (sq_times) := fun j A' hk hr => can_mk O__law_times hr hk m__law_times F__law_times.kp (F__law_times.bindsN fun _ _ _ _ _ _ us hl => match us, hl with | [_, _], _ => rfl) .nil (fun _ => .nil) (spQ2_mono)
  have O__law_sum_of : FnOk P w K mg base CX0 4 (He.ga K "_law_sum_of") fd__law_sum_of ["one", "other", "by"] (upSp K (sp_sum_of)) := ok__law_sum_of (k := 3) F__law_sum_of (fun A' hr => C__law_plus_2 3 A' (by decide) hr) (fun A' hr => C__law_times_2 3 A' (by decide) hr) (fun A' hr => C__law_cut_1 3 A' (by decide) hr) n_range n_max n_len
  have C__law_sum_of_3 : ∀ (j : Nat) (A' : Around), 4 ≤ j → Room j A' → Can P w K mg base A' "_law_sum_of" [] (sp_sum_of) := fun j A' hk hr => can_mk O__law_sum_of hr hk m__law_sum_of F__law_sum_of.kp (F__law_sum_of.bindsN fun _ _ _ _ _ _ us hl => match us, hl with | [_, _, _], _ => rfl) .nil (fun _ => .nil) (sp_sum_of_mono)
  have bb__law_same : Binds K fd__law_same ["value", "due"] [] := F__law_same.bindsN fun _ _ _ _ _ _ us hl => match us, hl with | [_, _], _ => rfl
  have OK__law_same : ∀ k : Nat, FnOk P w K mg base CX0 (k + 0) (He.ga K "_law_same") fd__law_same ["value", "due"] (upSp K (sp_like k)) := by
    intro k
    induction k with
    | zero => exact fn_no
    | succ k ih =>
      have z := ok__law_same (k := k + 0) (P := P) (w := w) (base := base) F__law_same (fun A' hr => can_mk ih hr (Nat.le_refl _) m__law_same F__law_same.kp bb__law_same .nil (fun _ => .nil) (sp_like_mono k)) n_isinstance n_tuple n_len n_all n_range n_str n_int n_bool
      rw [show k + 1 + 0 = k + 0 + 1 from by omega]
      exact z
  have O__law_same : FnOk P w K mg base CX0 4 (He.ga K "_law_same") fd__law_same ["value", "due"] (upSp K (sp_like 4)) := OK__law_same 4
  have C__law_same_2 : ∀ (j : Nat) (A' : Around), 4 ≤ j → Room j A' → Can P w K mg base A' "_law_same" [] (sp_like 4) := fun j A' hk hr => can_mk O__law_same hr hk m__law_same F__law_same.kp (F__law_same.bindsN fun _ _ _ _ _ _ us hl => match us, hl with | [_, _], _ => rfl) .nil (fun _ => .nil) (sp_like_mono 4)
  have O__law_product_of : FnOk P w K mg base CX0 4 (He.ga K "_law_product_of") fd__law_product_of ["one", "other"] (upSp K (sp_product)) := ok__law_product_of (k := 3) F__law_product_of (fun A' hr => C__law_plus_2 3 A' (by decide) hr) (fun A' hr => C__law_times_2 3 A' (by decide) hr) (fun A' hr => C__law_cut_1 3 A' (by decide) hr) n_max n_len n_range
  have C__law_product_of_2 : ∀ (j : Nat) (A' : Around), 4 ≤ j → Room j A' → Can P w K mg base A' "_law_product_of" [] (sp_product) := fun j A' hk hr => can_mk O__law_product_of hr hk m__law_product_of F__law_product_of.kp (F__law_product_of.bindsN fun _ _ _ _ _ _ us hl => match us, hl with | [_, _], _ => rfl) .nil (fun _ => .nil) (sp_product_mono)
  have O_poly_of : FnOk P w K mg base CX0 1 (He.ga K "poly_of") fd_poly_of ["row"] (upSp K (sp_poly_of)) := ok_poly_of (k := 0) F_poly_of n_len n_tuple
  have C_poly_of_1 : ∀ (j : Nat) (A' : Around), 1 ≤ j → Room j A' → Can P w K mg base A' "poly_of" [] (sp_poly_of) := fun j A' hk hr => can_mk O_poly_of hr hk m_poly_of F_poly_of.kp (F_poly_of.bindsN fun _ _ _ _ _ _ us hl => match us, hl with | [_], _ => rfl) .nil (fun _ => .nil) (sp_poly_of_mono)
  have O_divisor_of : FnOk P w K mg base CX0 1 (He.ga K "divisor_of") fd_divisor_of ["one", "other"] (upSp K (sp_divisor_of)) := ok_divisor_of (k := 0) F_divisor_of n_abs
  have C_divisor_of_2 : ∀ (j : Nat) (A' : Around), 1 ≤ j → Room j A' → Can P w K mg base A' "divisor_of" [] (sp_divisor_of) := fun j A' hk hr => can_mk O_divisor_of hr hk m_divisor_of F_divisor_of.kp (F_divisor_of.bindsN fun _ _ _ _ _ _ us hl => match us, hl with | [_, _], _ => rfl) .nil (fun _ => .nil) (sp_divisor_of_mono)
  have O_fraction_of : FnOk P w K mg base CX0 2 (He.ga K "fraction_of") fd_fraction_of ["top", "bottom"] (upSp K (sp_fraction_of)) := ok_fraction_of (k := 1) F_fraction_of (fun A' hr => C_divisor_of_2 1 A' (by decide) hr)
  have C_fraction_of_2 : ∀ (j : Nat) (A' : Around), 2 ≤ j → Room j A' → Can P w K mg base A' "fraction_of" [] (sp_fraction_of) := fun j A' hk hr => can_mk O_fraction_of hr hk m_fraction_of F_fraction_of.kp (F_fraction_of.bindsN fun _ _ _ _ _ _ us hl => match us, hl with | [_, _], _ => rfl) .nil (fun _ => .nil) (sp_fraction_of_mono)
  have O_times : FnOk P w K mg base CX0 3 (He.ga K "times") fd_times ["one", "other"] (upSp K (sq_times)) := ok_times (k := 2) F_times (fun A' hr => C_fraction_of_2 2 A' (by decide) hr)
  have C_times_2 : ∀ (j : Nat) (A' : Around), 3 ≤ j → Room j A' → Can P w K mg base A' "times" [] (sq_times) := fun j A' hk hr => can_mk O_times hr hk m_times F_times.kp (F_times.bindsN fun _ _ _ _ _ _ us hl => match us, hl with | [_, _], _ => rfl) .nil (fun _ => .nil) (spQ2_mono)
  have O_poly_scaled : FnOk P w K mg base CX0 4 (He.ga K "poly_scaled") fd_poly_scaled ["one", "fraction"] (upSp K (sp_scaled)) := ok_poly_scaled (k := 3) F_poly_scaled (fun A' hr => C_poly_of_1 3 A' (by decide) hr) (fun A' hr => C_times_2 3 A' (by decide) hr)
  have C_poly_scaled_2 : ∀ (j : Nat) (A' : Around), 4 ≤ j → Room j A' → Can P w K mg base A' "poly_scaled" [] (sp_scaled) := fun j A' hk hr => can_mk O_poly_scaled hr hk m_poly_scaled F_poly_scaled.kp (F_poly_scaled.bindsN fun _ _ _ _ _ _ us hl => match us, hl with | [_, _], _ => rfl) .nil (fun _ => .nil) (sp_scaled_mono)
  have O_poly_from : FnOk P w K mg base CX0 3 (He.ga K "poly_from") fd_poly_from ["whole"] (upSp K (sp_poly_from)) := ok_poly_from (k := 2) F_poly_from (fun A' hr => C_poly_of_1 2 A' (by decide) hr) (fun A' hr => C_fraction_of_2 2 A' (by decide) hr)
  have C_poly_from_1 : ∀ (j : Nat) (A' : Around), 3 ≤ j → Room j A' → Can P w K mg base A' "poly_from" [] (sp_poly_from) := fun j A' hk hr => can_mk O_poly_from hr hk m_poly_from F_poly_from.kp (F_poly_from.bindsN fun _ _ _ _ _ _ us hl => match us, hl with | [_], _ => rfl) .nil (fun _ => .nil) (sp_poly_from_mono)
  have O_whole_timed : FnOk P w K mg base CX0 1 (He.ga K "whole_timed") fd_whole_timed ["one", "other"] (upSp K (sp_whole_timed)) := ok_whole_timed (k := 0) F_whole_timed n_len n_enumerate
  have C_whole_timed_2 : ∀ (j : Nat) (A' : Around), 1 ≤ j → Room j A' → Can P w K mg base A' "whole_timed" [] (sp_whole_timed) := fun j A' hk hr => can_mk O_whole_timed hr hk m_whole_timed F_whole_timed.kp (F_whole_timed.bindsN fun _ _ _ _ _ _ us hl => match us, hl with | [_, _], _ => rfl) .nil (fun _ => .nil) (sp_whole_timed_mono)
  have O_whole_of : FnOk P w K mg base CX0 2 (He.ga K "whole_of") fd_whole_of ["one"] (upSp K (sp_whole_of)) := ok_whole_of (k := 1) F_whole_of (fun A' hr => C_divisor_of_2 1 A' (by decide) hr)
  have C_whole_of_1 : ∀ (j : Nat) (A' : Around), 2 ≤ j → Room j A' → Can P w K mg base A' "whole_of" [] (sp_whole_of) := fun j A' hk hr => can_mk O_whole_of hr hk m_whole_of F_whole_of.kp (F_whole_of.bindsN fun _ _ _ _ _ _ us hl => match us, hl with | [_], _ => rfl) .nil (fun _ => .nil) (sp_whole_of_mono)
  have O_poly_timed : FnOk P w K mg base CX0 4 (He.ga K "poly_timed") fd_poly_timed ["one", "other"] (upSp K (sp_product)) := ok_poly_timed (k := 3) F_poly_timed (fun A' hr => C_poly_from_1 3 A' (by decide) hr) (fun A' hr => C_whole_timed_2 3 A' (by decide) hr) (fun A' hr => C_whole_of_1 3 A' (by decide) hr)
  have C_poly_timed_2 : ∀ (j : Nat) (A' : Around), 4 ≤ j → Room j A' → Can P w K mg base A' "poly_timed" [] (sp_product) := fun j A' hk hr => can_mk O_poly_timed hr hk m_poly_timed F_poly_timed.kp (F_poly_timed.bindsN fun _ _ _ _ _ _ us hl => match us, hl with | [_, _], _ => rfl) .nil (fun _ => .nil) (sp_product_mono)
  have O_plus : FnOk P w K mg base CX0 3 (He.ga K "plus") fd_plus ["one", "other"] (upSp K (sq_plus)) := ok_plus (k := 2) F_plus (fun A' hr => C_fraction_of_2 2 A' (by decide) hr)
  have C_plus_2 : ∀ (j : Nat) (A' : Around), 3 ≤ j → Room j A' → Can P w K mg base A' "plus" [] (sq_plus) := fun j A' hk hr => can_mk O_plus hr hk m_plus F_plus.kp (F_plus.bindsN fun _ _ _ _ _ _ us hl => match us, hl with | [_, _], _ => rfl) .nil (fun _ => .nil) (spQ2_mono)
  have O_poly_added : FnOk P w K mg base CX0 4 (He.ga K "poly_added") fd_poly_added ["one", "other"] (upSp K (sp_added)) := ok_poly_added (k := 3) F_poly_added (fun A' hr => C_poly_of_1 3 A' (by decide) hr) (fun A' hr => C_plus_2 3 A' (by decide) hr) g_ZERO n_max n_len n_tuple n_zip
  have C_poly_added_2 : ∀ (j : Nat) (A' : Around), 4 ≤ j → Room j A' → Can P w K mg base A' "poly_added" [] (sp_added) := fun j A' hk hr => can_mk O_poly_added hr hk m_poly_added F_poly_added.kp (F_poly_added.bindsN fun _ _ _ _ _ _ us hl => match us, hl with | [_, _], _ => rfl) .nil (fun _ => .nil) (sp_added_mono)
  have O__law_at : FnOk P w K mg base CX0 4 (He.ga K "_law_at") fd__law_at ["one", "place"] (upSp K (sp_at)) := ok__law_at (k := 3) F__law_at (fun A' hr => C__law_times_2 3 A' (by decide) hr) (fun A' hr => C__law_plus_2 3 A' (by decide) hr)
  have C__law_at_2 : ∀ (j : Nat) (A' : Around), 4 ≤ j → Room j A' → Can P w K mg base A' "_law_at" [] (sp_at) := fun j A' hk hr => can_mk O__law_at hr hk m__law_at F__law_at.kp (F__law_at.bindsN fun _ _ _ _ _ _ us hl => match us, hl with | [_, _], _ => rfl) .nil (fun _ => .nil) (sp_at_mono)
  have O_poly_at : FnOk P w K mg base CX0 4 (He.ga K "poly_at") fd_poly_at ["one", "place"] (upSp K (sp_at)) := ok_poly_at (k := 3) F_poly_at (fun A' hr => C_plus_2 3 A' (by decide) hr) (fun A' hr => C_times_2 3 A' (by decide) hr) g_ZERO
  have C_poly_at_2 : ∀ (j : Nat) (A' : Around), 4 ≤ j → Room j A' → Can P w K mg base A' "poly_at" [] (sp_at) := fun j A' hk hr => can_mk O_poly_at hr hk m_poly_at F_poly_at.kp (F_poly_at.bindsN fun _ _ _ _ _ _ us hl => match us, hl with | [_, _], _ => rfl) .nil (fun _ => .nil) (sp_at_mono)
  have O_poly_slope : FnOk P w K mg base CX0 4 (He.ga K "poly_slope") fd_poly_slope ["one"] (upSp K (sp_slope)) := ok_poly_slope (k := 3) F_poly_slope (fun A' hr => C_poly_of_1 3 A' (by decide) hr) (fun A' hr => C_times_2 3 A' (by decide) hr) n_range n_len
  have C_poly_slope_1 : ∀ (j : Nat) (A' : Around), 4 ≤ j → Room j A' → Can P w K mg base A' "poly_slope" [] (sp_slope) := fun j A' hk hr => can_mk O_poly_slope hr hk m_poly_slope F_poly_slope.kp (F_poly_slope.bindsN fun _ _ _ _ _ _ us hl => match us, hl with | [_], _ => rfl) .nil (fun _ => .nil) (sp_slope_mono)
  have O__law_over : FnOk P w K mg base CX0 3 (He.ga K "_law_over") fd__law_over ["one", "other"] (upSp K (sq_over)) := ok__law_over (k := 2) F__law_over (fun A' hr => C__law_f_2 2 A' (by decide) hr)
  have C__law_over_2 : ∀ (j : Nat) (A' : Around), 3 ≤ j → Room j A' → Can P w K mg base A' "_law_over" [] (sq_over) := fun j A' hk hr => can_mk O__law_over hr hk m__law_over F__law_over.kp (F__law_over.bindsN fun _ _ _ _ _ _ us hl => match us, hl with | [_, _], _ => rfl) .nil (fun _ => .nil) (spQ2_mono)
  have O_over : FnOk P w K mg base CX0 3 (He.ga K "over") fd_over ["one", "other"] (upSp K (sq_over)) := ok_over (k := 2) F_over (fun A' hr => C_fraction_of_2 2 A' (by decide) hr)
  have C_over_2 : ∀ (j : Nat) (A' : Around), 3 ≤ j → Room j A' → Can P w K mg base A' "over" [] (sq_over) := fun j A' hk hr => can_mk O_over hr hk m_over F_over.kp (F_over.bindsN fun _ _ _ _ _ _ us hl => match us, hl with | [_, _], _ => rfl) .nil (fun _ => .nil) (spQ2_mono)
  have O_poly_sum : FnOk P w K mg base CX0 4 (He.ga K "poly_sum") fd_poly_sum ["one"] (upSp K (sp_sum)) := ok_poly_sum (k := 3) F_poly_sum (fun A' hr => C_plus_2 3 A' (by decide) hr) (fun A' hr => C_over_2 3 A' (by decide) hr) g_ZERO n_enumerate
  have C_poly_sum_1 : ∀ (j : Nat) (A' : Around), 4 ≤ j → Room j A' → Can P w K mg base A' "poly_sum" [] (sp_sum) := fun j A' hk hr => can_mk O_poly_sum hr hk m_poly_sum F_poly_sum.kp (F_poly_sum.bindsN fun _ _ _ _ _ _ us hl => match us, hl with | [_], _ => rfl) .nil (fun _ => .nil) (sp_sum_mono)
  have O__law_less : FnOk P w K mg base CX0 3 (He.ga K "_law_less") fd__law_less ["one", "other"] (upSp K (sq_minus)) := ok__law_less (k := 2) F__law_less (fun A' hr => C__law_f_2 2 A' (by decide) hr)
  have C__law_less_2 : ∀ (j : Nat) (A' : Around), 3 ≤ j → Room j A' → Can P w K mg base A' "_law_less" [] (sq_minus) := fun j A' hk hr => can_mk O__law_less hr hk m__law_less F__law_less.kp (F__law_less.bindsN fun _ _ _ _ _ _ us hl => match us, hl with | [_, _], _ => rfl) .nil (fun _ => .nil) (spQ2_mono)
  have O__law_pair_right : FnOk P w K mg base CX0 5 (He.ga K "_law_pair_right") fd__law_pair_right ["heap", "one", "other", "place", "by"] (upSp K (sp_right)) := ok__law_pair_right (k := 4) F__law_pair_right (fun A' hr => C__law_same_2 4 A' (by decide) hr) (fun A' hr => C__law_sum_of_3 4 A' (by decide) hr) (fun A' hr => C__law_product_of_2 4 A' (by decide) hr) (fun A' hr => C_poly_scaled_2 4 A' (by decide) hr) (fun A' hr => C_poly_timed_2 4 A' (by decide) hr) (fun A' hr => C_poly_added_2 4 A' (by decide) hr) (fun A' hr => C__law_cut_1 4 A' (by decide) hr) (fun A' hr => C__law_times_2 4 A' (by decide) hr) (fun A' hr => C__law_at_2 4 A' (by decide) hr) (fun A' hr => C_poly_at_2 4 A' (by decide) hr) (fun A' hr => C_poly_slope_1 4 A' (by decide) hr) (fun A' hr => C__law_plus_2 4 A' (by decide) hr) (fun A' hr => C__law_over_2 4 A' (by decide) hr) (fun A' hr => C_poly_sum_1 4 A' (by decide) hr) (fun A' hr => C__law_less_2 4 A' (by decide) hr) n_range n_len
  have C__law_pair_right_5 : ∀ (j : Nat) (A' : Around), 5 ≤ j → Room j A' → Can P w K mg base A' "_law_pair_right" [] (sp_right) := fun j A' hk hr => can_mk O__law_pair_right hr hk m__law_pair_right F__law_pair_right.kp (F__law_pair_right.bindsN fun _ _ _ _ _ _ us hl => match us, hl with | [_, _, _, _, _], _ => rfl) .nil (fun _ => .nil) (sp_right_mono)
  have O_is_integer : FnOk P w K mg base CX0 1 (He.ga K "is_integer") fd_is_integer ["value"] (upSp K (sp_is_integer)) := ok_is_integer (k := 0) F_is_integer n_isinstance n_int n_bool
  have C_is_integer_1 : ∀ (j : Nat) (A' : Around), 1 ≤ j → Room j A' → Can P w K mg base A' "is_integer" [] (sp_is_integer) := fun j A' hk hr => can_mk O_is_integer hr hk m_is_integer F_is_integer.kp (F_is_integer.bindsN fun _ _ _ _ _ _ us hl => match us, hl with | [_], _ => rfl) .nil (fun _ => .nil) (sp_is_integer_mono)
  have O_is_fraction : FnOk P w K mg base CX0 2 (He.ga K "is_fraction") fd_is_fraction ["value"] (upSp K (sp_is_fraction)) := ok_is_fraction (k := 1) F_is_fraction (fun A' hr => C_is_integer_1 1 A' (by decide) hr) (fun A' hr => C_divisor_of_2 1 A' (by decide) hr) n_isinstance n_tuple n_len
  have C_is_fraction_1 : ∀ (j : Nat) (A' : Around), 2 ≤ j → Room j A' → Can P w K mg base A' "is_fraction" [] (sp_is_fraction) := fun j A' hk hr => can_mk O_is_fraction hr hk m_is_fraction F_is_fraction.kp (F_is_fraction.bindsN fun _ _ _ _ _ _ us hl => match us, hl with | [_], _ => rfl) .nil (fun _ => .nil) (sp_is_fraction_mono)
  have O_is_polynomial : FnOk P w K mg base CX0 3 (He.ga K "is_polynomial") fd_is_polynomial ["value"] (upSp K (sp_is_poly)) := ok_is_polynomial (k := 2) F_is_polynomial (fun A' hr => C_is_fraction_1 2 A' (by decide) hr) n_isinstance n_tuple n_all
  have C_is_polynomial_1 : ∀ (j : Nat) (A' : Around), 3 ≤ j → Room j A' → Can P w K mg base A' "is_polynomial" [] (sp_is_poly) := fun j A' hk hr => can_mk O_is_polynomial hr hk m_is_polynomial F_is_polynomial.kp (F_is_polynomial.bindsN fun _ _ _ _ _ _ us hl => match us, hl with | [_], _ => rfl) .nil (fun _ => .nil) (sp_is_poly_mono)
  have O__law_judged : FnOk P w K mg base CX0 5 (He.ga K "_law_judged") fd__law_judged ["heap", "one"] (upSp K (sp_judged)) := ok__law_judged (k := 4) F__law_judged (fun A' hr => C__law_same_2 4 A' (by decide) hr) (fun A' hr => C_is_polynomial_1 4 A' (by decide) hr) n_list n_all
  have C__law_judged_2 : ∀ (j : Nat) (A' : Around), 5 ≤ j → Room j A' → Can P w K mg base A' "_law_judged" [] (sp_judged) := fun j A' hk hr => can_mk O__law_judged hr hk m__law_judged F__law_judged.kp (F__law_judged.bindsN fun _ _ _ _ _ _ us hl => match us, hl with | [_, _], _ => rfl) .nil (fun _ => .nil) (sp_judged_mono)
  have O_law : FnOk P w K mg base CX0 6 (He.ga K "law") fd_law ["script"] (upSp K (sp_law)) := ok_law (k := 5) F_law (fun A' hr => C__law_heap_1 5 A' (by decide) hr) (fun A' hr => C__law_draw_2 5 A' (by decide) hr) (fun A' hr => C__law_poly_3 5 A' (by decide) hr) (fun A' hr => C__law_sum_of_3 5 A' (by decide) hr) (fun A' hr => C__law_pair_right_5 5 A' (by decide) hr) (fun A' hr => C__law_pick_2 5 A' (by decide) hr) (fun A' hr => C__law_fraction_2 5 A' (by decide) hr) (fun A' hr => C__law_judged_2 5 A' (by decide) hr) n_range n_len
  exact O_law
theorem law_gives (ns : List Int) (M : Mem) (Q : DQ) (h : Q (.bl true) M) : (sp_law) [.kl (ns.map D.int)] M Q := ⟨ns, rfl, h⟩
end K15
open PySem PySem.W PySem.Calls PyProof.Rows
theorem PySem.Challenge.cw_slopesumskept_k15_polynomials_along_the_holds : PySem.Challenge.rw_slopesumskept_k15_polynomials_along_the.Holds := by
  w_on; o_law
  refine HandSHeadRun.head_any (r := OpenLaw.row PySem.Challenge.rw_slopesumskept_k15_polynomials_along_the) (q := view (OpenLaw.row PySem.Challenge.rw_slopesumskept_k15_polynomials_along_the).prog [41]) (H := K15.hk) (ob := K15.ob) (M := 2080) (loose := K15.loose) (d := HandSHeadRun.topDef (OpenLaw.row PySem.Challenge.rw_slopesumskept_k15_polynomials_along_the).prog 41) (kwd := []) K15.ob_eq
    (by kernel_rfl) (fun s => by kernel_rfl) K15.run (by kernel_rfl) (by kernel_rfl) (by kernel_rfl) (by rfl) (by first | assumption | decide +kernel) (by decide +kernel) ⟨rfl, rfl, rfl, rfl, rfl, by decide +kernel⟩ ?hw ?hc
  case hw => w_witness2
  case hc =>
    refine L2.walk_ofE (l := PySem.Challenge.rw_slopesumskept_k15_polynomials_along_the) (n := 63) (k := 6) (x := "script") (CX := L2.CX0) rfl (by decide) (by kernel_rfl) ⟨rfl, by decide, by decide⟩ ?F (fun _ _ _ _ z => z)
    intro w mg fa h Y G hmg0
    obtain ⟨K, KX, c⟩ := Y
    have hmg : mg ("law" : PySem.Str) = some (.ref fa) := by
      have e : (HandSHeadRun.topDef (OpenLaw.row PySem.Challenge.rw_slopesumskept_k15_polynomials_along_the).prog 41).name = ("law" : PySem.Str) := by kernel_rfl
      rw [← e]
      exact hmg0
    obtain ⟨fd, hb, hF⟩ := K15.facts (P := (PySem.Challenge.rw_slopesumskept_k15_polynomials_along_the).prog) (w := w) KX G hmg c
    exact ⟨K, fd, _, KX, hb, fun H a ns hl hO hS => DL.law_up K15.law_gives H a ns hO hS, hF⟩
