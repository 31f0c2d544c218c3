import PyProof.Rows.All
import Wide.All
import OpenK.AllK
import Wide.FinOn
import HandS.ForMost
import HandS.Walk
import HandS.Deep
import HandS.IsInst
import HandS.Wide
import HandS.SortInts
import HandS.Rev
import HandS.RevTup
import HandS.Exc
import PyProof.ListRange
import PyProof.FactsAll.subtypes_4
import HandS.More
import HandS.SetFor
import HandS.Conv
import HandS.Style
import HandS.Strs
import PySem.Challenge.RW_causebook_k17_rows_and_chances
set_option Elab.async false
set_option linter.all false
set_option maxRecDepth 100000
namespace Mir
open PySem PySem.Spec L2
set_option autoImplicit false
abbrev St := L2.St


/-! ## 1. what stands for plain data -/
theorem same_tup {K : PySem.W.Frag} {H H' : Hp} {a : Addr} {xs : List V} (e : Same H H') (h : SqT K H a xs) : SqT K H' a xs := by
  rcases h with (h | ⟨o, h⟩) | h
  · exact .inl (.inl (e _ _ h))
  · exact .inl (.inr ⟨o, e _ _ h⟩)
  · exact .inr h
mutual
theorem dp_mono {K : PySem.W.Frag} {H H' : Hp} (e : Same H H') : ∀ {v : V} {d : PyData}, Dp K H v d → Dp K H' v d
  | _, _, .non => .non
  | _, _, .bl b => .bl b
  | _, _, .int i => .int i
  | _, _, .str x => .str x
  | _, _, .lst h t => .lst (e.seq h) (dpAll_mono e t)
  | _, _, .tup h t => .tup (same_tup e h) (dpAll_mono e t)
theorem dpAll_mono {K : PySem.W.Frag} {H H' : Hp} (e : Same H H') : ∀ {vs : List V} {ds : List PyData}, DpAll K H vs ds → DpAll K H' vs ds
  | _, _, .nil => .nil
  | _, _, .cons h t => .cons (dp_mono e h) (dpAll_mono e t)
end
theorem dpAll_len {K : PySem.W.Frag} {H : Hp} : ∀ {vs : List V} {ds : List PyData}, DpAll K H vs ds → vs.length = ds.length
  | _, _, .nil => rfl
  | _, _, .cons _ t => by rw [List.length_cons, List.length_cons, dpAll_len t]
theorem dpAll_get {K : PySem.W.Frag} {H : Hp} : ∀ {vs : List V} {ds : List PyData} {i : Nat} {v : V}, DpAll K H vs ds → vs[i]? = some v → ∃ d, ds[i]? = some d ∧ Dp K H v d
  | _, _, _, _, .nil, h => by simp at h
  | _, _, 0, _, .cons h t, e => by
    simp at e; subst e; exact ⟨_, rfl, h⟩
  | _, _, i + 1, _, .cons h t, e => by
    obtain ⟨d, e', q⟩ := dpAll_get (i := i) t (by simpa using e)
    exact ⟨d, by simpa using e', q⟩
theorem dpAll_get' {K : PySem.W.Frag} {H : Hp} : ∀ {vs : List V} {ds : List PyData} {i : Nat} {d : PyData}, DpAll K H vs ds → ds[i]? = some d → ∃ v, vs[i]? = some v ∧ Dp K H v d
  | _, _, _, _, .nil, h => by simp at h
  | _, _, 0, _, .cons h t, e => by
    simp at e; subst e; exact ⟨_, rfl, h⟩
  | _, _, i + 1, _, .cons h t, e => by
    obtain ⟨d, e', q⟩ := dpAll_get' (i := i) t (by simpa using e)
    exact ⟨d, by simpa using e', q⟩
theorem dpAll_app {K : PySem.W.Frag} {H : Hp} : ∀ {vs ws : List V} {ds es : List PyData}, DpAll K H vs ds → DpAll K H ws es → DpAll K H (vs ++ ws) (ds ++ es)
  | _, _, _, _, .nil, s => s
  | _, _, _, _, .cons h t, s => .cons h (dpAll_app t s)
theorem dpAll_take {K : PySem.W.Frag} {H : Hp} : ∀ {vs : List V} {ds : List PyData} (n : Nat), DpAll K H vs ds → DpAll K H (vs.take n) (ds.take n)
  | _, _, 0, _ => by simp; exact .nil
  | _, _, n + 1, .nil => by simp; exact .nil
  | _, _, n + 1, .cons h t => by simp only [List.take_succ_cons]; exact .cons h (dpAll_take n t)
theorem dpAll_drop {K : PySem.W.Frag} {H : Hp} : ∀ {vs : List V} {ds : List PyData} (n : Nat), DpAll K H vs ds → DpAll K H (vs.drop n) (ds.drop n)
  | _, _, 0, h => by simpa using h
  | _, _, n + 1, .nil => by simp; exact .nil
  | _, _, n + 1, .cons h t => by simp only [List.drop_succ_cons]; exact dpAll_drop n t
theorem dpAll_set {K : PySem.W.Frag} {H : Hp} {v : V} {d : PyData} (q : Dp K H v d) : ∀ {vs : List V} {ds : List PyData} (n : Nat), DpAll K H vs ds → DpAll K H (vs.set n v) (ds.set n d)
  | _, _, _, .nil => by simp; exact .nil
  | _, _, 0, .cons h t => by simp; exact .cons q t
  | _, _, n + 1, .cons h t => by simp; exact .cons h (dpAll_set q n t)
theorem dpAll_erase {K : PySem.W.Frag} {H : Hp} : ∀ {vs : List V} {ds : List PyData} (n : Nat), DpAll K H vs ds → DpAll K H (vs.eraseIdx n) (ds.eraseIdx n)
  | _, _, _, .nil => by simp; exact .nil
  | _, _, 0, .cons h t => by simpa using t
  | _, _, n + 1, .cons h t => by simp; exact .cons h (dpAll_erase n t)
theorem dpAll_rev {K : PySem.W.Frag} {H : Hp} : ∀ {vs : List V} {ds : List PyData}, DpAll K H vs ds → DpAll K H vs.reverse ds.reverse
  | _, _, .nil => by simp; exact .nil
  | _, _, .cons h t => by rw [List.reverse_cons, List.reverse_cons]; exact dpAll_app (dpAll_rev t) (.cons h .nil)

/-- each list is within the line -/
def HLen (H : Hp) : Prop := ∀ a xs, Rd H a (.lst xs) → xs.length ≤ sizeLine
theorem HLen.seq {K : PySem.W.Frag} {H : Hp} {a : Addr} {xs : List V} (h : HLen H) (q : SqL K H a xs) : xs.length ≤ sizeLine := by
  rcases q with q | ⟨o, its, n, _, _, _, _, z, r⟩
  · exact h a xs q
  · have e := r.length
    simp only [Array.length_toList] at e
    omega
theorem HLen.upd_lst {H : Hp} {a : Addr} {xs : List V} (h : HLen H) (z : xs.length ≤ sizeLine) : HLen (upd H a (.lst xs)) := fun b ys r => by
  by_cases e : b = a
  · subst e
    rcases r with r | ⟨o, r⟩
    · rw [upd_same] at r; cases r; exact z
    · rw [upd_same] at r; cases r
  · refine h b ys ?_
    rcases r with r | ⟨o, r⟩
    · rw [upd_ne e] at r; exact .inl r
    · rw [upd_ne e] at r; exact .inr ⟨o, r⟩
theorem HLen.upd_tup {H : Hp} {a : Addr} {xs : List V} (h : HLen H) : HLen (upd H a (.tup xs)) := fun b ys r => by
  by_cases e : b = a
  · subst e
    rcases r with r | ⟨o, r⟩
    · rw [upd_same] at r; cases r
    · rw [upd_same] at r; cases r
  · refine h b ys ?_
    rcases r with r | ⟨o, r⟩
    · rw [upd_ne e] at r; exact .inl r
    · rw [upd_ne e] at r; exact .inr ⟨o, r⟩
theorem same_upd {H : Hp} {p : Addr} {o : HO} (h : H p = none) : Same H (upd H p o) := fun b x e => by
  rw [upd_ne (ne_of_none e h)]
  exact e
theorem same_upd2 {S H : Hp} {p : Addr} {o : HO} (e : Same S H) : Same (upd S p o) (upd H p o) := fun b x q => by
  by_cases z : b = p
  · subst z; rw [upd_same] at q ⊢; exact q
  · rw [upd_ne z] at q ⊢; exact e _ _ q
/-- at the right alone, where the left has nothing -/
theorem same_updR {S H : Hp} {p : Addr} {o : HO} (e : Same S H) (h : S p = none) : Same S (upd H p o) := fun b x q => by
  rw [upd_ne (ne_of_none q h)]
  exact e _ _ q

/-! ## 2. the state: slots, what they hold -/
/-- where the parts of a thing lie: anywhere (h), with what never changes (s), with what is new in this call, too (n) -/
inductive Md where | h | s | n
def Md.sel : Md → Hp → Hp → Hp → Hp
  | .h, _, _, H => H
  | .s, A, _, _ => A
  | .n, _, N, _ => N
inductive Cell where
  | v (md : Md) (d : PyData)
  | o (md : Md) (ds : List PyData)
  | p (md : Md) (dss : List (List PyData))
abbrev Ctx := List (Option Cell)
def Rows (K : PySem.W.Frag) (S H : Hp) : List Addr → List (List PyData) → Prop
  | [], [] => True
  | l :: ls, ds :: dss => (∃ vs, H l = some (.lst vs) ∧ DpAll K S vs ds) ∧ Rows K S H ls dss
  | _, _ => False
def CellOk (K : PySem.W.Frag) (A N H : Hp) (x : V) (L : List Addr) : Cell → Prop
  | .v md d => md ≠ .h ∧ Dp K (md.sel A N H) x d
  | .o md ds => md ≠ .h ∧ ∃ l vs, x = .ref l ∧ L = [l] ∧ H l = some (.lst vs) ∧ DpAll K (md.sel A N H) vs ds
  | .p md dss => md ≠ .h ∧ ∃ l ls, x = .ref l ∧ L = l :: ls ∧ H l = some (.lst (ls.map V.ref)) ∧ Rows K (md.sel A N H) H ls dss
theorem Rows.mono {K : PySem.W.Frag} {S S' H H' : Hp} (e : Same S S') (e' : Same H H') : ∀ {ls : List Addr} {dss : List (List PyData)}, Rows K S H ls dss → Rows K S' H' ls dss
  | [], [], _ => trivial
  | _ :: _, _ :: _, ⟨⟨vs, h, t⟩, r⟩ => ⟨⟨vs, e' _ _ h, dpAll_mono e t⟩, Rows.mono e e' r⟩
  | [], _ :: _, h => h.elim
  | _ :: _, [], h => h.elim
theorem Rows.at {K : PySem.W.Frag} {S H H' : Hp} : ∀ {ls : List Addr} {dss : List (List PyData)}, (∀ l ∈ ls, H' l = H l) → Rows K S H ls dss → Rows K S H' ls dss
  | [], [], _, _ => trivial
  | l :: _, _ :: _, q, ⟨⟨vs, h, t⟩, r⟩ => ⟨⟨vs, by rw [q l List.mem_cons_self]; exact h, t⟩, Rows.at (fun m hm => q m (List.mem_cons_of_mem _ hm)) r⟩
  | [], _ :: _, _, h => h.elim
  | _ :: _, [], _, h => h.elim
theorem Md.sel_mono {md : Md} {A N H A' N' H' : Hp} (sA : Same A A') (sN : Same N N') (sH : Same H H') : Same (md.sel A N H) (md.sel A' N' H') := by
  cases md <;> assumption

/-- where a def began: E all that stood, S what it was handed -/
structure Base where
  E : Hp
  S : Hp
instance : CoeFun Base (fun _ => Addr → Option HO) := ⟨Base.E⟩
instance : Coe Base Hp := ⟨Base.E⟩
/-- new, or handed in -/
abbrev Base.Fr (B : Base) (b : Addr) (o : HO) : Prop := B.E b = none ∨ B.S b = some o
/-- nothing of what stood is kept -/
abbrev bs (H : Hp) : Base := ⟨H, fun _ => none⟩
structure AtB (K : PySem.W.Frag) (H0 : Base) (A N : Hp) (W : Addr → Prop) (O : Nat → List Addr) (H : Hp) (σ : St) (Γ : Ctx) : Prop where
  na : Same N A
  ah : Same A H
  h0 : Same H0 A
  fr : ∀ b o, N b = some o → H0.Fr b o
  own : ∀ b, W b → A b = none ∧ H b ≠ none
  sub : ∀ i l, l ∈ O i → W l
  dj : ∀ i j l, l ∈ O i → l ∈ O j → i = j
  nd : ∀ i, (O i).Nodup
  hl : HLen H
  len : Γ.length = σ.length
  cs : ∀ i c, Γ[i]? = some (some c) → ∃ x, σ[i]? = some (some x) ∧ CellOk K A N H x (O i) c

section
variable {K : PySem.W.Frag} {H0 : Base} {A N A' N' : Hp} {W : Addr → Prop} {O : Nat → List Addr} {H H' : Hp} {σ : St} {Γ : Ctx} {md : Md}
theorem AtB.sel_h (a : AtB K H0 A N W O H σ Γ) : Same (md.sel A N H) H := by
  cases md
  · exact Same.refl _
  · exact a.ah
  · exact a.na.trans a.ah
theorem AtB.sel_s (a : AtB K H0 A N W O H σ Γ) (h : md ≠ .h) : Same (md.sel A N H) A := by
  cases md
  · exact absurd rfl h
  · exact Same.refl _
  · exact a.na
theorem CellOk.mono {x : V} {L : List Addr} (sA : Same A A') (sN : Same N N') (sH : Same H H') : ∀ {c : Cell}, CellOk K A N H x L c → CellOk K A' N' H' x L c
  | .v _ _, ⟨h, q⟩ => ⟨h, dp_mono (Md.sel_mono sA sN sH) q⟩
  | .o _ _, ⟨h, l, vs, e1, e2, e3, q⟩ => ⟨h, l, vs, e1, e2, sH _ _ e3, dpAll_mono (Md.sel_mono sA sN sH) q⟩
  | .p _ _, ⟨h, l, ls, e1, e2, e3, q⟩ => ⟨h, l, ls, e1, e2, sH _ _ e3, q.mono (Md.sel_mono sA sN sH) sH⟩
theorem AtB.ext (a : AtB K H0 A N W O H σ Γ) (sA : Same A A') (sN : Same N N') (sH : Same H H') (na : Same N' A') (ah : Same A' H') (fr : ∀ b o, N' b = some o → H0.Fr b o) (own : ∀ b, W b → A' b = none) (hl : HLen H') : AtB K H0 A' N' W O H' σ Γ where
  na := na
  ah := ah
  h0 := a.h0.trans sA
  fr := fr
  own := fun b w => ⟨own b w, fun z => by
    obtain ⟨_, h⟩ := a.own b w
    cases e : H b with
    | none => exact h e
    | some o => rw [sH _ _ e] at z; cases z⟩
  sub := a.sub
  dj := a.dj
  nd := a.nd
  hl := hl
  len := a.len
  cs := fun i c e => by
    obtain ⟨x, e1, q⟩ := a.cs i c e
    exact ⟨x, e1, q.mono sA sN sH⟩
theorem AtB.h0h (a : AtB K H0 A N W O H σ Γ) : Same H0 H := a.h0.trans a.ah
theorem AtB.noW (a : AtB K H0 A N W O H σ Γ) {b : Addr} (h : H b = none) : ¬ W b := fun w => (a.own b w).2 h
/-- a new object, that never changes -/
theorem AtB.alloc {p : Addr} {o : HO} (a : AtB K H0 A N W O H σ Γ) (hp : H p = none) (hl : HLen (upd H p o)) : AtB K H0 (upd A p o) (upd N p o) W O (upd H p o) σ Γ := by
  have hA : A p = none := a.ah.free hp
  have hN : N p = none := a.na.free hA
  have h00 : H0 p = none := a.h0.free hA
  refine a.ext (same_upd hA) (same_upd hN) (same_upd hp) (same_upd2 a.na) (same_upd2 a.ah) (fun b o' e => ?_) (fun b w => ?_) hl
  · by_cases z : b = p
    · subst z; exact .inl h00
    · rw [upd_ne z] at e; exact a.fr b o' e
  · have z : b ≠ p := fun z => a.noW hp (z ▸ w)
    rw [upd_ne z]; exact (a.own b w).1
/-- a new object, of its own -/
theorem AtB.allocO {p : Addr} {o : HO} (a : AtB K H0 A N W O H σ Γ) (hp : H p = none) (hl : HLen (upd H p o)) : AtB K H0 A N W O (upd H p o) σ Γ :=
  a.ext (Same.refl _) (Same.refl _) (same_upd hp) a.na (same_updR a.ah (a.ah.free hp)) a.fr (fun b w => (a.own b w).1) hl
/-- an own object becomes one that never changes -/
theorem AtB.freeze {l : Addr} {o : HO} (a : AtB K H0 A N W O H σ Γ) (hA : A l = none) (hw : ¬ W l) (hl : H l = some o) : AtB K H0 (upd A l o) (upd N l o) W O H σ Γ := by
  have hN : N l = none := a.na.free hA
  have h00 : H0 l = none := a.h0.free hA
  refine a.ext (same_upd hA) (same_upd hN) (Same.refl _) (same_upd2 a.na) (fun b x e => ?_) (fun b o' e => ?_) (fun b w => ?_) a.hl
  · by_cases z : b = l
    · subst z; rw [upd_same] at e; cases e; exact hl
    · rw [upd_ne z] at e; exact a.ah _ _ e
  · by_cases z : b = l
    · subst z; exact .inl h00
    · rw [upd_ne z] at e; exact a.fr b o' e
  · have z : b ≠ l := fun z => hw (z ▸ w)
    rw [upd_ne z]; exact (a.own b w).1
theorem AtB.reserve {l : Addr} (a : AtB K H0 A N W O H σ Γ) (hA : A l = none) (hl : H l ≠ none) : AtB K H0 A N (fun b => W b ∨ b = l) O H σ Γ :=
  { a with own := fun b w => w.elim (a.own b) (fun e => e ▸ ⟨hA, hl⟩), sub := fun i m h => .inl (a.sub i m h) }
theorem AtB.unreserve {W' : Addr → Prop} (a : AtB K H0 A N W' O H σ Γ) (h : ∀ b, W b → W' b) (hs : ∀ i l, l ∈ O i → W l) : AtB K H0 A N W O H σ Γ :=
  { a with own := fun b w => a.own b (h b w), sub := hs }
/-- a change of a reserved list -/
theorem AtB.write {l : Addr} {vs : List V} (a : AtB K H0 A N W O H σ Γ) (hw : W l) (hz : vs.length ≤ sizeLine) (hcs : ∀ i c, Γ[i]? = some (some c) → l ∈ O i → ∃ x, σ[i]? = some (some x) ∧ CellOk K A N (upd H l (.lst vs)) x (O i) c) :
    AtB K H0 A N W O (upd H l (.lst vs)) σ Γ where
  na := a.na
  ah := same_updR a.ah (a.own l hw).1
  h0 := a.h0
  fr := a.fr
  own := fun b w => ⟨(a.own b w).1, fun z => by
    by_cases e : b = l
    · subst e; rw [upd_same] at z; cases z
    · rw [upd_ne e] at z; exact (a.own b w).2 z⟩
  sub := a.sub
  dj := a.dj
  nd := a.nd
  hl := a.hl.upd_lst hz
  len := a.len
  cs := fun i c e => by
    by_cases hi : l ∈ O i
    · exact hcs i c e hi
    · obtain ⟨x, e1, q⟩ := a.cs i c e
      refine ⟨x, e1, ?_⟩
      cases c with
      | v md d =>
        obtain ⟨h, q⟩ := q
        refine ⟨h, ?_⟩
        cases md
        · exact absurd rfl h
        · exact q
        · exact q
      | o md ds =>
        obtain ⟨h, m, ws, e2, e3, e4, q⟩ := q
        have hne : m ≠ l := fun z => hi (by rw [e3, z]; exact List.mem_cons_self)
        refine ⟨h, m, ws, e2, e3, by rw [upd_ne hne]; exact e4, ?_⟩
        cases md
        · exact absurd rfl h
        · exact q
        · exact q
      | p md dss =>
        obtain ⟨h, m, ls, e2, e3, e4, q⟩ := q
        have hne : ∀ k ∈ m :: ls, k ≠ l := fun k hk z => hi (by rw [e3, ← z]; exact hk)
        refine ⟨h, m, ls, e2, e3, by rw [upd_ne (hne m List.mem_cons_self)]; exact e4, ?_⟩
        have q' := q.at (H' := upd H l (.lst vs)) fun k hk => upd_ne (hne k (List.mem_cons_of_mem _ hk))
        cases md
        · exact absurd rfl h
        · exact q'
        · exact q'
/-- less is known of the slots -/
theorem AtB.weak {Γ' : Ctx} (a : AtB K H0 A N W O H σ Γ) (hl : Γ'.length = Γ.length) (h : ∀ (i : Nat) (c : Cell), Γ'[i]? = some (some c) → Γ[i]? = some (some c)) : AtB K H0 A N W O H σ Γ' :=
  { a with len := hl.trans a.len, cs := fun i c e => a.cs i c (h i c e) }
/-- a slot is stored -/
theorem AtB.setv {i : Nat} {x : V} {d : PyData} (a : AtB K H0 A N W O H σ Γ) (hi : i < Γ.length) (h : md ≠ .h) (q : Dp K (md.sel A N H) x d) : AtB K H0 A N W O H (σ.set i (some x)) (Γ.set i (some (.v md d))) :=
  { a with
    len := by simp [a.len]
    cs := fun j c e => by
      by_cases z : j = i
      · subst z
        rw [List.getElem?_set_self hi] at e; cases e
        exact ⟨x, by rw [List.getElem?_set_self (a.len ▸ hi)], h, q⟩
      · rw [List.getElem?_set_ne (Ne.symm z)] at e
        obtain ⟨y, e1, q1⟩ := a.cs j c e
        exact ⟨y, by rw [List.getElem?_set_ne (Ne.symm z)]; exact e1, q1⟩ }
/-- a slot is stored with something of its own: the addresses L -/
theorem AtB.seto {i : Nat} {x : V} {c : Cell} {L : List Addr} (a : AtB K H0 A N W O H σ Γ) (hi : i < Γ.length) (hL : ∀ l ∈ L, ¬ W l ∧ A l = none ∧ H l ≠ none) (nd : L.Nodup) (q : CellOk K A N H x L c) :
    AtB K H0 A N (fun b => W b ∨ b ∈ L) (fun j => if j = i then L else O j) H (σ.set i (some x)) (Γ.set i (some c)) :=
  { a with
    own := fun b w => w.elim (a.own b) fun hb => (hL b hb).2
    sub := fun j l h => by
      by_cases z : j = i
      · rw [if_pos z] at h; exact .inr h
      · rw [if_neg z] at h; exact .inl (a.sub j l h)
    dj := fun j k l h1 h2 => by
      by_cases z : j = i
      · by_cases z2 : k = i
        · rw [z, z2]
        · rw [if_pos z] at h1; rw [if_neg z2] at h2
          exact absurd (a.sub k l h2) (hL l h1).1
      · by_cases z2 : k = i
        · rw [if_neg z] at h1; rw [if_pos z2] at h2
          exact absurd (a.sub j l h1) (hL l h2).1
        · rw [if_neg z] at h1; rw [if_neg z2] at h2
          exact a.dj j k l h1 h2
    nd := fun j => by
      by_cases z : j = i
      · rw [if_pos z]; exact nd
      · rw [if_neg z]; exact a.nd j
    len := by simp [a.len]
    cs := fun j c' e => by
      by_cases z : j = i
      · subst z
        rw [List.getElem?_set_self hi] at e; cases e
        exact ⟨x, by rw [List.getElem?_set_self (a.len ▸ hi)], by rw [if_pos rfl]; exact q⟩
      · rw [List.getElem?_set_ne (Ne.symm z)] at e
        obtain ⟨y, e1, q1⟩ := a.cs j c' e
        exact ⟨y, by rw [List.getElem?_set_ne (Ne.symm z)]; exact e1, by rw [if_neg z]; exact q1⟩ }
end
end Mir

namespace Mir
open PySem PySem.Spec L2
set_option autoImplicit false

/-! ## 3. data of Lean as plain data -/
class ToD (α : Type) where
  toD : α → PyData
  dep : Nat
open ToD (toD)
class LawD (α : Type) [ToD α] [DecidableEq α] : Prop where
  eqv : ∀ x y : α, PyData.eqv (toD x) (toD y) = decide (x = y)
  lay : ∀ x : α, (toD x).canLay0 = true
  depth : ∀ x : α, (toD x).depth ≤ ToD.dep α
/-- never None -/
class NotNone (α : Type) [ToD α] : Prop where
  nn : ∀ x : α, toD x ≠ .none
  l : ∀ x : α, PyData.eqv .none (toD x) = false
  r : ∀ x : α, PyData.eqv (toD x) .none = false
instance instInt : ToD Int := ⟨.int, 0⟩
instance instBool : ToD Bool := ⟨.bool, 0⟩
instance instDat : ToD PyData := ⟨id, 64⟩
instance instList {α : Type} [ToD α] : ToD (List α) := ⟨fun xs => .list (xs.map toD), ToD.dep α + 1⟩
instance instProd {α β : Type} [ToD α] [ToD β] : ToD (α × β) := ⟨fun p => .tuple [toD p.1, toD p.2], max (ToD.dep α) (ToD.dep β) + 1⟩
instance instOpt {α : Type} [ToD α] : ToD (Option α) := ⟨fun | none => .none | some a => toD a, ToD.dep α⟩
instance instUnit : ToD Unit := ⟨fun _ => .none, 0⟩
theorem toD_int (i : Int) : toD i = .int i := rfl
theorem toD_bool (i : Bool) : toD i = .bool i := rfl
theorem toD_list {α : Type} [ToD α] (xs : List α) : toD xs = .list (xs.map toD) := rfl
theorem toD_prod {α β : Type} [ToD α] [ToD β] (p : α × β) : toD p = .tuple [toD p.1, toD p.2] := rfl

instance lawInt : LawD Int where
  eqv x y := by simp only [toD, PyData.eqv]; rfl
  lay x := by simp [toD, PyData.canLay0]
  depth x := by simp [toD, PyData.depth]
instance lawBool : LawD Bool where
  eqv x y := by simp only [toD, PyData.eqv]; cases x <;> cases y <;> rfl
  lay x := by simp [toD, PyData.canLay0]
  depth x := by simp [toD, PyData.depth]
theorem eqvAll_map {α : Type} [ToD α] [DecidableEq α] [LawD α] : ∀ xs ys : List α, PyData.eqvAll (xs.map toD) (ys.map toD) = decide (xs = ys)
  | [], [] => by simp [PyData.eqvAll]
  | [], _ :: _ => by simp [PyData.eqvAll]
  | _ :: _, [] => by simp [PyData.eqvAll]
  | x :: xs, y :: ys => by
    simp only [List.map_cons, PyData.eqvAll, LawD.eqv, eqvAll_map xs ys]
    by_cases h : x = y <;> by_cases h' : xs = ys <;> simp [h, h']
theorem layAll_map {α : Type} [ToD α] [DecidableEq α] [LawD α] : ∀ xs : List α, PyData.canLayAll0 (xs.map toD) = true
  | [] => by simp [PyData.canLayAll0]
  | x :: xs => by simp [PyData.canLayAll0, LawD.lay, layAll_map xs]
theorem depthAll_map {α : Type} [ToD α] [DecidableEq α] [LawD α] : ∀ xs : List α, PyData.depthAll (xs.map toD) ≤ ToD.dep α
  | [] => by simp [PyData.depthAll]
  | x :: xs => by
    have h1 := LawD.depth x
    have h2 := depthAll_map xs
    simp only [List.map_cons, PyData.depthAll]; omega
instance lawList {α : Type} [ToD α] [DecidableEq α] [LawD α] : LawD (List α) where
  eqv xs ys := by simp only [toD, PyData.eqv]; exact eqvAll_map xs ys
  lay xs := by simp only [toD, PyData.canLay0]; exact layAll_map xs
  depth xs := by
    have := depthAll_map xs
    simp only [toD, PyData.depth, ToD.dep]; omega
instance lawProd {α β : Type} [ToD α] [DecidableEq α] [LawD α] [ToD β] [DecidableEq β] [LawD β] : LawD (α × β) where
  eqv p q := by
    obtain ⟨a, b⟩ := p; obtain ⟨c, d⟩ := q
    simp only [toD_prod, PyData.eqv, PyData.eqvAll, LawD.eqv]
    by_cases h : a = c <;> by_cases h' : b = d <;> simp [h, h']
  lay p := by simp [toD_prod, PyData.canLay0, PyData.canLayAll0, LawD.lay]
  depth p := by
    have h1 := LawD.depth p.1
    have h2 := LawD.depth p.2
    simp only [toD_prod, PyData.depth, PyData.depthAll, ToD.dep]; omega
instance nnInt : NotNone Int := ⟨fun _ => by simp [toD], fun _ => by simp [toD, PyData.eqv], fun _ => by simp [toD, PyData.eqv]⟩
instance nnBool : NotNone Bool := ⟨fun _ => by simp [toD], fun _ => by simp [toD, PyData.eqv], fun _ => by simp [toD, PyData.eqv]⟩
instance nnList {α : Type} [ToD α] : NotNone (List α) := ⟨fun _ => by simp [toD], fun _ => by simp [toD, PyData.eqv], fun _ => by simp [toD, PyData.eqv]⟩
instance nnProd {α β : Type} [ToD α] [ToD β] : NotNone (α × β) := ⟨fun _ => by simp [toD], fun _ => by simp [toD, PyData.eqv], fun _ => by simp [toD, PyData.eqv]⟩
instance lawOpt {α : Type} [ToD α] [DecidableEq α] [LawD α] [NotNone α] : LawD (Option α) where
  eqv p q := by
    cases p <;> cases q
    · simp [toD, PyData.eqv]
    · rename_i y; have := NotNone.l y; simp only [toD] at this ⊢; simpa using this
    · rename_i y; have := NotNone.r y; simp only [toD] at this ⊢; simpa using this
    · rename_i x y; have := LawD.eqv x y; simp only [toD] at this ⊢; simpa using this
  lay p := by
    cases p
    · simp [toD, PyData.canLay0]
    · rename_i x; exact LawD.lay x
  depth p := by
    cases p
    · simp [toD, PyData.depth]
    · rename_i x; exact LawD.depth x
theorem shaped_of {α : Type} [ToD α] [DecidableEq α] [LawD α] (h : ToD.dep α ≤ 64) (x : α) : SeqAt.shaped (toD x) = true := by
  have h1 := LawD.lay x
  have h2 := LawD.depth x
  unfold SeqAt.shaped
  rw [h1, Bool.true_and, decide_eq_true_eq]
  omega

/-! ## 4. expressions -/
section
variable (K : PySem.W.Frag) (H0 : Base) (Γ : Ctx)
/-- comes to a thing that stands for d; nothing that stood is changed -/
def Ev (te : TE) (md : Md) (d : PyData) : Prop :=
  ∀ ⦃A N : Hp⦄ ⦃W : Addr → Prop⦄ ⦃O : Nat → List Addr⦄ ⦃H : Hp⦄ ⦃σ : St⦄ (Q : VK), AtB K H0 A N W O H σ Γ →
    (∀ A' N' H' v, AtB K H0 A' N' W O H' σ Γ → Same A A' → Same N N' → Same H H' → Dp K (md.sel A' N' H') v d → Q v H') → te σ H Q
def EvA (ta : TA) (md : Md) (ds : List PyData) : Prop :=
  ∀ ⦃A N : Hp⦄ ⦃W : Addr → Prop⦄ ⦃O : Nat → List Addr⦄ ⦃H : Hp⦄ ⦃σ : St⦄ (Q : List V → Hp → Prop), AtB K H0 A N W O H σ Γ →
    (∀ A' N' H' vs, AtB K H0 A' N' W O H' σ Γ → Same A A' → Same N N' → Same H H' → DpAll K (md.sel A' N' H') vs ds → Q vs H') → ta σ H Q
def EvT (tt : TT) (b : Bool) : Prop :=
  ∀ ⦃A N : Hp⦄ ⦃W : Addr → Prop⦄ ⦃O : Nat → List Addr⦄ ⦃H : Hp⦄ ⦃σ : St⦄ (Q : Bool → Hp → Prop), AtB K H0 A N W O H σ Γ →
    (∀ A' N' H', AtB K H0 A' N' W O H' σ Γ → Same A A' → Same N N' → Same H H' → Q b H') → tt σ H Q
/-- comes to a new list, no one else's -/
def EvO (te : TE) (md : Md) (ds : List PyData) : Prop :=
  ∀ ⦃A N : Hp⦄ ⦃W : Addr → Prop⦄ ⦃O : Nat → List Addr⦄ ⦃H : Hp⦄ ⦃σ : St⦄ (Q : VK), AtB K H0 A N W O H σ Γ →
    (∀ A' N' H' l vs, AtB K H0 A' N' W O H' σ Γ → Same A A' → Same N N' → Same H H' → H l = none → A' l = none → ¬ W l → H' l = some (.lst vs) → DpAll K (md.sel A' N' H') vs ds → Q (.ref l) H') → te σ H Q
/-- comes to a new list of new lists, no one else's -/
def EvP (te : TE) (md : Md) (dss : List (List PyData)) : Prop :=
  ∀ ⦃A N : Hp⦄ ⦃W : Addr → Prop⦄ ⦃O : Nat → List Addr⦄ ⦃H : Hp⦄ ⦃σ : St⦄ (Q : VK), AtB K H0 A N W O H σ Γ →
    (∀ A' N' H' l ls, AtB K H0 A' N' W O H' σ Γ → Same A A' → Same N N' → Same H H' → (∀ k ∈ l :: ls, H k = none ∧ A' k = none ∧ ¬ W k) → (l :: ls).Nodup → H' l = some (.lst (ls.map V.ref)) → Rows K (md.sel A' N' H') H' ls dss → Q (.ref l) H') → te σ H Q
/-- comes to what is walked: the i-th is a thing that stands for the i-th of ds -/
def EvI (wi : TI) (md : Md) (ds : List PyData) : Prop :=
  ∀ ⦃A N : Hp⦄ ⦃W : Addr → Prop⦄ ⦃O : Nat → List Addr⦄ ⦃H : Hp⦄ ⦃σ : St⦄ (R : It → Hp → Prop), AtB K H0 A N W O H σ Γ →
    (∀ A' N' H' J G Y, AtB K H0 A' N' W O H' σ Γ → Same A A' → Same N N' → Same H H' → Walk J ds.length G Y → ds.length ≤ sizeLine → (∀ H'', Same A' H'' → G H'') →
      (∀ i A1 N1 W1 O1 H1 σ1 Γ1 x H2, AtB K H0 A1 N1 W1 O1 H1 σ1 Γ1 → Same A' A1 → Same N' N1 → i < ds.length → Y i H1 x H2 →
        ∃ A2 N2 d, AtB K H0 A2 N2 W1 O1 H2 σ1 Γ1 ∧ Same A1 A2 ∧ Same N1 N2 ∧ Same H1 H2 ∧ ds[i]? = some d ∧ Dp K (md.sel A2 N2 H2) x d) → R J H') → wi σ H R
end
section
variable {K : PySem.W.Frag} {H0 : Base} {Γ : Ctx} {ta tb te : TE} {ts : TA} {md m1 m2 : Md} {d d1 d2 : PyData} {ds es : List PyData} {i j : Int}

/-- a value that is none of the heap's things -/
def flatD : PyData → Bool
  | .none | .bool _ | .int _ | .str _ => true
  | _ => false
theorem dp_flat {S S' : Hp} {v : V} (h : flatD d = true) (q : Dp K S v d) : Dp K S' v d := by
  cases q with
  | non => exact .non
  | bl b => exact .bl b
  | int i => exact .int i
  | str x => exact .str x
  | lst _ _ => cases h
  | tup _ _ => cases h
theorem ev_flat (e : Ev K H0 Γ te m1 d) (h : flatD d = true := by rfl) : Ev K H0 Γ te md d := fun _ _ _ _ _ _ Q a k =>
  e Q a fun A' N' H' v a' sA sN sH q => k A' N' H' v a' sA sN sH (dp_flat h q)
theorem ev_h (e : Ev K H0 Γ te md d) : Ev K H0 Γ te .h d := fun _ _ _ _ _ _ Q a k =>
  e Q a fun A' N' H' v a' sA sN sH q => k A' N' H' v a' sA sN sH (dp_mono a'.sel_h q)
theorem ev_s (e : Ev K H0 Γ te .n d) : Ev K H0 Γ te .s d := fun _ _ _ _ _ _ Q a k =>
  e Q a fun A' N' H' v a' sA sN sH q => k A' N' H' v a' sA sN sH (dp_mono a'.na q)
theorem evA_h (e : EvA K H0 Γ ts md ds) : EvA K H0 Γ ts .h ds := fun _ _ _ _ _ _ Q a k =>
  e Q a fun A' N' H' v a' sA sN sH q => k A' N' H' v a' sA sN sH (dpAll_mono a'.sel_h q)
theorem evO_s (e : EvO K H0 Γ te .n ds) : EvO K H0 Γ te .s ds := fun _ _ _ _ _ _ Q a k =>
  e Q a fun A' N' H' l vs a' sA sN sH h1 h2 h3 h4 q => k A' N' H' l vs a' sA sN sH h1 h2 h3 h4 (dpAll_mono a'.na q)
theorem flatAll {S S' : Hp} : ∀ {vs : List V} {ds : List PyData}, (ds.all flatD = true) → DpAll K S vs ds → DpAll K S' vs ds
  | _, _, _, .nil => .nil
  | _, _, h, .cons q t => by
    rw [List.all_cons, Bool.and_eq_true] at h
    exact .cons (dp_flat h.1 q) (flatAll h.2 t)
theorem evO_flat (e : EvO K H0 Γ te m1 ds) (h : ds.all flatD = true) : EvO K H0 Γ te md ds := fun _ _ _ _ _ _ Q a k =>
  e Q a fun A' N' H' l vs a' sA sN sH h1 h2 h3 h4 q => k A' N' H' l vs a' sA sN sH h1 h2 h3 h4 (flatAll h q)
/-- an own list, kept as one that never changes -/
theorem evO_ev (e : EvO K H0 Γ te md ds) : Ev K H0 Γ te md (.list ds) := fun A N W O H σ Q a k => by
  refine e Q a fun A' N' H' l vs a' sA sN sH h1 h2 h3 h4 q => ?_
  have a2 := a'.freeze h2 h3 h4
  have hN : N' l = none := a'.na.free h2
  have e1 : Same A' (upd A' l (.lst vs)) := same_upd h2
  have e2 : Same N' (upd N' l (.lst vs)) := same_upd hN
  refine k _ _ H' (.ref l) a2 (sA.trans e1) (sN.trans e2) sH ?_
  cases md
  · exact .lst (.inl (.inl h4)) q
  · exact .lst (.inl (.inl upd_same)) (dpAll_mono e1 q)
  · exact .lst (.inl (.inl upd_same)) (dpAll_mono e2 q)
theorem ev_var {i : Nat} (h : Γ[i]? = some (some (.v md d)) := by rfl) : Ev K H0 Γ (tVar i) md d := fun A N W O H σ Q a k => by
  obtain ⟨x, e, _, q⟩ := a.cs i _ h
  exact ⟨x, e, k A N H x a (Same.refl _) (Same.refl _) (Same.refl _) q⟩
/-- an own list, looked at -/
theorem ev_varO {i : Nat} (h : Γ[i]? = some (some (.o md ds)) := by rfl) : Ev K H0 Γ (tVar i) .h (.list ds) := fun A N W O H σ Q a k => by
  obtain ⟨x, e, hn, l, vs, e1, e2, e3, q⟩ := a.cs i _ h
  subst e1
  exact ⟨_, e, k A N H _ a (Same.refl _) (Same.refl _) (Same.refl _) (.lst (.inl (.inl e3)) (dpAll_mono a.sel_h q))⟩
theorem rows_dp {S H : Hp} (s : Same S H) : ∀ {ls : List Addr} {dss : List (List PyData)}, Rows K S H ls dss → DpAll K H (ls.map V.ref) (dss.map PyData.list)
  | [], [], _ => .nil
  | _ :: _, _ :: _, ⟨⟨vs, h, t⟩, r⟩ => .cons (.lst (.inl (.inl h)) (dpAll_mono s t)) (rows_dp s r)
  | [], _ :: _, h => h.elim
  | _ :: _, [], h => h.elim
theorem ev_varP {i : Nat} {dss : List (List PyData)} (h : Γ[i]? = some (some (.p md dss)) := by rfl) : Ev K H0 Γ (tVar i) .h (.list (dss.map PyData.list)) := fun A N W O H σ Q a k => by
  obtain ⟨x, e, hn, l, ls, e1, e2, e3, q⟩ := a.cs i _ h
  subst e1
  exact ⟨_, e, k A N H _ a (Same.refl _) (Same.refl _) (Same.refl _) (.lst (.inl (.inl e3)) (rows_dp a.sel_h q))⟩
theorem ev_int {i : Int} : Ev K H0 Γ (tC (.int i)) md (toD i) := fun A N W O H σ Q a k => k A N H _ a (Same.refl _) (Same.refl _) (Same.refl _) (.int i)
theorem ev_bool {b : Bool} : Ev K H0 Γ (tC (.bl b)) md (toD b) := fun A N W O H σ Q a k => k A N H _ a (Same.refl _) (Same.refl _) (Same.refl _) (.bl b)
theorem ev_none : Ev K H0 Γ (tC .non) md .none := fun A N W O H σ Q a k => k A N H _ a (Same.refl _) (Same.refl _) (Same.refl _) .non
theorem ev_str {x : Str} : Ev K H0 Γ (tC (.str x)) md (.str x) := fun A N W O H σ Q a k => k A N H _ a (Same.refl _) (Same.refl _) (Same.refl _) (.str x)

/-- the two parts of an operation -/
theorem ev_op2 {r : R2} (ha : Ev K H0 Γ ta m1 d1) (hb : Ev K H0 Γ tb m2 d2)
    (hr : ∀ ⦃A N : Hp⦄ ⦃W : Addr → Prop⦄ ⦃O : Nat → List Addr⦄ ⦃H : Hp⦄ ⦃σ : St⦄ (x y : V) (Q : VK), AtB K H0 A N W O H σ Γ → Dp K (m1.sel A N H) x d1 → Dp K (m2.sel A N H) y d2 →
      (∀ A' N' H' v, AtB K H0 A' N' W O H' σ Γ → Same A A' → Same N N' → Same H H' → Dp K (md.sel A' N' H') v d → Q v H') → r x y H Q) : Ev K H0 Γ (tOp r ta tb) md d := fun A N W O H σ Q a k =>
  ha _ a fun A1 N1 H1 x a1 s1 s2 s3 q1 => hb _ a1 fun A2 N2 H2 y a2 t1 t2 t3 q2 =>
    hr x y Q a2 (dp_mono (Md.sel_mono t1 t2 t3) q1) q2 fun A3 N3 H3 v a3 u1 u2 u3 q3 => k A3 N3 H3 v a3 ((s1.trans t1).trans u1) ((s2.trans t2).trans u2) ((s3.trans t3).trans u3) q3
theorem dp_int {S : Hp} {v : V} (q : Dp K S v (.int i)) : v = .int i := by cases q; rfl
theorem dp_bool {S : Hp} {v : V} {b : Bool} (q : Dp K S v (.bool b)) : v = .bl b := by cases q; rfl
theorem dp_list {S : Hp} {v : V} (q : Dp K S v (.list ds)) : ∃ a xs, v = .ref a ∧ SqL K S a xs ∧ DpAll K S xs ds := by
  cases q with
  | lst h t => exact ⟨_, _, rfl, h, t⟩
theorem dp_tup {S : Hp} {v : V} (q : Dp K S v (.tuple ds)) : ∃ a xs, v = .ref a ∧ SqT K S a xs ∧ DpAll K S xs ds := by
  cases q with
  | tup h t => exact ⟨_, _, rfl, h, t⟩
/-- two ints, a value that hangs on nothing else -/
theorem ev_ii {C : Int → Int → Prop} {g : Int → Int → V} (ha : Ev K H0 Γ ta m1 (.int i)) (hb : Ev K H0 Γ tb m2 (.int j)) (hc : C i j) (hd : ∀ S, Dp K S (g i j) d) : Ev K H0 Γ (tOp (rI C g) ta tb) md d :=
  ev_op2 ha hb fun A N W O H σ x y Q a q1 q2 k => ⟨i, j, dp_int q1, dp_int q2, hc, k A N H _ a (Same.refl _) (Same.refl _) (Same.refl _) (hd _)⟩
theorem ev_ii0 {g : Int → Int → V} (ha : Ev K H0 Γ ta m1 (.int i)) (hb : Ev K H0 Γ tb m2 (.int j)) (hd : ∀ S, Dp K S (g i j) d) : Ev K H0 Γ (tOp (rI0 g) ta tb) md d :=
  ev_op2 ha hb fun A N W O H σ x y Q a q1 q2 k => ⟨i, j, dp_int q1, dp_int q2, k A N H _ a (Same.refl _) (Same.refl _) (Same.refl _) (hd _)⟩
theorem e_add {x y : Int} (ha : Ev K H0 Γ ta .h (toD x)) (hb : Ev K H0 Γ tb .h (toD y)) : Ev K H0 Γ (tOp (rI0 fun i j => .int (i + j)) ta tb) md (toD (x + y)) := ev_ii0 ha hb fun _ => .int _
theorem e_sub {x y : Int} (ha : Ev K H0 Γ ta .h (toD x)) (hb : Ev K H0 Γ tb .h (toD y)) : Ev K H0 Γ (tOp (rI0 fun i j => .int (i - j)) ta tb) md (toD (x - y)) := ev_ii0 ha hb fun _ => .int _
theorem e_lt {x y : Int} (ha : Ev K H0 Γ ta .h (toD x)) (hb : Ev K H0 Γ tb .h (toD y)) : Ev K H0 Γ (tOp (rI0 fun i j => .bl (decide (i < j))) ta tb) md (toD (decide (x < y))) := ev_ii0 ha hb fun _ => .bl _
theorem e_le {x y : Int} (ha : Ev K H0 Γ ta .h (toD x)) (hb : Ev K H0 Γ tb .h (toD y)) : Ev K H0 Γ (tOp (rI0 fun i j => .bl (decide (i ≤ j))) ta tb) md (toD (decide (x ≤ y))) := ev_ii0 ha hb fun _ => .bl _
theorem e_gt {x y : Int} (ha : Ev K H0 Γ ta .h (toD x)) (hb : Ev K H0 Γ tb .h (toD y)) : Ev K H0 Γ (tOp (rI0 fun i j => .bl (decide (j < i))) ta tb) md (toD (decide (y < x))) := ev_ii0 ha hb fun _ => .bl _
theorem e_ge {x y : Int} (ha : Ev K H0 Γ ta .h (toD x)) (hb : Ev K H0 Γ tb .h (toD y)) : Ev K H0 Γ (tOp (rI0 fun i j => .bl (decide (j ≤ i))) ta tb) md (toD (decide (y ≤ x))) := ev_ii0 ha hb fun _ => .bl _
/-- a product with a written number on one side -/
theorem e_mulL {x y : Int} (ha : Ev K H0 Γ ta .h (toD x)) (hb : Ev K H0 Γ tb .h (toD y)) (hc : (-(2 ^ 64) < x ∧ x < 2 ^ 64) := by decide) : Ev K H0 Γ (tOp (rI CMul fun i j => .int (i * j)) ta tb) md (toD (x * y)) := ev_ii ha hb (.inl hc) fun _ => .int _
theorem e_mulR {x y : Int} (ha : Ev K H0 Γ ta .h (toD x)) (hb : Ev K H0 Γ tb .h (toD y)) (hc : (-(2 ^ 64) < y ∧ y < 2 ^ 64) := by decide) : Ev K H0 Γ (tOp (rI CMul fun i j => .int (i * j)) ta tb) md (toD (x * y)) := ev_ii ha hb (.inr hc) fun _ => .int _
def mulO (x y : Int) : Option Int := if x.natAbs.log2 + y.natAbs.log2 < 1000000 then some (x * y) else none
theorem e_mul {x y z : Int} (ha : Ev K H0 Γ ta .h (toD x)) (hb : Ev K H0 Γ tb .h (toD y)) (h : mulO x y = some z) : Ev K H0 Γ (tOp (rI CMulW fun i j => .int (i * j)) ta tb) md (toD z) := by
  unfold mulO at h
  split at h
  · rename_i hc; cases h; exact ev_ii ha hb hc fun _ => .int _
  · cases h
def CDivX (_ j : Int) : Prop := j ≠ 0 ∧ j.natAbs.log2 < 9000
theorem op_fdivX {X : Cx} : OpR X (binaryOp .FloorDiv) (rI CDivX fun i j => .int (i.fdiv j)) := opI fun i j _ _ _ _ _ hc q =>
  PyProof.Rows.floordiv_int hc.1 q (.inl (PyProof.noPylong_of_log2 hc.2))
def divO (x y : Int) : Option Int := if y ≠ 0 ∧ y.natAbs.log2 < 9000 then some (x.fdiv y) else none
def modO (x y : Int) : Option Int := if y ≠ 0 then some (x.fmod y) else none
theorem e_div {x y z : Int} (ha : Ev K H0 Γ ta .h (toD x)) (hb : Ev K H0 Γ tb .h (toD y)) (h : divO x y = some z) : Ev K H0 Γ (tOp (rI CDivX fun i j => .int (i.fdiv j)) ta tb) md (toD z) := by
  unfold divO at h
  split at h
  · rename_i hc; cases h; exact ev_ii ha hb hc fun _ => .int _
  · cases h
theorem e_mod {x y z : Int} (ha : Ev K H0 Γ ta .h (toD x)) (hb : Ev K H0 Γ tb .h (toD y)) (h : modO x y = some z) : Ev K H0 Γ (tOp (rI (fun _ j => j ≠ 0) fun i j => .int (i.fmod j)) ta tb) md (toD z) := by
  unfold modO at h
  split at h
  · rename_i hc; cases h; exact ev_ii (C := fun _ j => j ≠ 0) ha hb hc fun _ => .int _
  · cases h
/-- by a written number above 0 -/
theorem e_divL {x y : Int} (ha : Ev K H0 Γ ta .h (toD x)) (hb : Ev K H0 Γ tb .h (toD y)) (h : (0 < y ∧ y.natAbs.log2 < 9000) := by decide +kernel) : Ev K H0 Γ (tOp (rI CDivX fun i j => .int (i.fdiv j)) ta tb) md (toD (x / y)) := by
  rw [← Int.fdiv_eq_ediv_of_nonneg x (by omega)]
  exact ev_ii ha hb ⟨by omega, h.2⟩ fun _ => .int _
theorem e_modL {x y : Int} (ha : Ev K H0 Γ ta .h (toD x)) (hb : Ev K H0 Γ tb .h (toD y)) (h : 0 < y := by decide +kernel) : Ev K H0 Γ (tOp (rI (fun _ j => j ≠ 0) fun i j => .int (i.fmod j)) ta tb) md (toD (x % y)) := by
  rw [← Int.fmod_eq_emod_of_nonneg x (by omega)]
  exact ev_ii (C := fun _ j => j ≠ 0) ha hb (by omega) fun _ => .int _
theorem e_pow {x y z : Int} (ha : Ev K H0 Γ ta .h (toD x)) (hb : Ev K H0 Γ tb .h (toD y)) (hc : (0 ≤ y ∧ y ≤ 1000000 ∧ x.natAbs < 2 ^ 64) := by decide) (hz : x ^ y.toNat = z := by rfl) : Ev K H0 Γ (tOp (rI CPow fun i j => .int (i ^ j.toNat)) ta tb) md (toD z) := by
  subst hz
  exact ev_ii ha hb hc fun _ => .int _
theorem ev_un {r : V → Hp → VK → Prop} (ha : Ev K H0 Γ ta m1 d1)
    (hr : ∀ ⦃A N : Hp⦄ ⦃W : Addr → Prop⦄ ⦃O : Nat → List Addr⦄ ⦃H : Hp⦄ ⦃σ : St⦄ (x : V) (Q : VK), AtB K H0 A N W O H σ Γ → Dp K (m1.sel A N H) x d1 →
      (∀ A' N' H' v, AtB K H0 A' N' W O H' σ Γ → Same A A' → Same N N' → Same H H' → Dp K (md.sel A' N' H') v d → Q v H') → r x H Q) : Ev K H0 Γ (tUn r ta) md d := fun A N W O H σ Q a k =>
  ha _ a fun A1 N1 H1 x a1 s1 s2 s3 q1 => hr x Q a1 q1 fun A3 N3 H3 v a3 u1 u2 u3 q3 => k A3 N3 H3 v a3 (s1.trans u1) (s2.trans u2) (s3.trans u3) q3
theorem e_neg {x : Int} (ha : Ev K H0 Γ ta .h (toD x)) : Ev K H0 Γ (tUn (rU fun i => .int (-i)) ta) md (toD (-x)) :=
  ev_un ha fun A N W O H σ v Q a q k => ⟨x, dp_int q, k A N H _ a (Same.refl _) (Same.refl _) (Same.refl _) (.int _)⟩
/-- ==, != of any data -/
theorem e_eq {α : Type} [ToD α] [DecidableEq α] [LawD α] {x y : α} (ha : Ev K H0 Γ ta .h (toD x)) (hb : Ev K H0 Γ tb .h (toD y)) (h : ToD.dep α ≤ 64 := by decide) : Ev K H0 Γ (tOp (rEqD K) ta tb) md (toD (decide (x = y))) :=
  ev_op2 ha hb fun A N W O H σ v w Q a q1 q2 k => ⟨toD x, toD y, dp_mono a.sel_h q1, dp_mono a.sel_h q2, shaped_of h x, shaped_of h y, by rw [LawD.eqv]; exact k A N H _ a (Same.refl _) (Same.refl _) (Same.refl _) (.bl _)⟩
theorem e_ne {α : Type} [ToD α] [DecidableEq α] [LawD α] {x y : α} (ha : Ev K H0 Γ ta .h (toD x)) (hb : Ev K H0 Γ tb .h (toD y)) (h : ToD.dep α ≤ 64 := by decide) : Ev K H0 Γ (tOp (rNeD K) ta tb) md (toD (!decide (x = y))) :=
  ev_op2 ha hb fun A N W O H σ v w Q a q1 q2 k => ⟨toD x, toD y, dp_mono a.sel_h q1, dp_mono a.sel_h q2, shaped_of h x, shaped_of h y, by rw [LawD.eqv]; exact k A N H _ a (Same.refl _) (Same.refl _) (Same.refl _) (.bl _)⟩
theorem any_eqv {α : Type} [ToD α] [DecidableEq α] [LawD α] (x : α) : ∀ xs : List α, ((xs.map toD).any fun z => PyData.eqv z (toD x)) = decide (x ∈ xs)
  | [] => by simp
  | y :: ys => by
    rw [List.map_cons, List.any_cons, LawD.eqv, any_eqv x ys]
    by_cases h : y = x
    · subst h; simp
    · have h' : ¬ x = y := fun e => h e.symm
      simp [h, h']
theorem e_in {α : Type} [ToD α] [DecidableEq α] [LawD α] {x : α} {xs : List α} (ha : Ev K H0 Γ ta .h (toD x)) (hb : Ev K H0 Γ tb .h (toD xs)) (h : ToD.dep α + 1 ≤ 64 := by decide) : Ev K H0 Γ (tOp (rInD K) ta tb) md (toD (decide (x ∈ xs))) :=
  ev_op2 ha hb fun A N W O H σ v w Q a q1 q2 k => ⟨toD x, xs.map toD, dp_mono a.sel_h q1, dp_mono a.sel_h q2, shaped_of (by omega) x, shaped_of (α := List α) h xs, by rw [any_eqv]; exact k A N H _ a (Same.refl _) (Same.refl _) (Same.refl _) (.bl _)⟩
theorem e_notin {α : Type} [ToD α] [DecidableEq α] [LawD α] {x : α} {xs : List α} (ha : Ev K H0 Γ ta .h (toD x)) (hb : Ev K H0 Γ tb .h (toD xs)) (h : ToD.dep α + 1 ≤ 64 := by decide) : Ev K H0 Γ (tOp (rNotInD K) ta tb) md (toD (!decide (x ∈ xs))) :=
  ev_op2 ha hb fun A N W O H σ v w Q a q1 q2 k => ⟨toD x, xs.map toD, dp_mono a.sel_h q1, dp_mono a.sel_h q2, shaped_of (by omega) x, shaped_of (α := List α) h xs, by rw [any_eqv]; exact k A N H _ a (Same.refl _) (Same.refl _) (Same.refl _) (.bl _)⟩
/-- is None -/
def rIsN : R2 := fun x y H Q => y = .non ∧ Q (.bl (decide (x = .non))) H
def rIsNotN : R2 := fun x y H Q => y = .non ∧ Q (.bl (!decide (x = .non))) H
theorem op_isN' {X : Cx} : OpR X (compareOp .Is) rIsN := op_isN
theorem op_notN' {X : Cx} : OpR X (compareOp .IsNot) rIsNotN := op_notN
theorem dp_none {S : Hp} {v : V} (q : Dp K S v .none) : v = .non := by cases q; rfl
theorem dp_nn {S : Hp} {v : V} {d : PyData} (h : d ≠ .none) (q : Dp K S v d) : v ≠ .non := by
  cases q <;> first | exact absurd rfl h | (intro z; cases z)
theorem none_iff {α : Type} [ToD α] [NotNone α] {S : Hp} {v : V} {x : Option α} (q : Dp K S v (toD x)) : decide (v = .non) = x.isNone := by
  cases x with
  | none => rw [dp_none q]; rfl
  | some x => simpa using dp_nn (NotNone.nn x) q
theorem e_isN {α : Type} [ToD α] [NotNone α] {x : Option α} (ha : Ev K H0 Γ ta .h (toD x)) : Ev K H0 Γ (tOp rIsN ta (tC .non)) md (toD x.isNone) :=
  ev_op2 ha (ev_none (md := .h)) fun A N W O H σ v w Q a q1 q2 k => ⟨dp_none q2, by rw [none_iff q1]; exact k A N H _ a (Same.refl _) (Same.refl _) (Same.refl _) (.bl _)⟩
theorem e_notN {α : Type} [ToD α] [NotNone α] {x : Option α} (ha : Ev K H0 Γ ta .h (toD x)) : Ev K H0 Γ (tOp rIsNotN ta (tC .non)) md (toD (!x.isNone)) :=
  ev_op2 ha (ev_none (md := .h)) fun A N W O H σ v w Q a q1 q2 k => ⟨dp_none q2, by rw [none_iff q1]; exact k A N H _ a (Same.refl _) (Same.refl _) (Same.refl _) (.bl _)⟩
/-- a thing that may be None and isn't -/
theorem e_some {α : Type} [ToD α] {x : Option α} {a : α} (h : x = some a) (ha : Ev K H0 Γ ta md (toD x)) : Ev K H0 Γ ta md (toD a) := by
  subst h; exact ha
theorem e_toSome {α : Type} [ToD α] {a : α} (ha : Ev K H0 Γ ta md (toD a)) : Ev K H0 Γ ta md (toD (some a)) := ha
theorem e_noneO {α : Type} [ToD α] : Ev K H0 Γ (tC .non) md (toD (none : Option α)) := ev_none

/-! ### and, or, not, tests -/
theorem e_notV {x : Bool} (ha : Ev K H0 Γ ta .h (toD x)) : Ev K H0 Γ (tNotV ta) md (toD (!x)) := fun A N W O H σ Q a k =>
  ha _ a fun A1 N1 H1 v a1 s1 s2 s3 q1 => ⟨x, dp_bool q1, k A1 N1 H1 _ a1 s1 s2 s3 (.bl _)⟩
theorem e_andV {x y : Bool} (ha : Ev K H0 Γ ta .h (toD x)) (hb : x = true → Ev K H0 Γ tb .h (toD y)) : Ev K H0 Γ (tAndV ta tb) md (toD (x && y)) := fun A N W O H σ Q a k =>
  ha _ a fun A1 N1 H1 v a1 s1 s2 s3 q1 => ⟨x, dp_bool q1, by
    cases x with
    | false => rw [if_neg Bool.false_ne_true]; exact k A1 N1 H1 _ a1 s1 s2 s3 (.bl false)
    | true =>
      rw [if_pos rfl]
      exact ev_flat (md := md) (hb rfl) rfl _ a1 fun A2 N2 H2 w a2 t1 t2 t3 q2 => k A2 N2 H2 w a2 (s1.trans t1) (s2.trans t2) (s3.trans t3) (by rw [Bool.true_and]; exact q2)⟩
theorem e_orV {x y : Bool} (ha : Ev K H0 Γ ta .h (toD x)) (hb : x = false → Ev K H0 Γ tb .h (toD y)) : Ev K H0 Γ (tOrV ta tb) md (toD (x || y)) := fun A N W O H σ Q a k =>
  ha _ a fun A1 N1 H1 v a1 s1 s2 s3 q1 => ⟨x, dp_bool q1, by
    cases x with
    | true => rw [if_pos rfl]; exact k A1 N1 H1 _ a1 s1 s2 s3 (.bl true)
    | false =>
      rw [if_neg Bool.false_ne_true]
      exact ev_flat (md := md) (hb rfl) rfl _ a1 fun A2 N2 H2 w a2 t1 t2 t3 q2 => k A2 N2 H2 w a2 (s1.trans t1) (s2.trans t2) (s3.trans t3) (by rw [Bool.false_or]; exact q2)⟩
variable {tt tu : TT} {x y : Bool}
theorem t_val (ha : Ev K H0 Γ ta .h (toD x)) : EvT K H0 Γ (tB ta) x := fun A N W O H σ Q a k =>
  ha _ a fun A1 N1 H1 v a1 s1 s2 s3 q1 => ⟨x, dp_bool q1, k A1 N1 H1 a1 s1 s2 s3⟩
theorem t_cmp (ha : Ev K H0 Γ ta .h (toD x)) : EvT K H0 Γ (tTest ta) x := fun A N W O H σ Q a k =>
  ha _ a fun A1 N1 H1 v a1 s1 s2 s3 q1 => ⟨x, dp_bool q1, k A1 N1 H1 a1 s1 s2 s3⟩
theorem t_not (ha : EvT K H0 Γ tt x) : EvT K H0 Γ (tNot tt) (!x) := fun A N W O H σ Q a k =>
  ha _ a fun A1 N1 H1 a1 s1 s2 s3 => k A1 N1 H1 a1 s1 s2 s3
theorem t_and (ha : EvT K H0 Γ tt x) (hb : x = true → EvT K H0 Γ tu y) : EvT K H0 Γ (tAnd tt tu) (x && y) := fun A N W O H σ Q a k =>
  ha _ a fun A1 N1 H1 a1 s1 s2 s3 => by
    cases x with
    | false => rw [if_neg Bool.false_ne_true]; exact k A1 N1 H1 a1 s1 s2 s3
    | true =>
      rw [if_pos rfl]
      exact hb rfl _ a1 fun A2 N2 H2 a2 t1 t2 t3 => by
        have := k A2 N2 H2 a2 (s1.trans t1) (s2.trans t2) (s3.trans t3)
        rwa [Bool.true_and] at this
theorem t_or (ha : EvT K H0 Γ tt x) (hb : x = false → EvT K H0 Γ tu y) : EvT K H0 Γ (tOr tt tu) (x || y) := fun A N W O H σ Q a k =>
  ha _ a fun A1 N1 H1 a1 s1 s2 s3 => by
    cases x with
    | true => rw [if_pos rfl]; exact k A1 N1 H1 a1 s1 s2 s3
    | false =>
      rw [if_neg Bool.false_ne_true]
      exact hb rfl _ a1 fun A2 N2 H2 a2 t1 t2 t3 => by
        have := k A2 N2 H2 a2 (s1.trans t1) (s2.trans t2) (s3.trans t3)
        rwa [Bool.false_or] at this
/-- where the right side may come to no value: what is asked of it only where it is asked -/
def andO (x : Bool) (y : Option Bool) : Option Bool := if x = true then y else some false
def orO (x : Bool) (y : Option Bool) : Option Bool := if x = true then some true else y
theorem e_andO {z : Bool} {oy : Option Bool} (ha : Ev K H0 Γ ta .h (toD x)) (hb : x = true → ∀ y, oy = some y → Ev K H0 Γ tb .h (toD y)) (h : andO x oy = some z) : Ev K H0 Γ (tAndV ta tb) md (toD z) := by
  cases x with
  | false =>
    have e : z = (false && false) := (Option.some.inj h).symm
    rw [e]; exact e_andV ha fun q => by cases q
  | true =>
    have h' : oy = some z := h
    have := e_andV (md := md) ha fun q => hb rfl z h'
    rwa [Bool.true_and] at this
theorem e_orO {z : Bool} {oy : Option Bool} (ha : Ev K H0 Γ ta .h (toD x)) (hb : x = false → ∀ y, oy = some y → Ev K H0 Γ tb .h (toD y)) (h : orO x oy = some z) : Ev K H0 Γ (tOrV ta tb) md (toD z) := by
  cases x with
  | true =>
    have e : z = (true || true) := (Option.some.inj h).symm
    rw [e]; exact e_orV ha fun q => by cases q
  | false =>
    have h' : oy = some z := h
    have := e_orV (md := md) ha fun q => hb rfl z h'
    rwa [Bool.false_or] at this
theorem t_andO {z : Bool} {oy : Option Bool} (ha : EvT K H0 Γ tt x) (hb : x = true → ∀ y, oy = some y → EvT K H0 Γ tu y) (h : andO x oy = some z) : EvT K H0 Γ (tAnd tt tu) z := by
  cases x with
  | false =>
    have e : z = (false && false) := (Option.some.inj h).symm
    rw [e]; exact t_and ha fun q => by cases q
  | true =>
    have h' : oy = some z := h
    have := t_and ha fun q => hb rfl z h'
    rwa [Bool.true_and] at this
theorem t_orO {z : Bool} {oy : Option Bool} (ha : EvT K H0 Γ tt x) (hb : x = false → ∀ y, oy = some y → EvT K H0 Γ tu y) (h : orO x oy = some z) : EvT K H0 Γ (tOr tt tu) z := by
  cases x with
  | true =>
    have e : z = (true || true) := (Option.some.inj h).symm
    rw [e]; exact t_or ha fun q => by cases q
  | false =>
    have h' : oy = some z := h
    have := t_or ha fun q => hb rfl z h'
    rwa [Bool.false_or] at this
def iteO {α : Type} (x : Bool) (a b : Option α) : Option α := if x = true then a else b
theorem e_ite {α : Type} [ToD α] {a b : Option α} {z : α} (ht : EvT K H0 Γ tt x) (ha : ∀ y, a = some y → Ev K H0 Γ ta md (toD y)) (hb : ∀ y, b = some y → Ev K H0 Γ tb md (toD y)) (h : iteO x a b = some z) : Ev K H0 Γ (tIf tt ta tb) md (toD z) := fun A N W O H σ Q a' k =>
  ht _ a' fun A1 N1 H1 a1 s1 s2 s3 => by
    cases x with
    | true => rw [if_pos rfl]; exact ha z h _ a1 fun A2 N2 H2 v a2 t1 t2 t3 q => k A2 N2 H2 v a2 (s1.trans t1) (s2.trans t2) (s3.trans t3) q
    | false => rw [if_neg Bool.false_ne_true]; exact hb z h _ a1 fun A2 N2 H2 v a2 t1 t2 t3 q => k A2 N2 H2 v a2 (s1.trans t1) (s2.trans t2) (s3.trans t3) q

/-! ### argument lists, displays, calls -/
theorem a_nil : EvA K H0 Γ tNil md [] := fun A N W O H σ Q a k => k A N H _ a (Same.refl _) (Same.refl _) (Same.refl _) .nil
theorem a_cons (ha : Ev K H0 Γ te md d) (hs : EvA K H0 Γ ts md ds) : EvA K H0 Γ (tCons te ts) md (d :: ds) := fun A N W O H σ Q a k =>
  ha _ a fun A1 N1 H1 v a1 s1 s2 s3 q1 => hs _ a1 fun A2 N2 H2 vs a2 t1 t2 t3 q2 => k A2 N2 H2 _ a2 (s1.trans t1) (s2.trans t2) (s3.trans t3) (.cons (dp_mono (Md.sel_mono t1 t2 t3) q1) q2)
theorem o_lst (hs : EvA K H0 Γ ts md ds) (hz : ds.length ≤ sizeLine := by first | exact Nat.zero_le _ | (simp only [List.length_cons, List.length_nil]; decide)) : EvO K H0 Γ (tLst ts) md ds := fun A N W O H σ Q a k =>
  hs _ a fun A1 N1 H1 vs a1 s1 s2 s3 q1 => by
    have hz' : vs.length ≤ sizeLine := by rw [dpAll_len q1]; exact hz
    refine ⟨hz', fun p hp => ?_⟩
    have hl := a1.hl.upd_lst (a := p) hz'
    have a2 := a1.allocO hp hl
    exact k A1 N1 _ p vs a2 s1 s2 (s3.trans (same_upd hp)) (s3.free hp) (a1.ah.free hp) (a1.noW hp) upd_same (dpAll_mono (Md.sel_mono (Same.refl _) (Same.refl _) (same_upd hp)) q1)
theorem e_tup (hs : EvA K H0 Γ ts md ds) (hz : ds.length ≤ sizeLine := by first | exact Nat.zero_le _ | (simp only [List.length_cons, List.length_nil]; decide)) : Ev K H0 Γ (tTup ts) md (.tuple ds) := fun A N W O H σ Q a k =>
  hs _ a fun A1 N1 H1 vs a1 s1 s2 s3 q1 => by
    refine ⟨by rw [dpAll_len q1]; exact hz, fun p hp => ?_⟩
    have a2 := a1.alloc (o := .tup vs) hp a1.hl.upd_tup
    have hA := a1.ah.free hp
    have hN := a1.na.free hA
    refine k _ _ _ (.ref p) a2 (s1.trans (same_upd hA)) (s2.trans (same_upd hN)) (s3.trans (same_upd hp)) ?_
    cases md
    · exact .tup (.inl (.inl upd_same)) (dpAll_mono (same_upd hp) q1)
    · exact .tup (.inl (.inl upd_same)) (dpAll_mono (same_upd hA) q1)
    · exact .tup (.inl (.inl upd_same)) (dpAll_mono (same_upd hN) q1)
theorem e_pair {α β : Type} [ToD α] [ToD β] {a : α} {b : β} (hs : EvA K H0 Γ ts md [toD a, toD b]) : Ev K H0 Γ (tTup ts) md (toD (a, b)) := e_tup hs
end

/-! ### defs: what is promised -/
/-- f of arguments that stand for ds comes to a new thing that stands for r, and leaves what stood -/
def FnS (K : PySem.W.Frag) (pre : List PyData → PyData → Prop) : Sp := fun vs H Q _ => ∃ ds r, DpAll K H vs ds ∧ pre ds r ∧
  ∀ v N H', Same H H' → (∀ b o, N b = some o → H b = none) → Same N H' → HLen H' → Dp K N v r → Q v H'
/-- .. to a new list, the caller's own -/
def FnO (K : PySem.W.Frag) (pre : List PyData → List PyData → Prop) : Sp := fun vs H Q _ => ∃ ds rs, DpAll K H vs ds ∧ pre ds rs ∧
  ∀ l ws N H', Same H H' → (∀ b o, N b = some o → H b = none) → Same N H' → HLen H' → H l = none → N l = none → H' l = some (.lst ws) → DpAll K N ws rs → Q (.ref l) H'
/-- .. to a new list of new lists -/
def FnP (K : PySem.W.Frag) (pre : List PyData → List (List PyData) → Prop) : Sp := fun vs H Q _ => ∃ ds rss, DpAll K H vs ds ∧ pre ds rss ∧
  ∀ l ls N H', Same H H' → (∀ b o, N b = some o → H b = none) → Same N H' → HLen H' → (∀ k ∈ l :: ls, H k = none ∧ N k = none) → (l :: ls).Nodup → H' l = some (.lst (ls.map V.ref)) → Rows K N H' ls rss → Q (.ref l) H'
/-- the union, the left first -/
def uni (A N : Hp) : Hp := fun b => match A b with | some o => some o | none => N b
theorem uni_l {A N : Hp} : Same A (uni A N) := fun b o e => by unfold uni; rw [e]
theorem uni_none {A N : Hp} {b : Addr} (h : A b = none) (h' : N b = none) : uni A N b = none := by unfold uni; rw [h]; exact h'
theorem uni_into {A N H : Hp} (a : Same A H) (n : Same N H) : Same (uni A N) H := fun b o e => by
  unfold uni at e
  cases q : A b with
  | some u => rw [q] at e; cases e; exact a _ _ q
  | none => rw [q] at e; exact n _ _ e
theorem uni_r {A N : Hp} (h : ∀ b o, N b = some o → A b = none) : Same N (uni A N) := fun b o e => by
  unfold uni; rw [h b o e]; exact e
theorem uni_mono {A N A' : Hp} (h : Same A A') (hn : ∀ b o, N b = some o → A' b = none) : Same (uni A N) (uni A' N) := fun b o e => by
  unfold uni at e
  cases q : A b with
  | some u => rw [q] at e; cases e; exact uni_l _ _ (h _ _ q)
  | none => rw [q] at e; exact uni_r hn _ _ e
section
variable {K : PySem.W.Frag} {H0 : Base} {Γ : Ctx} {ts : TA} {md : Md} {ds : List PyData}
/-- what a callee has made is new here, too -/
theorem AtB.called {A N : Hp} {W : Addr → Prop} {O : Nat → List Addr} {H : Hp} {σ : St} {M H' : Hp} (a : AtB K H0 A N W O H σ Γ) (sH : Same H H') (fr : ∀ b o, M b = some o → H b = none) (sM : Same M H') (hl : HLen H') :
    AtB K H0 (uni A M) (uni N M) W O H' σ Γ ∧ Same A (uni A M) ∧ Same N (uni N M) ∧ Same M (uni N M) ∧ Same M (uni A M) := by
  have fA : ∀ b o, M b = some o → A b = none := fun b o e => a.ah.free (fr b o e)
  have fN : ∀ b o, M b = some o → N b = none := fun b o e => a.na.free (fA b o e)
  refine ⟨a.ext uni_l uni_l sH (uni_mono a.na fA) (uni_into (a.ah.trans sH) sM) (fun b o e => ?_) (fun b w => ?_) hl, uni_l, uni_l, uni_r fN, uni_r fA⟩
  · unfold uni at e
    cases q : N b with
    | some u => rw [q] at e; cases e; exact a.fr b _ q
    | none => rw [q] at e; exact .inl (a.h0h.free (fr b o e))
  · refine uni_none (a.own b w).1 ?_
    cases q : M b with
    | none => rfl
    | some o => exact absurd (fr b o q) (a.own b w).2
theorem dp_n {S N A H : Hp} {v : V} {d : PyData} {md : Md} (hn : Same S N) (ha : Same S A) (hh : Same S H) (q : Dp K S v d) : Dp K (md.sel A N H) v d := by
  cases md
  · exact dp_mono hh q
  · exact dp_mono ha q
  · exact dp_mono hn q
theorem dpAll_n {S N A H : Hp} {vs : List V} {ds : List PyData} {md : Md} (hn : Same S N) (ha : Same S A) (hh : Same S H) (q : DpAll K S vs ds) : DpAll K (md.sel A N H) vs ds := by
  cases md
  · exact dpAll_mono hh q
  · exact dpAll_mono ha q
  · exact dpAll_mono hn q
theorem e_call {pre : List PyData → PyData → Prop} {E : XK} {r : PyData} (hs : EvA K H0 Γ ts .h ds) (hp : pre ds r) : Ev K H0 Γ (tCall (FnS K pre) [] E ts) md r := fun A N W O H σ Q a k =>
  hs _ a fun A1 N1 H1 vs a1 s1 s2 s3 q1 => by
    refine ⟨ds, r, by rw [List.append_nil]; exact q1, hp, fun v M H' sH fr sM hl qv => ?_⟩
    obtain ⟨a2, u1, u2, u3, u4⟩ := a1.called sH fr sM hl
    exact k _ _ H' v a2 (s1.trans u1) (s2.trans u2) (s3.trans sH) (dp_n u3 u4 sM qv)
theorem o_call {pre : List PyData → List PyData → Prop} {E : XK} {rs : List PyData} (hs : EvA K H0 Γ ts .h ds) (hp : pre ds rs) : EvO K H0 Γ (tCall (FnO K pre) [] E ts) md rs := fun A N W O H σ Q a k =>
  hs _ a fun A1 N1 H1 vs a1 s1 s2 s3 q1 => by
    refine ⟨ds, rs, by rw [List.append_nil]; exact q1, hp, fun l ws M H' sH fr sM hl hn hN hw qv => ?_⟩
    obtain ⟨a2, u1, u2, u3, u4⟩ := a1.called sH fr sM hl
    exact k _ _ H' l ws a2 (s1.trans u1) (s2.trans u2) (s3.trans sH) (s3.free hn) (uni_none (a1.ah.free hn) hN) (a1.noW hn) hw (dpAll_n u3 u4 sM qv)
theorem Rows_n {S N A H HH : Hp} {ls : List Addr} {dss : List (List PyData)} {md : Md} (hn : Same S N) (ha : Same S A) (hh : Same S H) (q : Rows K S HH ls dss) : Rows K (md.sel A N H) HH ls dss := by
  cases md
  · exact q.mono hh (Same.refl _)
  · exact q.mono ha (Same.refl _)
  · exact q.mono hn (Same.refl _)
theorem p_call {pre : List PyData → List (List PyData) → Prop} {E : XK} {rss : List (List PyData)} (hs : EvA K H0 Γ ts .h ds) (hp : pre ds rss) : EvP K H0 Γ (tCall (FnP K pre) [] E ts) md rss := fun A N W O H σ Q a k =>
  hs _ a fun A1 N1 H1 vs a1 s1 s2 s3 q1 => by
    refine ⟨ds, rss, by rw [List.append_nil]; exact q1, hp, fun l ls M H' sH fr sM hl hn nd hw qv => ?_⟩
    obtain ⟨a2, u1, u2, u3, u4⟩ := a1.called sH fr sM hl
    exact k _ _ H' l ls a2 (s1.trans u1) (s2.trans u2) (s3.trans sH) (fun b hb => ⟨s3.free (hn b hb).1, uni_none (a1.ah.free (hn b hb).1) (hn b hb).2, a1.noW (hn b hb).1⟩) nd hw (Rows_n u3 u4 sM qv)
end
end Mir

namespace Mir
open PySem PySem.Spec L2
open ToD (toD)
set_option autoImplicit false

/-! ## 5. sequences -/
abbrev lim : Nat := 16777216
theorem lim_eq : sizeLine = lim := by decide
theorem ixN_lt {n : Nat} {i : Int} {j : Nat} (h : ixN n i = some j) : j < n := (ixN_seq h).2.1
theorem atI_map {α β : Type} (f : α → β) (xs : List α) (i : Int) : atI (xs.map f) i = (atI xs i).map f := by
  unfold atI
  rw [List.length_map]
  cases h : ixN xs.length i with
  | none => rfl
  | some j => simp
theorem dpAll_atI {K : PySem.W.Frag} {S : Hp} {vs : List V} {ds : List PyData} {i : Int} {d : PyData} (q : DpAll K S vs ds) (h : atI ds i = some d) : ∃ v, atI vs i = some v ∧ Dp K S v d := by
  unfold atI at h ⊢
  rw [dpAll_len q]
  cases e : ixN ds.length i with
  | none => rw [e] at h; cases h
  | some j =>
    rw [e] at h
    exact dpAll_get' q h
theorem cut_map {α : Type} (f : α → PyData) (xs : List α) (lo hi : Option Int) :
    ((xs.map f).drop (HT.sIx (xs.map f).length 0 lo)).take (HT.sIx (xs.map f).length (xs.map f).length hi - HT.sIx (xs.map f).length 0 lo) = ((xs.drop (HT.sIx xs.length 0 lo)).take (HT.sIx xs.length xs.length hi - HT.sIx xs.length 0 lo)).map f := by
  rw [List.length_map, List.map_take, List.map_drop]
/-- xs[lo:hi] -/
def cut {α : Type} (xs : List α) (lo hi : Option Int) : List α := (xs.drop (HT.sIx xs.length 0 lo)).take (HT.sIx xs.length xs.length hi - HT.sIx xs.length 0 lo)
section
variable {K : PySem.W.Frag} {H0 : Base} {Γ : Ctx} {ta tb te : TE} {ts : TA} {md m1 m2 : Md} {d d1 d2 : PyData} {ds es : List PyData} {i j : Int}
theorem e_idx {α : Type} [ToD α] {xs : List α} {i : Int} {a : α} (ha : Ev K H0 Γ ta md (toD xs)) (hb : Ev K H0 Γ tb .h (toD i)) (h : atI xs i = some a) : Ev K H0 Γ (tOp (rIxL K) ta tb) md (toD a) :=
  ev_op2 ha hb fun A N W O H σ x y Q at' q1 q2 k => by
    obtain ⟨p, vs, rfl, hS, hA⟩ := dp_list q1
    have h' : atI (xs.map toD) i = some (toD a) := by rw [atI_map, h]; rfl
    obtain ⟨v, hv, hd⟩ := dpAll_atI hA h'
    exact ⟨p, vs, i, v, rfl, dp_int q2, at'.sel_h.seq hS, hv, k A N H v at' (Same.refl _) (Same.refl _) (Same.refl _) hd⟩
theorem e_idxT {i : Int} (ha : Ev K H0 Γ ta md (.tuple ds)) (hb : Ev K H0 Γ tb .h (toD i)) (h : atI ds i = some d) : Ev K H0 Γ (tOp (rIxT K) ta tb) md d :=
  ev_op2 ha hb fun A N W O H σ x y Q at' q1 q2 k => by
    obtain ⟨p, vs, rfl, hS, hA⟩ := dp_tup q1
    obtain ⟨v, hv, hd⟩ := dpAll_atI hA h
    exact ⟨p, vs, i, v, rfl, dp_int q2, same_tup at'.sel_h hS, hv, k A N H v at' (Same.refl _) (Same.refl _) (Same.refl _) hd⟩
theorem e_fst {α β : Type} [ToD α] [ToD β] {p : α × β} (ha : Ev K H0 Γ ta md (toD p)) : Ev K H0 Γ (tOp (rIxT K) ta (tC (.int 0))) md (toD p.1) := e_idxT (ds := [toD p.1, toD p.2]) ha (ev_int (md := .h)) rfl
theorem e_snd {α β : Type} [ToD α] [ToD β] {p : α × β} (ha : Ev K H0 Γ ta md (toD p)) : Ev K H0 Γ (tOp (rIxT K) ta (tC (.int 1))) md (toD p.2) := e_idxT (ds := [toD p.1, toD p.2]) ha (ev_int (md := .h)) rfl

/-! ### built-ins -/
theorem e_cb {r : List V → Hp → VK → Prop} (hs : EvA K H0 Γ ts m1 ds)
    (hr : ∀ ⦃A N : Hp⦄ ⦃W : Addr → Prop⦄ ⦃O : Nat → List Addr⦄ ⦃H : Hp⦄ ⦃σ : St⦄ (vs : List V) (Q : VK), AtB K H0 A N W O H σ Γ → DpAll K (m1.sel A N H) vs ds →
      (∀ A' N' H' v, AtB K H0 A' N' W O H' σ Γ → Same A A' → Same N N' → Same H H' → Dp K (md.sel A' N' H') v d → Q v H') → r vs H Q) : Ev K H0 Γ (tCB r ts) md d := fun A N W O H σ Q a k =>
  hs _ a fun A1 N1 H1 vs a1 s1 s2 s3 q1 => hr vs Q a1 q1 fun A3 N3 H3 v a3 u1 u2 u3 q3 => k A3 N3 H3 v a3 (s1.trans u1) (s2.trans u2) (s3.trans u3) q3
theorem o_cb {r : List V → Hp → VK → Prop} (hs : EvA K H0 Γ ts m1 ds)
    (hr : ∀ ⦃A N : Hp⦄ ⦃W : Addr → Prop⦄ ⦃O : Nat → List Addr⦄ ⦃H : Hp⦄ ⦃σ : St⦄ (vs : List V) (Q : VK), AtB K H0 A N W O H σ Γ → DpAll K (m1.sel A N H) vs ds →
      (∀ p ws, H p = none → ws.length ≤ sizeLine → DpAll K (md.sel A N H) ws es → Q (.ref p) (upd H p (.lst ws))) → r vs H Q) : EvO K H0 Γ (tCB r ts) md es := fun A N W O H σ Q a k =>
  hs _ a fun A1 N1 H1 vs a1 s1 s2 s3 q1 => hr vs Q a1 q1 fun p ws hp hz q => by
    have hl := a1.hl.upd_lst (a := p) hz
    exact k A1 N1 _ p ws (a1.allocO hp hl) s1 s2 (s3.trans (same_upd hp)) (s3.free hp) (a1.ah.free hp) (a1.noW hp) upd_same (dpAll_mono (Md.sel_mono (Same.refl _) (Same.refl _) (same_upd hp)) q)
theorem dpAll_one {S : Hp} {vs : List V} (q : DpAll K S vs [d]) : ∃ v, vs = [v] ∧ Dp K S v d := by
  cases q with
  | cons h t => cases t; exact ⟨_, rfl, h⟩
theorem dpAll_two {S : Hp} {vs : List V} (q : DpAll K S vs [d1, d2]) : ∃ v w, vs = [v, w] ∧ Dp K S v d1 ∧ Dp K S w d2 := by
  cases q with
  | cons h t =>
    cases t with
    | cons h2 t => cases t; exact ⟨_, _, rfl, h, h2⟩
def rLenS (K : PySem.W.Frag) : List V → Hp → VK → Prop := fun xs H Q => ∃ p ys, xs = [.ref p] ∧ (SqL K H p ys ∨ SqT K H p ys) ∧ Q (.int ys.length) H
theorem call_lenS {X : Cx} : CallR X (.builtin "len") (rLenS X.K) := call_len_seq
theorem e_len {α : Type} [ToD α] {xs : List α} (ha : Ev K H0 Γ ta .h (toD xs)) : Ev K H0 Γ (tCB (rLenS K) (tCons ta tNil)) md (toD (xs.length : Int)) :=
  e_cb (a_cons ha a_nil) fun A N W O H σ vs Q a q k => by
    obtain ⟨v, rfl, q'⟩ := dpAll_one q
    obtain ⟨p, ws, rfl, hS, hA⟩ := dp_list q'
    have e : ws.length = xs.length := by rw [dpAll_len hA, List.length_map]
    exact ⟨p, ws, rfl, .inl (a.sel_h.seq hS), by rw [e]; exact k A N H _ a (Same.refl _) (Same.refl _) (Same.refl _) (.int _)⟩
theorem e_lenT (ha : Ev K H0 Γ ta .h (.tuple ds)) : Ev K H0 Γ (tCB (rLenS K) (tCons ta tNil)) md (toD (ds.length : Int)) :=
  e_cb (a_cons ha a_nil) fun A N W O H σ vs Q a q k => by
    obtain ⟨v, rfl, q'⟩ := dpAll_one q
    obtain ⟨p, ws, rfl, hS, hA⟩ := dp_tup q'
    exact ⟨p, ws, rfl, .inr (same_tup a.sel_h hS), by rw [dpAll_len hA]; exact k A N H _ a (Same.refl _) (Same.refl _) (Same.refl _) (.int _)⟩
def rListS (K : PySem.W.Frag) : List V → Hp → VK → Prop := fun xs H Q => ∃ p ys, xs = [.ref p] ∧ (SqL K H p ys ∨ SqT K H p ys) ∧ ∀ l, H l = none → Q (.ref l) (upd H l (.lst ys))
theorem call_listS {X : Cx} : CallR X (.type "list") (rListS X.K) := call_list_of
theorem o_list {α : Type} [ToD α] {xs : List α} (ha : Ev K H0 Γ ta md (toD xs)) : EvO K H0 Γ (tCB (rListS K) (tCons ta tNil)) md (xs.map toD) :=
  o_cb (a_cons ha a_nil) fun A N W O H σ vs Q a q k => by
    obtain ⟨v, rfl, q'⟩ := dpAll_one q
    obtain ⟨p, ws, rfl, hS, hA⟩ := dp_list q'
    exact ⟨p, ws, rfl, .inl (a.sel_h.seq hS), fun l hl => k l ws hl (a.hl.seq (a.sel_h.seq hS)) hA⟩
theorem ints_of {S : Hp} : ∀ {vs : List V} {ns : List Int}, DpAll K S vs (ns.map toD) → vs = ns.map V.int
  | [], [], _ => rfl
  | v :: vs, n :: ns, .cons h t => by rw [dp_int h, ints_of t]; rfl
  | [], _ :: _, h => by cases h
  | _ :: _, [], h => by cases h
theorem ints_to {S : Hp} : ∀ {ns : List Int}, DpAll K S (ns.map V.int) (ns.map toD)
  | [] => .nil
  | _ :: _ => .cons (.int _) ints_to
theorem bools_of {S : Hp} : ∀ {vs : List V} {ns : List Bool}, DpAll K S vs (ns.map toD) → vs = ns.map V.bl
  | [], [], _ => rfl
  | v :: vs, n :: ns, .cons h t => by rw [dp_bool h, bools_of t]; rfl
  | [], _ :: _, h => by cases h
  | _ :: _, [], h => by cases h
theorem dp_ints {S : Hp} {v : V} {ns : List Int} (q : Dp K S v (toD ns)) : ∃ a, v = .ref a ∧ SqL K S a (ns.map V.int) := by
  obtain ⟨p, vs, rfl, hS, hA⟩ := dp_list q
  rw [ints_of hA] at hS
  exact ⟨p, rfl, hS⟩
theorem dp_bools {S : Hp} {v : V} {ns : List Bool} (q : Dp K S v (toD ns)) : ∃ a, v = .ref a ∧ SqL K S a (ns.map V.bl) := by
  obtain ⟨p, vs, rfl, hS, hA⟩ := dp_list q
  rw [bools_of hA] at hS
  exact ⟨p, rfl, hS⟩
theorem e_sum {ns : List Int} (ha : Ev K H0 Γ ta .h (toD ns)) : Ev K H0 Γ (tCB (rSum K) (tCons ta tNil)) md (toD ns.sum) :=
  e_cb (a_cons ha a_nil) fun A N W O H σ vs Q a q k => by
    obtain ⟨v, rfl, q'⟩ := dpAll_one q
    obtain ⟨p, rfl, hS⟩ := dp_ints q'
    exact ⟨p, ns, rfl, a.sel_h.seq hS, k A N H _ a (Same.refl _) (Same.refl _) (Same.refl _) (.int _)⟩
theorem e_any {bs : List Bool} (ha : Ev K H0 Γ ta .h (toD bs)) : Ev K H0 Γ (tCB (rAny K) (tCons ta tNil)) md (toD (bs.any id)) :=
  e_cb (a_cons ha a_nil) fun A N W O H σ vs Q a q k => by
    obtain ⟨v, rfl, q'⟩ := dpAll_one q
    obtain ⟨p, rfl, hS⟩ := dp_bools q'
    exact ⟨p, bs, rfl, a.sel_h.seq hS, k A N H _ a (Same.refl _) (Same.refl _) (Same.refl _) (.bl _)⟩
theorem e_all {bs : List Bool} (ha : Ev K H0 Γ ta .h (toD bs)) : Ev K H0 Γ (tCB (rAll K) (tCons ta tNil)) md (toD (bs.all id)) :=
  e_cb (a_cons ha a_nil) fun A N W O H σ vs Q a q k => by
    obtain ⟨v, rfl, q'⟩ := dpAll_one q
    obtain ⟨p, rfl, hS⟩ := dp_bools q'
    exact ⟨p, bs, rfl, a.sel_h.seq hS, k A N H _ a (Same.refl _) (Same.refl _) (Same.refl _) (.bl _)⟩
/-- the greatest, the least of a list that has one -/
def maxO : List Int → Option Int
  | [] => none
  | x :: xs => some (xs.foldl max x)
def minO : List Int → Option Int
  | [] => none
  | x :: xs => some (xs.foldl min x)
theorem foldl_max_ge : ∀ (xs : List Int) (x : Int), x ≤ xs.foldl max x ∧ (∀ y ∈ xs, y ≤ xs.foldl max x) ∧ (xs.foldl max x = x ∨ xs.foldl max x ∈ xs)
  | [], x => ⟨Int.le_refl _, by simp, .inl rfl⟩
  | y :: ys, x => by
    obtain ⟨h1, h2, h3⟩ := foldl_max_ge ys (max x y)
    simp only [List.foldl_cons]
    refine ⟨by omega, fun z hz => ?_, ?_⟩
    · rcases List.mem_cons.mp hz with rfl | hz
      · omega
      · exact h2 z hz
    · rcases h3 with h3 | h3
      · rcases Int.le_total x y with h | h
        · right; rw [h3, Int.max_eq_right h]; exact List.mem_cons_self
        · left; rw [h3, Int.max_eq_left h]
      · right; exact List.mem_cons_of_mem _ h3
theorem foldl_min_le : ∀ (xs : List Int) (x : Int), xs.foldl min x ≤ x ∧ (∀ y ∈ xs, xs.foldl min x ≤ y) ∧ (xs.foldl min x = x ∨ xs.foldl min x ∈ xs)
  | [], x => ⟨Int.le_refl _, by simp, .inl rfl⟩
  | y :: ys, x => by
    obtain ⟨h1, h2, h3⟩ := foldl_min_le ys (min x y)
    simp only [List.foldl_cons]
    refine ⟨by omega, fun z hz => ?_, ?_⟩
    · rcases List.mem_cons.mp hz with rfl | hz
      · omega
      · exact h2 z hz
    · rcases h3 with h3 | h3
      · rcases Int.le_total x y with h | h
        · left; rw [h3, Int.min_eq_left h]
        · right; rw [h3, Int.min_eq_right h]; exact List.mem_cons_self
      · right; exact List.mem_cons_of_mem _ h3
theorem maxO_spec {xs : List Int} {m : Int} (h : maxO xs = some m) : m ∈ xs ∧ ∀ y ∈ xs, y ≤ m := by
  cases xs with
  | nil => cases h
  | cons x xs =>
    cases h
    obtain ⟨h1, h2, h3⟩ := foldl_max_ge xs x
    refine ⟨?_, fun y hy => ?_⟩
    · rcases h3 with h3 | h3
      · rw [h3]; exact List.mem_cons_self
      · exact List.mem_cons_of_mem _ h3
    · rcases List.mem_cons.mp hy with rfl | hy
      · exact h1
      · exact h2 y hy
theorem minO_spec {xs : List Int} {m : Int} (h : minO xs = some m) : m ∈ xs ∧ ∀ y ∈ xs, m ≤ y := by
  cases xs with
  | nil => cases h
  | cons x xs =>
    cases h
    obtain ⟨h1, h2, h3⟩ := foldl_min_le xs x
    refine ⟨?_, fun y hy => ?_⟩
    · rcases h3 with h3 | h3
      · rw [h3]; exact List.mem_cons_self
      · exact List.mem_cons_of_mem _ h3
    · rcases List.mem_cons.mp hy with rfl | hy
      · exact h1
      · exact h2 y hy
theorem e_max {ns : List Int} {m : Int} (ha : Ev K H0 Γ ta .h (toD ns)) (h : maxO ns = some m) : Ev K H0 Γ (tCB (rMax K) (tCons ta tNil)) md (toD m) :=
  e_cb (a_cons ha a_nil) fun A N W O H σ vs Q a q k => by
    obtain ⟨v, rfl, q'⟩ := dpAll_one q
    obtain ⟨p, rfl, hS⟩ := dp_ints q'
    obtain ⟨g1, g2⟩ := maxO_spec h
    refine ⟨p, ns, rfl, a.sel_h.seq hS, List.length_pos_of_mem g1, fun m' h1 h2 => ?_⟩
    have e : m' = m := Int.le_antisymm (g2 m' h1) (h2 m g1)
    rw [e]; exact k A N H _ a (Same.refl _) (Same.refl _) (Same.refl _) (.int _)
theorem e_min {ns : List Int} {m : Int} (ha : Ev K H0 Γ ta .h (toD ns)) (h : minO ns = some m) : Ev K H0 Γ (tCB (rMin K) (tCons ta tNil)) md (toD m) :=
  e_cb (a_cons ha a_nil) fun A N W O H σ vs Q a q k => by
    obtain ⟨v, rfl, q'⟩ := dpAll_one q
    obtain ⟨p, rfl, hS⟩ := dp_ints q'
    obtain ⟨g1, g2⟩ := minO_spec h
    refine ⟨p, ns, rfl, a.sel_h.seq hS, List.length_pos_of_mem g1, fun m' h1 h2 => ?_⟩
    have e : m' = m := Int.le_antisymm (h2 m g1) (g2 m' h1)
    rw [e]; exact k A N H _ a (Same.refl _) (Same.refl _) (Same.refl _) (.int _)
def rAbs : List V → Hp → VK → Prop := fun xs H Q => ∃ i, xs = [.int i] ∧ Q (.int (if i < 0 then -i else i)) H
theorem call_abs' {X : Cx} : CallR X (.builtin "abs") rAbs := call_abs
theorem e_abs {x : Int} (ha : Ev K H0 Γ ta .h (toD x)) : Ev K H0 Γ (tCB rAbs (tCons ta tNil)) md (toD (x.natAbs : Int)) :=
  e_cb (a_cons ha a_nil) fun A N W O H σ vs Q a q k => by
    obtain ⟨v, rfl, q'⟩ := dpAll_one q
    refine ⟨x, by rw [dp_int q'], ?_⟩
    have e : (if x < 0 then -x else x) = (x.natAbs : Int) := by split <;> omega
    rw [e]; exact k A N H _ a (Same.refl _) (Same.refl _) (Same.refl _) (.int _)
def rMax2 : List V → Hp → VK → Prop := fun xs H Q => ∃ i j, xs = [.int i, .int j] ∧ Q (.int (if j > i then j else i)) H
def rMin2 : List V → Hp → VK → Prop := fun xs H Q => ∃ i j, xs = [.int i, .int j] ∧ Q (.int (if j < i then j else i)) H
theorem call_max2' {X : Cx} (hc : X.calm = true) : CallR X (.builtin "max") rMax2 := call_max2 hc
theorem call_min2' {X : Cx} (hc : X.calm = true) : CallR X (.builtin "min") rMin2 := call_min2 hc
theorem e_max2 {x y : Int} (ha : Ev K H0 Γ ta .h (toD x)) (hb : Ev K H0 Γ tb .h (toD y)) : Ev K H0 Γ (tCB rMax2 (tCons ta (tCons tb tNil))) md (toD (max x y)) :=
  e_cb (a_cons ha (a_cons hb a_nil)) fun A N W O H σ vs Q a q k => by
    obtain ⟨v, w, rfl, q1, q2⟩ := dpAll_two q
    refine ⟨x, y, by rw [dp_int q1, dp_int q2], ?_⟩
    have e : (if y > x then y else x) = max x y := by split <;> omega
    rw [e]; exact k A N H _ a (Same.refl _) (Same.refl _) (Same.refl _) (.int _)
theorem e_min2 {x y : Int} (ha : Ev K H0 Γ ta .h (toD x)) (hb : Ev K H0 Γ tb .h (toD y)) : Ev K H0 Γ (tCB rMin2 (tCons ta (tCons tb tNil))) md (toD (min x y)) :=
  e_cb (a_cons ha (a_cons hb a_nil)) fun A N W O H σ vs Q a q k => by
    obtain ⟨v, w, rfl, q1, q2⟩ := dpAll_two q
    refine ⟨x, y, by rw [dp_int q1, dp_int q2], ?_⟩
    have e : (if y < x then y else x) = min x y := by split <;> omega
    rw [e]; exact k A N H _ a (Same.refl _) (Same.refl _) (Same.refl _) (.int _)
def rInt1 : List V → Hp → VK → Prop := fun xs H Q => (∃ i, xs = [.int i] ∧ Q (.int i) H) ∨ ∃ k, xs = [.bl k] ∧ Q (.int (if k then 1 else 0)) H
theorem call_int1' {X : Cx} : CallR X (.type "int") rInt1 := call_int1
theorem e_intB {x : Bool} (ha : Ev K H0 Γ ta .h (toD x)) : Ev K H0 Γ (tCB rInt1 (tCons ta tNil)) md (toD (if x = true then (1 : Int) else 0)) :=
  e_cb (a_cons ha a_nil) fun A N W O H σ vs Q a q k => by
    obtain ⟨v, rfl, q'⟩ := dpAll_one q
    exact .inr ⟨x, by rw [dp_bool q'], k A N H _ a (Same.refl _) (Same.refl _) (Same.refl _) (.int _)⟩
/-- sorted of ints -/
def ins (x : Int) : List Int → List Int
  | [] => [x]
  | y :: ys => if x ≤ y then x :: y :: ys else y :: ins x ys
def srt : List Int → List Int
  | [] => []
  | x :: xs => ins x (srt xs)
theorem ins_perm (x : Int) : ∀ ys : List Int, (ins x ys).Perm (x :: ys)
  | [] => .refl _
  | y :: ys => by
    unfold ins; split
    · exact .refl _
    · exact ((ins_perm x ys).cons y).trans (.swap x y ys)
theorem srt_perm : ∀ xs : List Int, (srt xs).Perm xs
  | [] => .refl _
  | x :: xs => (ins_perm x (srt xs)).trans ((srt_perm xs).cons x)
theorem ins_sorted (x : Int) : ∀ ys : List Int, ys.Pairwise (· ≤ ·) → (ins x ys).Pairwise (· ≤ ·)
  | [], _ => by simp [ins]
  | y :: ys, h => by
    have h' := List.pairwise_cons.mp h
    unfold ins; split
    · rename_i hxy
      refine List.pairwise_cons.mpr ⟨fun z hz => ?_, h⟩
      rcases List.mem_cons.mp hz with rfl | hz
      · exact hxy
      · exact Int.le_trans hxy (h'.1 z hz)
    · rename_i hxy
      refine List.pairwise_cons.mpr ⟨fun z hz => ?_, ins_sorted x ys h'.2⟩
      rcases List.mem_cons.mp ((ins_perm x ys).mem_iff.mp hz) with rfl | hz
      · omega
      · exact h'.1 z hz
theorem srt_sorted : ∀ xs : List Int, (srt xs).Pairwise (· ≤ ·)
  | [] => .nil
  | x :: xs => ins_sorted x _ (srt_sorted xs)
theorem sorted_unique : ∀ {xs ys : List Int}, xs.Perm ys → xs.Pairwise (· ≤ ·) → ys.Pairwise (· ≤ ·) → xs = ys := fun {xs ys} p h1 h2 =>
  p.eq_of_pairwise (fun a b _ _ h h' => Int.le_antisymm h h') h1 h2
theorem srt_len (xs : List Int) : (srt xs).length = xs.length := (srt_perm xs).length_eq
theorem o_sorted {ns : List Int} (ha : Ev K H0 Γ ta .h (toD ns)) : EvO K H0 Γ (tCB (rSortedI K) (tCons ta tNil)) md ((srt ns).map toD) :=
  o_cb (a_cons ha a_nil) fun A N W O H σ vs Q a q k => by
    obtain ⟨v, rfl, q'⟩ := dpAll_one q
    obtain ⟨p, rfl, hS⟩ := dp_ints q'
    refine ⟨p, ns, rfl, a.sel_h.seq hS, fun ns' l hp hs hl => ?_⟩
    have e : ns' = srt ns := sorted_unique (hp.trans (srt_perm ns).symm) hs (srt_sorted ns)
    have hz := a.hl.seq (a.sel_h.seq hS)
    rw [List.length_map] at hz
    rw [e]
    exact k l _ hl (by rw [List.length_map, srt_len]; exact hz) ints_to

/-! ### slices, concatenation -/
/-- a bound of a slice -/
def EvPart (K : PySem.W.Frag) (H0 : Base) (Γ : Ctx) (t : TO) (o : Option Int) : Prop :=
  ∀ ⦃A N : Hp⦄ ⦃W : Addr → Prop⦄ ⦃O : Nat → List Addr⦄ ⦃H : Hp⦄ ⦃σ : St⦄ (Q : Option Int → Hp → Prop), AtB K H0 A N W O H σ Γ →
    (∀ A' N' H', AtB K H0 A' N' W O H' σ Γ → Same A A' → Same N N' → Same H H' → Q o H') → t σ H Q
theorem p_none : EvPart K H0 Γ tNoPart none := fun A N W O H σ Q a k => k A N H a (Same.refl _) (Same.refl _) (Same.refl _)
theorem p_some {x : Int} (ha : Ev K H0 Γ ta .h (toD x)) : EvPart K H0 Γ (tPart ta) (some x) := fun A N W O H σ Q a k =>
  ha _ a fun A1 N1 H1 v a1 s1 s2 s3 q1 => ⟨x, dp_int q1, k A1 N1 H1 a1 s1 s2 s3⟩
theorem o_slice {α : Type} [ToD α] {xs : List α} {tl th : TO} {lo hi : Option Int} (ha : Ev K H0 Γ ta md (toD xs)) (hl : EvPart K H0 Γ tl lo) (hh : EvPart K H0 Γ th hi) : EvO K H0 Γ (tSl (rSlL K) ta tl th) md ((cut xs lo hi).map toD) := fun A N W O H σ Q a k =>
  ha _ a fun A1 N1 H1 v a1 s1 s2 s3 q1 => hl _ a1 fun A2 N2 H2 a2 t1 t2 t3 => hh _ a2 fun A3 N3 H3 a3 u1 u2 u3 => by
    have q3 := dp_mono (Md.sel_mono (u1) (u2) (u3)) (dp_mono (Md.sel_mono t1 t2 t3) q1)
    obtain ⟨p, vs, rfl, hS, hA⟩ := dp_list q3
    refine ⟨p, vs, rfl, a3.sel_h.seq hS, fun l hp => ?_⟩
    have hz : (cutV vs lo hi).length ≤ sizeLine := Nat.le_trans (cutV_length vs lo hi) (a3.hl.seq (a3.sel_h.seq hS))
    have hq : DpAll K (md.sel A3 N3 H3) (cutV vs lo hi) ((cut xs lo hi).map toD) := by
      unfold cut; rw [← cut_map, ← dpAll_len hA]
      unfold cutV
      exact dpAll_take _ (dpAll_drop _ hA)
    exact k A3 N3 _ l _ (a3.allocO hp (a3.hl.upd_lst hz)) ((s1.trans t1).trans u1) ((s2.trans t2).trans u2) (((s3.trans t3).trans u3).trans (same_upd hp)) (((s3.trans t3).trans u3).free hp) (a3.ah.free hp) (a3.noW hp) upd_same (dpAll_mono (Md.sel_mono (Same.refl _) (Same.refl _) (same_upd hp)) hq)
/-- list + list -/
def rCatS (K : PySem.W.Frag) : R2 := fun x y H Q => ∃ l b xs zs, x = .ref l ∧ y = .ref b ∧ SqL K H l xs ∧ SqL K H b zs ∧ xs.length + zs.length ≤ sizeLine ∧ ∀ p, H p = none → Q (.ref p) (upd H p (.lst (xs ++ zs)))
open PyProof.Rows in
theorem op_catS {X : Cx} : OpR X (binaryOp .Add) (rCatS X.K) := by
  intro pins s σ H x y v u Q I rx ry h
  obtain ⟨l, b, xs, zs, rfl, rfl, hH, hB, hz, q⟩ := h
  cases rx
  cases ry
  obtain ⟨its, r, pl, z1⟩ := I.list hH
  obtain ⟨its2, r2, pl2, z2⟩ := I.list hB
  obtain ⟨o, n, ho, hc, hd', hdat⟩ := pl
  obtain ⟨o2, n2, ho2, hc2, hd2, hdat2⟩ := pl2
  obtain ⟨cls, dd, data, sl⟩ := o
  obtain ⟨cls2, dd2, data2, sl2⟩ := o2
  simp only at hc hd' hdat hc2 hd2 hdat2
  subst hc hd' hdat hc2 hd2 hdat2
  have e : its.toArray ++ its2.toArray = (its ++ its2).toArray := by simp
  refine concat_meets ⟨_, ho, rfl⟩ ⟨_, ho2, rfl⟩ noFill_list_add seq_list_add PySem.F.slot_list_add PySem.F.entry_list_add (PySem.F.args_list_add_2 _ _) (list_addW l b its.toArray its2.toArray n n2 none none sl sl2 (by simp only [List.size_toArray]; rw [← r.length, ← r2.length]; exact hz)) ⟨ho, ho2, ?_⟩
  rw [e]
  exact ⟨.ref _, _, I.lnew (t' := s.toks) (r.append r2) (by rw [List.length_append]; omega), rfl, q _ I.fresh⟩
end
end Mir

set_option maxHeartbeats 2000000
namespace Mir
open PySem PySem.Spec L2 RT
set_option autoImplicit false
/-! ## list(reversed(a list)) -/
open PyProof.Rows in
theorem extend_rev {prog : Program} {w : World} {A : Around} {s : Shared} {R : Result → Shared → Prop} {it l : Addr} {items : Array Value} (hh : A.handled = none) (hit : s.heap.IsRevIter it l ((items.size : Int) - 1)) (hl : s.heap.IsList l items) (hne : l ≠ it) (hn : items.size ≤ sizeLine)
    (S : Addr) (res : Value) (c₀ : Nat) (hS : s.heap.get? S = some { cls := .type "list", data := .seq #[] c₀ }) (hSi : S ≠ it) (hSl : S ≠ l)
    (hR : ∀ (h' : Heap) (tk : Nat) (acc' : Array Value) (c' : Nat), (∀ b o, b ≠ S → b ≠ it → s.heap.get? b = some o → h'.get? b = some o) → h'.get? S = some { cls := .type "list", dict := none, data := .seq acc' c', slots := #[] } →
      ItemsOf (fun i v => items[items.size - 1 - i]? = some v) acc' items.size → R (.ok (.ret res)) { s with heap := h', toks := tk }) :
    wpAny (model prog w) A.in1 (Builtin.List.listExtendWith (.ref S) (.ref it) res)
      (fun fin s' => match fin with | .done f => R (.ok f) s' | .again c' => c'.quiet = true ∧ codeAny (model prog w) A c' R s') (fun e s' => R (.error e) s') s := by
  have W := (Walks.listRev (prog := prog) (w := w) (A := A.in1) hh it l hne items).toS
  have hSf : S ∉ [it, l] := by simp only [List.mem_cons, List.not_mem_nil, or_false, not_or]; exact ⟨hSi, hSl⟩
  have hT : s.TypeIs (.ref it) "list_reverseiterator" := hit.typeIs
  have h1 : Builtin.List.listSameRef (.ref S) (.ref it) = false := by simp [Builtin.List.listSameRef, hSi]
  unfold Builtin.List.listExtendWith
  refine wpAny_bind (wpAny_typeOf hT ?_)
  rw [if_neg (by rw [h1]; decide)]
  refine wpAny_bind (wpAny_pyIter_revIter hit ?_)
  refine wpAny_bind (wpAny_holding ?_)
  unfold Builtin.List.listLengthHint
  refine wpAny_bind (wpAny_specialOf hT nolen_lri ?_)
  show wpAny _ A.in1 (specialOf (Value.ref it) (Str.ofString "__length_hint__") >>= _) _ _ _
  refine wpAny_bind (wpAny_specialOf hT hint_lri ?_)
  generalize hid : ("list_reverseiterator.__length_hint__" : String) = id0
  wp_delta
  rw [show splitId id0 = some ("list_reverseiterator", "__length_hint__") from by subst hid; decide +kernel]
  subst hid
  refine wpAny_bind (wpAny_isInstance (b := true) hT (by rw [isSubtype_type]; kernel_rfl) ?_)
  refine wpAny_pure ?_
  rw [if_neg (by decide)]
  have e0 : ((items.size : Nat) : Int) - 1 - ((0 : Nat) : Int) = (items.size : Int) - 1 := by omega
  refine wpAny_pure ⟨plainId_quiet F.plain_extend_loop _, codeAny_extend_loopS W hn _ hSf _ items.size 0 _ _ _ rfl (Nat.zero_le _) ⟨Nat.zero_le _, by rw [e0]; exact hit, hl⟩ hS (ItemsOf.nil _) fun s' acc' c' hm hS' hacc => ?_⟩
  rw [Moved.eq_with hm]
  refine hR s'.heap s'.toks acc' c' (fun b o hb hbi e => hm.heap b o (fun hmem => ?_) e) hS' hacc
  rcases List.mem_cons.mp hmem with e' | hmem
  · exact hb e'
  · exact hbi (List.mem_singleton.mp hmem)
open PyProof.Rows in
theorem call_list_rev {prog : Program} {w : World} {A : Around} {E : Value → Shared → Prop} {s : Shared} {it l : Addr} {items : Array Value} {Q : Value → Shared → Prop} (hh : A.handled = none) (hit : s.heap.IsRevIter it l ((items.size : Int) - 1)) (hl : s.heap.IsList l items) (hne : l ≠ it) (hn : items.size ≤ sizeLine)
    (hQ : ∀ (h' : Heap) (tk : Nat) (acc : Array Value) (c' : Nat), (∀ b o, b ≠ it → s.heap.get? b = some o → h'.get? b = some o) → h'.get? s.heap.objs.size = some { cls := .type "list", dict := none, data := .seq acc c', slots := #[] } →
      ItemsOf (fun i v => items[items.size - 1 - i]? = some v) acc items.size → Q (.ref s.heap.objs.size) { s with heap := h', toks := tk }) :
    wpAny (model prog w) A (call (.type "list") [.ref it]) Q E s := by
  obtain ⟨oi, hoi, _⟩ := id hit
  obtain ⟨ol, hol, _⟩ := id hl
  have hSi : s.heap.objs.size ≠ it := Nat.ne_of_gt (Heap.lt_size hoi)
  have hSl : s.heap.objs.size ≠ l := Nat.ne_of_gt (Heap.lt_size hol)
  refine callType_codes (Q₁ := fun obj s₁ => obj = .ref s.heap.objs.size ∧ s₁ = { s with heap := s.heap.push { cls := .type "list", data := .seq #[] } }) F.called_list (F.typeCall_list_1 _) F.entry_list_init
    (code_list_new _ ⟨rfl, rfl⟩) fun obj s₁ h₁ => ?_
  obtain ⟨rfl, rfl⟩ := h₁
  have hS : (s.heap.push { cls := .type "list", data := .seq #[] }).get? s.heap.objs.size = some { cls := .type "list", data := .seq #[] } := Heap.get?_push_size _ rfl
  have hit1 : (s.heap.push { cls := .type "list", data := .seq #[] }).IsRevIter it l ((items.size : Int) - 1) := hit.at fun o e => Heap.get?_push_of_some _ e
  have hl1 : (s.heap.push { cls := .type "list", data := .seq #[] }).IsList l items := hl.push _
  refine ⟨⟨_, hS, rfl⟩, F.args_list_init_2 _ _, ?_⟩
  show wpAny _ _ (do let old ← Builtin.List.listItems (.ref s.heap.objs.size); Builtin.List.listUpdate (.ref s.heap.objs.size) (fun _ => #[]); letGo old.toList.reverse; Builtin.List.listExtendWith (.ref s.heap.objs.size) (.ref it) .none) _ _ _
  refine wpAny_bind ?_
  unfold Builtin.List.listItems
  refine wpAny_bind (wpAny_seqItems hS rfl (wpAny_pure ?_))
  show wpAny _ _ (updateSeq s.heap.objs.size (fun _ => #[]) >>= fun _ => letGo (#[] : Array Value).toList.reverse >>= fun _ => Builtin.List.listExtendWith (.ref s.heap.objs.size) (.ref it) .none) _ _ _
  refine wpAny_bind (wpAny_updateSeq hS rfl ?_)
  have hS₂ := Heap.get?_update_self (Obj.mapSeq (fun _ => (#[] : Array Value))) hS rfl
  have oth : ∀ b o, b ≠ s.heap.objs.size → (s.heap.push { cls := .type "list", data := .seq #[] }).get? b = some o → ((s.heap.push { cls := .type "list", data := .seq #[] }).update s.heap.objs.size (Obj.mapSeq (fun _ => (#[] : Array Value)))).get? b = some o :=
    fun b o hb e => (Heap.get?_update_other _ _ (Ne.symm hb)).trans e
  refine wpAny_bind (wpAny_letGo ?_)
  obtain ⟨ol1, hol1, hc1, hd1⟩ := id hl1
  refine extend_rev (A := A.in1) hh (hit1.at fun o e => oth it o (Ne.symm hSi) e) ⟨ol1, oth l ol1 (Ne.symm hSl) hol1, hc1, hd1⟩ hne hn s.heap.objs.size .none _ hS₂ hSi hSl fun h' tk acc' c' hk hS' hacc => ?_
  exact ⟨rfl, hQ h' tk acc' c' (fun b o hb e => hk b o (Nat.ne_of_lt (Heap.lt_size e)) hb (oth b o (Nat.ne_of_lt (Heap.lt_size e)) (Heap.get?_push_of_some _ e))) hS' hacc⟩
def tLstRev (K : PySem.W.Frag) (te : TE) : TE := fun σ H Q => te σ H fun v H1 => ∃ (a : Addr) (xs : List V), v = .ref a ∧ SqL K H1 a xs ∧ ∀ p, H1 p = none → Q (.ref p) (upd H1 p (.lst xs.reverse))
open PyProof.Rows in
theorem pe_lstRev {X : Cx} {e : Expr} {te : TE} {p p2 pos pos2 : Pos} (hc : X.calm = true) (hg : Gl X "list") (hm : X.mg "list" = none) (hg2 : Gl X "reversed") (hm2 : X.mg "reversed" = none) (he : PE X e te)
    (hs : starEach [e] X.env = (false, eval e X.env) :: starEach [] X.env := by rfl)
    (hs2 : starEach [.Call (.Name "reversed" p2) [e] [] pos2] X.env = (false, eval (.Call (.Name "reversed" p2) [e] [] pos2) X.env) :: starEach [] X.env := by rfl) :
    PE X (.Call (.Name "list" p) [.Call (.Name "reversed" p2) [e] [] pos2] [] pos) (tLstRev X.K te) := by
  refine ⟨fun pins s σ H Q I h => ?_⟩
  refine Call_ (ld_blt I hg hm boot_list (PyProof.Rows.callWith_type1 (args_cons (Call_ (ld_blt I hg2 hm2 PyProof.Rows.boot_reversed (PyProof.Rows.callWith_type1 (args_cons (thn (he.run pins s σ H _ I h) fun u s1 ⟨v, H1, I1, r1, q1⟩ => args_nil ?_) hs) hs rfl))) hs2) hs2 rfl))
  obtain ⟨a, xs, ev, hq, q⟩ := q1
  subst ev
  obtain rfl : u = Value.ref a := r1
  obtain ⟨its, rv, p', hz⟩ := I1.list hq
  refine call_reversed_list p'.isList (args_nil ?_)
  have k0 : ∀ b o, s1.heap.get? b = some o → (s1.heap.push (revObj a ((its.toArray.size : Int) - 1))).get? b = some o := fun b o e => Heap.get?_push_of_some _ e
  have I2 : Inv X pins σ H1 { s1 with heap := s1.heap.push (revObj a ((its.toArray.size : Int) - 1)) } := I1.kept (t' := s1.toks) k0
  obtain ⟨f0, f1, f2, f3, f4, f5⟩ := I1.fpOk (H' := H1) (b := s1.heap.objs.size) (Nat.le_refl _) (I1.hok.fresh (Nat.le_refl _))
  have hl := p'.isList
  obtain ⟨ol, hol, _⟩ := id hl
  have hne : a ≠ s1.heap.objs.size := Nat.ne_of_lt (Heap.lt_size hol)
  have hn : its.toArray.size ≤ sizeLine := by rw [List.size_toArray, ← rv.length]; exact hz
  refine call_list_rev (s := { s1 with heap := s1.heap.push (revObj a ((its.toArray.size : Int) - 1)) }) (I1.ok.hd hc) ⟨_, Heap.get?_push_size _ rfl, rfl, rfl⟩ (hl.push _) hne hn fun h' tk acc c' hk hS hi => ?_
  obtain ⟨G', g1, g2⟩ := restrict h' fun b => decide (b ≠ s1.heap.objs.size)
  have gk : ∀ b, b ≠ s1.heap.objs.size → G'.get? b = h'.get? b := fun b hb => g1 b (decide_eq_true hb)
  have ge : G'.get? s1.heap.objs.size = none := g2 s1.heap.objs.size (by simp)
  have eS : (s1.heap.push (revObj a ((its.toArray.size : Int) - 1))).objs.size = s1.heap.objs.size + 1 := Heap.size_push _ _
  have hS' : h'.get? (s1.heap.push (revObj a ((its.toArray.size : Int) - 1))).objs.size = some { cls := .type "list", dict := none, data := .seq acc c', slots := #[] } := hS
  have neS : (s1.heap.push (revObj a ((its.toArray.size : Int) - 1))).objs.size ≠ s1.heap.objs.size := by rw [eS]; omega
  have old : ∀ b o, s1.heap.get? b = some o → G'.get? b = some o := fun b o q' => (gk b (Nat.ne_of_lt (Heap.lt_size q'))).trans (hk b o (Nat.ne_of_lt (Heap.lt_size q')) (k0 b o q'))
  have ob : ObjOk X.prog X.w (upd H1 (s1.heap.push (revObj a ((its.toArray.size : Int) - 1))).objs.size (.lst xs.reverse)) G' (s1.heap.push (revObj a ((its.toArray.size : Int) - 1))).objs.size (.lst xs.reverse) :=
    ⟨by rw [List.length_reverse]; exact hz, acc.toList, c', vals_rev rv hi, by rw [gk _ neS, Array.toArray_toList]; exact hS'⟩
  have J : Inv X pins σ (upd H1 (s1.heap.push (revObj a ((its.toArray.size : Int) - 1))).objs.size (.lst xs.reverse)) { s1 with heap := G', toks := tk } := I1.laid (t' := tk) old (by rw [eS]; omega) ob
  have J2 := J.kept (h' := h') (t' := tk) fun b o q' => by
    by_cases hb : b = s1.heap.objs.size
    · have q2 : G'.get? b = some o := q'
      rw [hb, ge] at q2; cases q2
    · exact (gk b hb).symm.trans q'
  exact ⟨.ref _, _, J2, rfl, q _ (I1.hok.fresh (by rw [eS]; omega))⟩
end Mir

namespace Mir
open PySem PySem.Spec L2
open ToD (toD)
set_option autoImplicit false
section
variable {K : PySem.W.Frag} {H0 : Base} {Γ : Ctx} {ta tb te : TE} {ts : TA} {md m1 m2 : Md} {d d1 d2 : PyData} {ds es : List PyData} {i j : Int}
theorem o_lstRev {α : Type} [ToD α] {xs : List α} (ha : Ev K H0 Γ ta md (toD xs)) : EvO K H0 Γ (tLstRev K ta) md (xs.reverse.map toD) := fun A N W O H σ Q a k =>
  ha _ a fun A1 N1 H1 v a1 s1 s2 s3 q1 => by
    obtain ⟨p, vs, rfl, hS, hA⟩ := dp_list q1
    have hS' := a1.sel_h.seq hS
    refine ⟨p, vs, rfl, hS', fun l hp => ?_⟩
    have hz : vs.reverse.length ≤ sizeLine := by rw [List.length_reverse]; exact a1.hl.seq hS'
    have hq : DpAll K (md.sel A1 N1 H1) vs.reverse (xs.reverse.map toD) := by rw [List.map_reverse]; exact dpAll_rev hA
    exact k A1 N1 _ l _ (a1.allocO hp (a1.hl.upd_lst hz)) s1 s2 (s3.trans (same_upd hp)) (s3.free hp) (a1.ah.free hp) (a1.noW hp) upd_same (dpAll_mono (Md.sel_mono (Same.refl _) (Same.refl _) (same_upd hp)) hq)
def catO {α : Type} (xs ys : List α) : Option (List α) := if xs.length + ys.length ≤ lim then some (xs ++ ys) else none
theorem o_cat {α : Type} [ToD α] {xs ys zs : List α} (ha : Ev K H0 Γ ta md (toD xs)) (hb : Ev K H0 Γ tb md (toD ys)) (h : catO xs ys = some zs) : EvO K H0 Γ (tOp (rCatS K) ta tb) md (zs.map toD) := fun A N W O H σ Q a k =>
  ha _ a fun A1 N1 H1 x a1 s1 s2 s3 q1 => hb _ a1 fun A2 N2 H2 y a2 t1 t2 t3 q2 => by
    unfold catO at h
    split at h
    · rename_i hz
      cases h
      obtain ⟨p, vs, rfl, hS, hA⟩ := dp_list (dp_mono (Md.sel_mono t1 t2 t3) q1)
      obtain ⟨p2, ws, rfl, hS2, hA2⟩ := dp_list q2
      have hl : vs.length + ws.length ≤ sizeLine := by rw [dpAll_len hA, dpAll_len hA2, List.length_map, List.length_map, lim_eq]; exact hz
      refine ⟨p, p2, vs, ws, rfl, rfl, a2.sel_h.seq hS, a2.sel_h.seq hS2, hl, fun l hp => ?_⟩
      have hq : DpAll K (md.sel A2 N2 H2) (vs ++ ws) ((xs ++ ys).map toD) := by rw [List.map_append]; exact dpAll_app hA hA2
      exact k A2 N2 _ l _ (a2.allocO hp (a2.hl.upd_lst (by rw [List.length_append]; exact hl))) (s1.trans t1) (s2.trans t2) ((s3.trans t3).trans (same_upd hp)) ((s3.trans t3).free hp) (a2.ah.free hp) (a2.noW hp) upd_same (dpAll_mono (Md.sel_mono (Same.refl _) (Same.refl _) (same_upd hp)) hq)
    · cases h

/-! ## 6. what is walked -/
section
variable {wi : TI}
theorem yat_walk {A' N' H' : Hp} {vs : List V} {ds : List PyData} (q : DpAll K (md.sel A' N' H') vs ds) (hm : md ≠ .h) :
    ∀ (i : Nat) (A1 N1 : Hp) (W1 : Addr → Prop) (O1 : Nat → List Addr) (H1 : Hp) (σ1 : St) (Γ1 : Ctx) (x : V) (H2 : Hp), AtB K H0 A1 N1 W1 O1 H1 σ1 Γ1 → Same A' A1 → Same N' N1 → i < ds.length → YAt vs i H1 x H2 →
        ∃ A2 N2 d, AtB K H0 A2 N2 W1 O1 H2 σ1 Γ1 ∧ Same A1 A2 ∧ Same N1 N2 ∧ Same H1 H2 ∧ ds[i]? = some d ∧ Dp K (md.sel A2 N2 H2) x d := fun i A1 N1 W1 O1 H1 σ1 Γ1 x H2 a sA sN hi y => by
  obtain ⟨rfl, e⟩ := y
  obtain ⟨d, e2, q2⟩ := dpAll_get q e
  refine ⟨A1, N1, d, a, Same.refl _, Same.refl _, Same.refl _, e2, ?_⟩
  cases md
  · exact absurd rfl hm
  · exact dp_mono sA q2
  · exact dp_mono sN q2
theorem walk_len {J : It} {n m : Nat} {G : Hp → Prop} {Y : Nat → Hp → V → Hp → Prop} (e : n = m) (w : Walk J n G Y) : Walk J m G Y := e ▸ w
/-- a list that never changes -/
theorem i_list (ha : Ev K H0 Γ ta md (.list ds)) (hm : md ≠ .h) : EvI K H0 Γ (iList K ta) md ds := fun A N W O H σ R a k =>
  ha _ a fun A1 N1 H1 v a1 s1 s2 s3 q1 => by
    obtain ⟨p, vs, rfl, hS, hA⟩ := dp_list q1
    have hS1 : SqL K A1 p vs := (a1.sel_s hm).seq hS
    have e : vs.length = ds.length := dpAll_len hA
    exact ⟨p, rfl, ⟨vs, a1.ah.seq hS1⟩, k A1 N1 H1 _ _ _ a1 s1 s2 s3 (walk_len e walk_list) (e ▸ a1.hl.seq (a1.ah.seq hS1)) (fun H'' s => s.seq hS1) (yat_walk hA hm)⟩
theorem i_tup (ha : Ev K H0 Γ ta md (.tuple ds)) (hm : md ≠ .h) (hz : ds.length ≤ sizeLine := by simp only [List.length_cons, List.length_nil]; decide) : EvI K H0 Γ (iTup K ta) md ds := fun A N W O H σ R a k =>
  ha _ a fun A1 N1 H1 v a1 s1 s2 s3 q1 => by
    obtain ⟨p, vs, rfl, hS, hA⟩ := dp_tup q1
    have hS1 : SqT K A1 p vs := same_tup (a1.sel_s hm) hS
    have e : vs.length = ds.length := dpAll_len hA
    exact ⟨p, rfl, ⟨vs, same_tup a1.ah hS1⟩, k A1 N1 H1 _ _ _ a1 s1 s2 s3 (walk_len e walk_tup) hz (fun H'' s => same_tup s hS1) (yat_walk hA hm)⟩
theorem i_rev {α : Type} [ToD α] {xs : List α} (ha : Ev K H0 Γ ta md (toD xs)) (hm : md ≠ .h) : EvI K H0 Γ (iRev K (tCons ta tNil)) md (xs.reverse.map toD) := fun A N W O H σ R a k =>
  ha _ a fun A1 N1 H1 v a1 s1 s2 s3 q1 => by
    obtain ⟨p, vs, rfl, hS, hA⟩ := dp_list q1
    have hS1 : SqL K A1 p vs := (a1.sel_s hm).seq hS
    have e : vs.length = (xs.reverse.map toD).length := by rw [dpAll_len hA, List.length_map, List.length_map, List.length_reverse]
    refine ⟨p, vs, rfl, a1.ah.seq hS1, k A1 N1 H1 _ _ _ a1 s1 s2 s3 (walk_len e walk_rev) (e ▸ a1.hl.seq (a1.ah.seq hS1)) (fun H'' s => s.seq hS1) fun i A1 N1 W1 O1 H1 σ1 Γ1 x H2 a sA sN hi y => ?_⟩
    obtain ⟨rfl, y⟩ := y
    obtain ⟨d, e2, q2⟩ := dpAll_get hA y
    refine ⟨A1, N1, d, a, Same.refl _, Same.refl _, Same.refl _, ?_, ?_⟩
    · have hl := dpAll_len hA
      rw [List.length_map] at hl hi
      rw [List.length_reverse] at hi
      rw [List.getElem?_map, List.getElem?_reverse hi, ← hl, ← List.getElem?_map]
      exact e2
    · cases md
      · exact absurd rfl hm
      · exact dp_mono sA q2
      · exact dp_mono sN q2
/-- lo, lo + 1, .. below hi -/
def rng (lo hi : Int) : List Int := (List.range (hi - lo).toNat).map fun i : Nat => lo + (i : Int)
def rngO (lo hi : Int) : Option (List Int) := if -(16777216 : Int) ≤ lo ∧ hi ≤ 16777216 ∧ lo ≤ 16777216 ∧ -(16777216 : Int) ≤ hi ∧ hi - lo ≤ 16777216 then some (rng lo hi) else none
theorem rng_len (lo hi : Int) : (rng lo hi).length = (hi - lo).toNat := by unfold rng; simp
theorem rng_get {lo hi : Int} {i : Nat} (h : i < (hi - lo).toNat) : (rng lo hi)[i]? = some (lo + (i : Int)) := by
  unfold rng
  rw [List.getElem?_map, List.getElem?_range h]; rfl
theorem rng_walk {lo hi : Int} : ∀ (i : Nat) (A1 N1 : Hp) (W1 : Addr → Prop) (O1 : Nat → List Addr) (H1 : Hp) (σ1 : St) (Γ1 : Ctx) (x : V) (H2 : Hp), AtB K H0 A1 N1 W1 O1 H1 σ1 Γ1 → i < (hi - lo).toNat → (YFn fun i => V.int (lo + (i : Nat))) i H1 x H2 →
        ∃ A2 N2 d, AtB K H0 A2 N2 W1 O1 H2 σ1 Γ1 ∧ Same A1 A2 ∧ Same N1 N2 ∧ Same H1 H2 ∧ ((rng lo hi).map toD)[i]? = some d ∧ Dp K (md.sel A2 N2 H2) x d := fun i A1 N1 W1 O1 H1 σ1 Γ1 x H2 a hi y => by
  obtain ⟨rfl, rfl⟩ := y
  exact ⟨A1, N1, toD (lo + (i : Int)), a, Same.refl _, Same.refl _, Same.refl _, by rw [List.getElem?_map, rng_get hi]; rfl, .int _⟩
theorem i_rng1 {n : Int} {xs : List Int} (ha : Ev K H0 Γ ta .h (toD n)) (h : rngO 0 n = some xs) : EvI K H0 Γ (iRng1 (tCons ta tNil)) md (xs.map toD) := fun A N W O H σ R a k =>
  ha _ a fun A1 N1 H1 v a1 s1 s2 s3 q1 => by
    unfold rngO at h
    split at h
    · rename_i hz
      cases h
      refine ⟨n, by rw [dp_int q1], by omega, by omega, ?_⟩
      have e : n.toNat = ((rng 0 n).map toD).length := by rw [List.length_map, rng_len]; omega
      refine k A1 N1 H1 _ _ _ a1 s1 s2 s3 (walk_len e walk_range) (by rw [← e, lim_eq]; show _ ≤ 16777216; omega) (fun _ _ => trivial) fun i A1 N1 W1 O1 H1 σ1 Γ1 x H2 a sA sN hi y => rng_walk i A1 N1 W1 O1 H1 σ1 Γ1 x H2 a (by rw [← e] at hi; omega) y
    · cases h
theorem i_rng2 {lo n : Int} {xs : List Int} (ha : Ev K H0 Γ ta .h (toD lo)) (hb : Ev K H0 Γ tb .h (toD n)) (h : rngO lo n = some xs) : EvI K H0 Γ (iRng2 (tCons ta (tCons tb tNil))) md (xs.map toD) := fun A N W O H σ R a k =>
  ha _ a fun A1 N1 H1 v a1 s1 s2 s3 q1 => hb _ a1 fun A2 N2 H2 w a2 t1 t2 t3 q2 => by
    unfold rngO at h
    split at h
    · rename_i hz
      cases h
      refine ⟨lo, n, by rw [dp_int q1, dp_int q2], ⟨by omega, by omega, by omega, by omega⟩, ?_⟩
      have e : (n - lo).toNat = ((rng lo n).map toD).length := by rw [List.length_map, rng_len]
      refine k A2 N2 H2 _ _ _ a2 (s1.trans t1) (s2.trans t2) (s3.trans t3) (walk_len e walk_range) (by rw [← e, lim_eq]; show _ ≤ 16777216; omega) (fun _ _ => trivial) fun i A1 N1 W1 O1 H1 σ1 Γ1 x H2 a sA sN hi y => rng_walk i A1 N1 W1 O1 H1 σ1 Γ1 x H2 a (by rw [← e] at hi; exact hi) y
    · cases h
theorem zip_pairs {α β : Type} [ToD α] [ToD β] (xs : List α) (ys : List β) {i : Nat} {d e : PyData} (h1 : (xs.map toD)[i]? = some d) (h2 : (ys.map toD)[i]? = some e) : ((xs.zip ys).map toD)[i]? = some (.tuple [d, e]) := by
  rw [List.getElem?_map] at h1 h2 ⊢
  obtain ⟨a, ha, rfl⟩ := Option.map_eq_some_iff.mp h1
  obtain ⟨b, hb, rfl⟩ := Option.map_eq_some_iff.mp h2
  have e : (xs.zip ys)[i]? = some (a, b) := List.getElem?_zip_eq_some.mpr ⟨ha, hb⟩
  rw [e]; rfl
/-- zip of two lists that never change -/
theorem i_zip {α β : Type} [ToD α] [ToD β] {xs : List α} {ys : List β} (ha : Ev K H0 Γ ta md (toD xs)) (hb : Ev K H0 Γ tb md (toD ys)) (hm : md ≠ .h) : EvI K H0 Γ (iZip K (tCons ta (tCons tb tNil))) md ((xs.zip ys).map toD) := fun A N W O H σ R a k =>
  ha _ a fun A1 N1 H1 v a1 s1 s2 s3 q1 => hb _ a1 fun A2 N2 H2 w a2 t1 t2 t3 q2 => by
    obtain ⟨p, vs, rfl, hS, hA⟩ := dp_list (dp_mono (Md.sel_mono t1 t2 t3) q1)
    obtain ⟨p2, ws, rfl, hS2, hA2⟩ := dp_list q2
    have g1 : SqL K A2 p vs := (a2.sel_s hm).seq hS
    have g2 : SqL K A2 p2 ws := (a2.sel_s hm).seq hS2
    have l1 : vs.length = xs.length := by rw [dpAll_len hA, List.length_map]
    have l2 : ws.length = ys.length := by rw [dpAll_len hA2, List.length_map]
    have e : min vs.length ws.length = ((xs.zip ys).map toD).length := by rw [List.length_map, List.length_zip, l1, l2]
    have z1 := a2.hl.seq (a2.ah.seq g1)
    refine ⟨p, p2, vs, ws, rfl, a2.ah.seq g1, a2.ah.seq g2, k A2 N2 H2 _ _ _ a2 (s1.trans t1) (s2.trans t2) (s3.trans t3) (walk_len e (walk_zip rfl)) (by rw [← e]; omega) (fun H'' s => ⟨s.seq g1, s.seq g2⟩) fun i A3 N3 W1 O1 H3 σ1 Γ1 x H4 a3 sA sN hi y => ?_⟩
    obtain ⟨T, x1, x2, rfl, hT, rfl, e1, e2⟩ := y
    obtain ⟨d1, f1, r1⟩ := dpAll_get hA e1
    obtain ⟨d2, f2, r2⟩ := dpAll_get hA2 e2
    have hTA := a3.ah.free hT
    have hTN := a3.na.free hTA
    refine ⟨upd A3 T (.tup [x1, x2]), upd N3 T (.tup [x1, x2]), _, a3.alloc hT a3.hl.upd_tup, same_upd hTA, same_upd hTN, same_upd hT, zip_pairs xs ys f1 f2, ?_⟩
    cases md
    · exact absurd rfl hm
    · exact .tup (.inl (.inl upd_same)) (.cons (dp_mono (sA.trans (same_upd hTA)) r1) (.cons (dp_mono (sA.trans (same_upd hTA)) r2) .nil))
    · exact .tup (.inl (.inl upd_same)) (.cons (dp_mono (sN.trans (same_upd hTN)) r1) (.cons (dp_mono (sN.trans (same_upd hTN)) r2) .nil))
end

/-! ## 7. targets -/
/-- a thing that stands for d is stored: the slots at vs -/
def Tg (K : PySem.W.Frag) (H0 : Base) (g : TG) (md : Md) (d : PyData) (vs : List Nat) (Γ Γ2 : Ctx) : Prop :=
  ∀ ⦃A N : Hp⦄ ⦃W : Addr → Prop⦄ ⦃O : Nat → List Addr⦄ ⦃H : Hp⦄ ⦃σ : St⦄ (v : V) (Q : St → Hp → Prop), AtB K H0 A N W O H σ Γ → Dp K (md.sel A N H) v d → (∀ σ', AtB K H0 A N W O H σ' Γ2 → wipe σ' vs = wipe σ vs → Q σ' H) → g v σ H Q
theorem g_name {i : Nat} (hm : md ≠ .h) (hi : i < Γ.length := by decide) : Tg K H0 (gName i) md d [i] Γ (Γ.set i (some (.v md d))) := fun A N W O H σ v Q a q k =>
  k _ (a.setv hi hm q) (by show ((wipe (σ.set i (some v)) []).set i none) = (wipe σ []).set i none; unfold wipe; rw [List.set_set])
theorem g_pair {i j : Nat} (hm : md ≠ .h) (hij : i ≠ j := by decide) (hi : i < Γ.length := by decide) (hj : j < Γ.length := by decide) : Tg K H0 (gTup K 2 (gCons (gName i) (gCons (gName j) gNil))) md (.tuple [d1, d2]) [i, j] Γ ((Γ.set i (some (.v md d1))).set j (some (.v md d2))) := fun A N W O H σ v Q a q k => by
  obtain ⟨p, vs, rfl, hS, hA⟩ := dp_tup q
  obtain ⟨x, y, rfl, q1, q2⟩ := dpAll_two hA
  refine ⟨p, _, rfl, same_tup a.sel_h hS, rfl, x, _, rfl, y, _, rfl, rfl, ?_⟩
  refine k _ ((a.setv hi hm q1).setv (by rw [List.length_set]; exact hj) hm q2) ?_
  show ((((σ.set i (some x)).set j (some y)).set j none).set i none) = (σ.set j none).set i none
  rw [List.set_set, List.set_comm _ _ hij, List.set_set]
end
end Mir

namespace Mir
open PySem PySem.Spec L2
open ToD (toD)
set_option autoImplicit false
/-! ## 8. comprehensions -/
def mapO {α β : Type} (f : α → Option β) : List α → Option (List β)
  | [] => some []
  | x :: xs => (f x).bind fun y => (mapO f xs).bind fun ys => some (y :: ys)
def cmpO {α β : Type} (p : α → Option Bool) (f : α → Option β) : List α → Option (List β)
  | [] => some []
  | x :: xs => (p x).bind fun b => if b = true then (f x).bind fun y => (cmpO p f xs).bind fun ys => some (y :: ys) else cmpO p f xs
theorem mapO_cmp {α β : Type} (f : α → Option β) : ∀ xs : List α, mapO f xs = cmpO (fun _ => some true) f xs
  | [] => rfl
  | x :: xs => by simp only [mapO, cmpO, mapO_cmp f xs, Option.bind_some, if_pos]
theorem mapO_pure {α β : Type} (f : α → β) : ∀ xs : List α, mapO (fun x => some (f x)) xs = some (xs.map f)
  | [] => rfl
  | x :: xs => by simp [mapO, mapO_pure f xs]
theorem cmpO_pure {α β : Type} (p : α → Bool) (f : α → β) : ∀ xs : List α, cmpO (fun x => some (p x)) (fun x => some (f x)) xs = some ((xs.filter p).map f)
  | [] => rfl
  | x :: xs => by
    simp only [cmpO, cmpO_pure p f xs, Option.bind_some]
    cases h : p x <;> simp [h]
theorem bind_some_iff {α β : Type} {m : Option α} {k : α → Option β} {b : β} (h : m.bind k = some b) : ∃ a, m = some a ∧ k a = some b := by
  cases m with
  | none => cases h
  | some a => exact ⟨a, rfl, h⟩
theorem wipe_get_ne {σ : St} {i : Nat} : ∀ {vs : List Nat}, i ∉ vs → (wipe σ vs)[i]? = σ[i]?
  | [], _ => rfl
  | v :: vs, h => by
    have h1 : v ≠ i := fun e => h (e ▸ List.mem_cons_self)
    have h2 : i ∉ vs := fun e => h (List.mem_cons_of_mem _ e)
    unfold wipe
    rw [List.getElem?_set_ne h1, wipe_get_ne h2]
theorem wipe_get_in {σ : St} {i : Nat} : ∀ {vs : List Nat}, i ∈ vs → i < σ.length → (wipe σ vs)[i]? = some none
  | v :: vs, h, hi => by
    unfold wipe
    by_cases e : v = i
    · subst e; rw [List.getElem?_set_self (by rw [wipe_length]; exact hi)]
    · rw [List.getElem?_set_ne e]
      rcases List.mem_cons.mp h with z | z
      · exact absurd z.symm e
      · exact wipe_get_in z hi
theorem wipe_wipe (σ : St) (vs : List Nat) : wipe (wipe σ vs) vs = wipe σ vs := by
  apply List.ext_getElem?
  intro i
  by_cases hi : i < σ.length
  · by_cases h : i ∈ vs
    · rw [wipe_get_in h (by rw [wipe_length]; exact hi), wipe_get_in h hi]
    · rw [wipe_get_ne h]
  · rw [List.getElem?_eq_none (by rw [wipe_length, wipe_length]; omega), List.getElem?_eq_none (by rw [wipe_length]; omega)]
section
variable {K : PySem.W.Frag} {H0 : Base} {Γ : Ctx} {ta tb te : TE} {ts : TA} {tt : TT} {wi : TI} {g : TG} {md m1 m2 : Md} {d d1 d2 : PyData} {ds es : List PyData} {vs : List Nat}
theorem AtB.wiped {A N : Hp} {W : Addr → Prop} {O : Nat → List Addr} {H : Hp} {σ : St} {Γ2 : Ctx} (a : AtB K H0 A N W O H σ Γ2) (hl : Γ.length = Γ2.length) (hs : ∀ (i : Nat) (c : Cell), Γ[i]? = some (some c) → Γ2[i]? = some (some c)) (hv : ∀ i ∈ vs, Γ[i]? = some none) :
    AtB K H0 A N W O H (wipe σ vs) Γ :=
  { a with
    len := by rw [wipe_length, hl]; exact a.len
    cs := fun i c e => by
      have hi : i ∉ vs := fun z => by rw [hv i z] at e; cases e
      rw [wipe_get_ne hi]
      exact a.cs i c (hs i c e) }
theorem write_D {A N : Hp} {W : Addr → Prop} {O : Nat → List Addr} {H : Hp} {σ : St} {D : Addr} {ws : List V} (a : AtB K H0 A N W O H σ Γ) (hw : W D) (hO : ∀ i, D ∉ O i) (hz : ws.length ≤ sizeLine) : AtB K H0 A N W O (upd H D (.lst ws)) σ Γ :=
  a.write hw hz fun i _ _ h => absurd h (hO i)
theorem sel_upd {A N H : Hp} {D : Addr} {o : HO} {vs : List V} {ds : List PyData} (hm : md ≠ .h) (q : DpAll K (md.sel A N H) vs ds) : DpAll K (md.sel A N (upd H D o)) vs ds := by
  cases md
  · exact absurd rfl hm
  · exact q
  · exact q
/-- a comprehension: g stores the item's parts at vs, Γ2 x is what is known then -/
theorem o_lc {α β : Type} [ToD α] [ToD β] {xs : List α} {ys : List β} {p : α → Option Bool} {f : α → Option β} {Γ2 : α → Ctx} (hi : EvI K H0 Γ wi m1 (xs.map toD)) (hv : ∀ i ∈ vs, Γ[i]? = some none)
    (hg : ∀ x, Tg K H0 g m1 (toD x) vs Γ (Γ2 x)) (hl : ∀ x, Γ.length = (Γ2 x).length) (hs : ∀ x (i : Nat) (c : Cell), Γ[i]? = some (some c) → (Γ2 x)[i]? = some (some c))
    (ht : ∀ x b, p x = some b → EvT K H0 (Γ2 x) tt b) (he : ∀ x y, f x = some y → Ev K H0 (Γ2 x) te m2 (toD y)) (hm : m2 ≠ .h) (h : cmpO p f xs = some ys) : EvO K H0 Γ (tLc wi g tt te vs) m2 (ys.map toD) := fun A N W O H σ Q a k =>
  hi _ a fun A1 N1 H1 J G Y a1 s1 s2 s3 w hz hG hY => by
    intro D hD
    have hDA : A1 D = none := a1.ah.free hD
    have hDW : ¬ W D := a1.noW hD
    have hDO : ∀ i, D ∉ O i := fun i z => hDW (a1.sub i D z)
    have n0 : (0 : Nat) ≤ sizeLine := Nat.zero_le _
    have a2 : AtB K H0 A1 N1 (fun b => W b ∨ b = D) O (upd H1 D (.lst [])) (wipe σ vs) Γ :=
      ((a1.allocO (o := .lst []) hD (a1.hl.upd_lst n0)).reserve hDA (by rw [upd_same]; exact fun z => by cases z)).wiped rfl (fun _ _ e => e) hv
    refine lc_it w (fun i H => ∃ A N done rest acc, AtB K H0 A N (fun b => W b ∨ b = D) O H (wipe σ vs) Γ ∧ Same A1 A ∧ Same N1 N ∧ Same H1 H ∧ H D = some (.lst acc) ∧ DpAll K (m2.sel A N H) acc ((done : List β).map toD) ∧ cmpO p f (xs.drop i) = some rest ∧ done ++ rest = ys ∧ done.length ≤ i)
      ⟨A1, N1, [], ys, [], a2, Same.refl _, Same.refl _, same_upd hD, upd_same, .nil, by rw [List.drop_zero]; exact h, rfl, Nat.le_refl _⟩ (fun i H _ hP => ?_) (fun i x H H' hi' hP hYx => ?_) (fun H hP => ?_)
    · obtain ⟨A, N, done, rest, acc, a3, u1, _⟩ := hP
      exact hG H (u1.trans a3.ah)
    · obtain ⟨A, N, done, rest, acc, a3, u1, u2, u3, hDl, hq, hr, hd, hn⟩ := hP
      obtain ⟨A4, N4, d, a4, v1, v2, v3, hdd, qx⟩ := hY i A N _ O H _ Γ x H' a3 u1 u2 hi' hYx
      rw [List.getElem?_map] at hdd
      obtain ⟨xi, hxi, rfl⟩ := Option.map_eq_some_iff.mp hdd
      rw [List.drop_eq_getElem?_toList_append, hxi] at hr
      have hr' : cmpO p f (xi :: xs.drop (i + 1)) = some rest := hr
      simp only [cmpO] at hr'
      obtain ⟨b, hb, hr'⟩ := bind_some_iff hr'
      refine hg xi x _ a4 qx fun σ' a5 hw' => ?_
      rw [wipe_wipe] at hw'
      refine ⟨hw', ht xi b hb _ a5 fun A6 N6 H6 a6 x1 x2 x3 => ?_⟩
      have hDl6 : H6 D = some (.lst acc) := x3 _ _ (v3 _ _ hDl)
      have hq6 : DpAll K (m2.sel A6 N6 H6) acc (done.map toD) := dpAll_mono (Md.sel_mono (v1.trans x1) (v2.trans x2) (v3.trans x3)) hq
      have back : ∀ {A N H}, AtB K H0 A N (fun b => W b ∨ b = D) O H σ' (Γ2 xi) → AtB K H0 A N (fun b => W b ∨ b = D) O H (wipe σ vs) Γ := fun a => by
        have := a.wiped (vs := vs) (hl xi) (hs xi) hv
        rwa [hw'] at this
      cases b with
      | false =>
        rw [if_neg Bool.false_ne_true] at hr' ⊢
        exact ⟨A6, N6, done, rest, acc, back a6, (u1.trans v1).trans x1, (u2.trans v2).trans x2, (u3.trans v3).trans x3, hDl6, hq6, hr', hd, by omega⟩
      | true =>
        rw [if_pos rfl] at hr' ⊢
        obtain ⟨y, hy, hr'⟩ := bind_some_iff hr'
        obtain ⟨rest', hr2, e⟩ := bind_some_iff hr'
        cases e
        refine he xi y hy _ a6 fun A7 N7 H7 v a7 z1 z2 z3 q7 => ?_
        have hDl7 := z3 _ _ hDl6
        have hq7 : DpAll K (m2.sel A7 N7 H7) acc (done.map toD) := dpAll_mono (Md.sel_mono z1 z2 z3) hq6
        have hlen : acc.length < sizeLine := by
          have e1 := dpAll_len hq7
          rw [List.length_map] at e1
          omega
        refine ⟨acc, hDl7, hlen, A7, N7, done ++ [y], rest', acc ++ [v], write_D (back a7) (.inr rfl) hDO (by rw [List.length_append]; exact hlen), ((u1.trans v1).trans x1).trans z1, ((u2.trans v2).trans x2).trans z2, same_updR (((u3.trans v3).trans x3).trans z3) hD, upd_same, ?_, hr2, by rw [List.append_assoc]; exact hd, by rw [List.length_append]; show done.length + 1 ≤ i + 1; omega⟩
        rw [List.map_append]
        exact sel_upd hm (dpAll_app hq7 (.cons q7 .nil))
    · obtain ⟨A, N, done, rest, acc, a3, u1, u2, u3, hDl, hq, hr, hd, hn⟩ := hP
      rw [List.length_map, List.drop_length] at hr
      have e : rest = [] := (Option.some.inj hr).symm
      subst e
      rw [List.append_nil] at hd
      subst hd
      have a4 : AtB K H0 A N W O H (wipe σ vs) Γ := a3.unreserve (fun _ h => .inl h) a1.sub
      have a5 : AtB K H0 A N W O H σ Γ := { a4 with
        len := a.len
        cs := fun i c e => by
          obtain ⟨x, e1, q⟩ := a4.cs i c e
          exact ⟨x, (wipe_some e1).1, q⟩ }
      exact k A N H D acc a5 (s1.trans u1) (s2.trans u2) (s3.trans u3) (s3.free hD) (a3.own D (.inr rfl)).1 hDW hDl hq
theorem t_yes : EvT K H0 Γ tYes true := fun A N W O H σ Q a k => k A N H a (Same.refl _) (Same.refl _) (Same.refl _)
theorem set_keep {i : Nat} {c' : Option Cell} (hv : Γ[i]? = some none) (j : Nat) (c : Cell) (e : Γ[j]? = some (some c)) : (Γ.set i c')[j]? = some (some c) := by
  have h : i ≠ j := fun z => by subst z; rw [hv] at e; cases e
  rw [List.getElem?_set_ne h]; exact e
theorem lt_of_get {i : Nat} {c : Option Cell} (h : Γ[i]? = some c) : i < Γ.length := (List.getElem?_eq_some_iff.mp h).1
/-- [f(x) for x in xs if p(x)] -/
theorem o_lc1 {α β : Type} [ToD α] [ToD β] {i : Nat} {xs : List α} {ys : List β} {p : α → Option Bool} {f : α → Option β} (hi : EvI K H0 Γ wi m1 (xs.map toD)) (hm1 : m1 ≠ .h)
    (ht : ∀ x b, p x = some b → EvT K H0 (Γ.set i (some (.v m1 (toD x)))) tt b) (he : ∀ x y, f x = some y → Ev K H0 (Γ.set i (some (.v m1 (toD x)))) te m2 (toD y)) (h : cmpO p f xs = some ys) (hm : m2 ≠ .h) (hv : Γ[i]? = some none := by rfl) : EvO K H0 Γ (tLc wi (gName i) tt te [i]) m2 (ys.map toD) :=
  o_lc (Γ2 := fun x => Γ.set i (some (.v m1 (toD x)))) hi (fun j hj => by rw [List.mem_singleton.mp hj]; exact hv) (fun x => g_name hm1 (lt_of_get hv)) (fun x => by rw [List.length_set]) (fun x j c e => set_keep hv j c e) ht he hm h
theorem o_map1 {α β : Type} [ToD α] [ToD β] {i : Nat} {xs : List α} {ys : List β} {f : α → Option β} (hi : EvI K H0 Γ wi m1 (xs.map toD)) (hm1 : m1 ≠ .h)
    (he : ∀ x y, f x = some y → Ev K H0 (Γ.set i (some (.v m1 (toD x)))) te m2 (toD y)) (h : mapO f xs = some ys) (hm : m2 ≠ .h) (hv : Γ[i]? = some none := by rfl) : EvO K H0 Γ (tLc wi (gName i) tYes te [i]) m2 (ys.map toD) :=
  o_lc1 (p := fun _ => some true) hi hm1 (fun x b e => by cases e; exact t_yes) he (by rw [← mapO_cmp]; exact h) hm hv
/-- [f(x, y) for x, y in xs if p(x, y)] -/
theorem o_lc2 {α β γ : Type} [ToD α] [ToD β] [ToD γ] {i j : Nat} {xs : List (α × β)} {ys : List γ} {p : α × β → Option Bool} {f : α × β → Option γ} (hi : EvI K H0 Γ wi m1 (xs.map toD)) (hm1 : m1 ≠ .h)
    (ht : ∀ x b, p x = some b → EvT K H0 ((Γ.set i (some (.v m1 (toD x.1)))).set j (some (.v m1 (toD x.2)))) tt b) (he : ∀ x y, f x = some y → Ev K H0 ((Γ.set i (some (.v m1 (toD x.1)))).set j (some (.v m1 (toD x.2)))) te m2 (toD y)) (h : cmpO p f xs = some ys) (hm : m2 ≠ .h)
    (hv : Γ[i]? = some none := by rfl) (hw : Γ[j]? = some none := by rfl) (hij : i ≠ j := by decide) : EvO K H0 Γ (tLc wi (gTup K 2 (gCons (gName i) (gCons (gName j) gNil))) tt te [i, j]) m2 (ys.map toD) :=
  o_lc (Γ2 := fun x => (Γ.set i (some (.v m1 (toD x.1)))).set j (some (.v m1 (toD x.2)))) hi (fun k hk => by
      rcases List.mem_cons.mp hk with rfl | hk
      · exact hv
      · rw [List.mem_singleton.mp hk]; exact hw) (fun x => g_pair hm1 hij (lt_of_get hv) (lt_of_get hw)) (fun x => by rw [List.length_set, List.length_set])
    (fun x k c e => set_keep (by rw [List.getElem?_set_ne hij]; exact hw) k c (set_keep hv k c e)) ht he hm h
theorem o_map2 {α β γ : Type} [ToD α] [ToD β] [ToD γ] {i j : Nat} {xs : List (α × β)} {ys : List γ} {f : α × β → Option γ} (hi : EvI K H0 Γ wi m1 (xs.map toD)) (hm1 : m1 ≠ .h)
    (he : ∀ x y, f x = some y → Ev K H0 ((Γ.set i (some (.v m1 (toD x.1)))).set j (some (.v m1 (toD x.2)))) te m2 (toD y)) (h : mapO f xs = some ys) (hm : m2 ≠ .h)
    (hv : Γ[i]? = some none := by rfl) (hw : Γ[j]? = some none := by rfl) (hij : i ≠ j := by decide) : EvO K H0 Γ (tLc wi (gTup K 2 (gCons (gName i) (gCons (gName j) gNil))) tYes te [i, j]) m2 (ys.map toD) :=
  o_lc2 (p := fun _ => some true) hi hm1 (fun x b e => by cases e; exact t_yes) he (by rw [← mapO_cmp]; exact h) hm hv hw hij
end
end Mir

namespace Mir
open PySem PySem.Spec L2
open ToD (toD)
set_option autoImplicit false
/-! ## 9. blocks -/
/-- how a block ends: with a value handed back, or going on with what its names hold -/
inductive Fl (ρ τ : Type) where
  | ret (r : ρ)
  | nxt (t : τ)
def idF {ρ τ : Type} (x : Fl ρ τ) : Fl ρ τ := x
def flR {ρ τ : Type} (k : τ → Option ρ) : Fl ρ τ → Option ρ
  | .ret r => some r
  | .nxt st => k st
def flF {ρ τ υ : Type} (k : τ → Option (Fl ρ υ)) : Fl ρ τ → Option (Fl ρ υ)
  | .ret r => some (.ret r)
  | .nxt st => k st
def retF {ρ τ : Type} (r : ρ) : Option (Fl ρ τ) := some (.ret r)
@[irreducible] def lt {α β : Type} (a : α) (k : α → β) : β := k a
theorem lt_def {α β : Type} (a : α) (k : α → β) : lt a k = k a := by unfold lt; rfl
def forO {α τ : Type} (f : τ → α → Option τ) : List α → τ → Option τ
  | [], st => some st
  | x :: xs, st => (f st x).bind fun st' => forO f xs st'
def forF {α ρ τ : Type} (f : τ → α → Option (Fl ρ τ)) : List α → τ → Option (Fl ρ τ)
  | [], st => some (.nxt st)
  | x :: xs, st => (f st x).bind (flF fun st' => forF f xs st')
def whN {τ : Type} (c : τ → Option Bool) (f : τ → Option τ) : Nat → τ → Option τ
  | 0, _ => none
  | n + 1, st => (c st).bind fun b => if b = true then (f st).bind fun st' => whN c f n st' else some st
def whNF {ρ τ : Type} (c : τ → Option Bool) (f : τ → Option (Fl ρ τ)) : Nat → τ → Option (Fl ρ τ)
  | 0, _ => none
  | n + 1, st => (c st).bind fun b => if b = true then (f st).bind (flF fun st' => whNF c f n st') else some (.nxt st)
open Classical in
/-- while c: f, where it ends -/
noncomputable def whileO {τ : Type} (c : τ → Option Bool) (f : τ → Option τ) (st : τ) : Option τ := if h : ∃ n r, whN c f n st = some r then some (Classical.choose (Classical.choose_spec h)) else none
open Classical in
noncomputable def whileF {ρ τ : Type} (c : τ → Option Bool) (f : τ → Option (Fl ρ τ)) (st : τ) : Option (Fl ρ τ) := if h : ∃ n r, whNF c f n st = some r then some (Classical.choose (Classical.choose_spec h)) else none
theorem whN_mono {τ : Type} {c : τ → Option Bool} {f : τ → Option τ} : ∀ {n m : Nat} {st r : τ}, n ≤ m → whN c f n st = some r → whN c f m st = some r
  | 0, _, _, _, _, h => by cases h
  | n + 1, 0, _, _, hm, _ => by omega
  | n + 1, m + 1, st, r, hm, h => by
    simp only [whN] at h ⊢
    obtain ⟨b, hb, h⟩ := bind_some_iff h
    rw [hb, Option.bind_some]
    cases b with
    | false => exact h
    | true =>
      rw [if_pos rfl] at h ⊢
      obtain ⟨st', hs, h⟩ := bind_some_iff h
      rw [hs, Option.bind_some]
      exact whN_mono (by omega) h
theorem whNF_mono {ρ τ : Type} {c : τ → Option Bool} {f : τ → Option (Fl ρ τ)} : ∀ {n m : Nat} {st : τ} {r : Fl ρ τ}, n ≤ m → whNF c f n st = some r → whNF c f m st = some r
  | 0, _, _, _, _, h => by cases h
  | n + 1, 0, _, _, hm, _ => by omega
  | n + 1, m + 1, st, r, hm, h => by
    simp only [whNF] at h ⊢
    obtain ⟨b, hb, h⟩ := bind_some_iff h
    rw [hb, Option.bind_some]
    cases b with
    | false => exact h
    | true =>
      rw [if_pos rfl] at h ⊢
      obtain ⟨st', hs, h⟩ := bind_some_iff h
      rw [hs, Option.bind_some]
      cases st' with
      | ret r' => exact h
      | nxt st' => exact whNF_mono (n := n) (m := m) (by omega) h
theorem whileO_of {τ : Type} {c : τ → Option Bool} {f : τ → Option τ} {st r : τ} {n : Nat} (h : whN c f n st = some r) : whileO c f st = some r := by
  unfold whileO
  have hx : ∃ n r, whN c f n st = some r := ⟨n, r, h⟩
  rw [dif_pos hx]
  have q := Classical.choose_spec (Classical.choose_spec hx)
  have e1 := whN_mono (Nat.le_max_left n (Classical.choose hx)) h
  have e2 := whN_mono (Nat.le_max_right n (Classical.choose hx)) q
  exact e2.symm.trans e1
theorem whileO_to {τ : Type} {c : τ → Option Bool} {f : τ → Option τ} {st r : τ} (h : whileO c f st = some r) : ∃ n, whN c f n st = some r := by
  unfold whileO at h
  split at h
  · rename_i hx
    cases h
    exact ⟨_, Classical.choose_spec (Classical.choose_spec hx)⟩
  · cases h
theorem whileF_of {ρ τ : Type} {c : τ → Option Bool} {f : τ → Option (Fl ρ τ)} {st : τ} {r : Fl ρ τ} {n : Nat} (h : whNF c f n st = some r) : whileF c f st = some r := by
  unfold whileF
  have hx : ∃ n r, whNF c f n st = some r := ⟨n, r, h⟩
  rw [dif_pos hx]
  have q := Classical.choose_spec (Classical.choose_spec hx)
  have e1 := whNF_mono (Nat.le_max_left n (Classical.choose hx)) h
  have e2 := whNF_mono (Nat.le_max_right n (Classical.choose hx)) q
  exact e2.symm.trans e1
theorem whileF_to {ρ τ : Type} {c : τ → Option Bool} {f : τ → Option (Fl ρ τ)} {st : τ} {r : Fl ρ τ} (h : whileF c f st = some r) : ∃ n, whNF c f n st = some r := by
  unfold whileF at h
  split at h
  · rename_i hx
    cases h
    exact ⟨_, Classical.choose_spec (Classical.choose_spec hx)⟩
  · cases h

/-- Γ' says less than Γ -/
inductive Sub : Option Cell → Option Cell → Prop where
  | refl (c : Option Cell) : Sub c c
  | drop (c : Option Cell) : Sub c none
  | sn (d : PyData) : Sub (some (.v .n d)) (some (.v .s d))
  | so (ds : List PyData) : Sub (some (.o .n ds)) (some (.o .s ds))
inductive Wk : Ctx → Ctx → Prop where
  | nil : Wk [] []
  | cons {c c' : Option Cell} {Γ Γ' : Ctx} : Sub c c' → Wk Γ Γ' → Wk (c :: Γ) (c' :: Γ')
theorem Wk.len : ∀ {Γ Γ' : Ctx}, Wk Γ Γ' → Γ'.length = Γ.length
  | _, _, .nil => rfl
  | _, _, .cons _ w => by rw [List.length_cons, List.length_cons, w.len]
theorem Wk.get : ∀ {Γ Γ' : Ctx} {i : Nat} {c : Cell}, Wk Γ Γ' → Γ'[i]? = some (some c) → ∃ c0, Γ[i]? = some (some c0) ∧ Sub (some c0) (some c)
  | _, _, _, _, .nil, h => by simp at h
  | _, _, 0, c, .cons (c := c1) s w, h => by
    have e := Option.some.inj h
    subst e
    cases s with
    | refl => exact ⟨c, rfl, .refl _⟩
    | sn d => exact ⟨_, rfl, .sn d⟩
    | so d => exact ⟨_, rfl, .so d⟩
  | _, _, i + 1, c, .cons s w, h => by
    obtain ⟨c0, e, q⟩ := Wk.get (i := i) w (by simpa using h)
    exact ⟨c0, by simpa using e, q⟩
theorem AtB.wk {K : PySem.W.Frag} {H0 : Base} {A N : Hp} {W : Addr → Prop} {O : Nat → List Addr} {H : Hp} {σ : St} {Γ Γ' : Ctx} (a : AtB K H0 A N W O H σ Γ) (w : Wk Γ Γ') : AtB K H0 A N W O H σ Γ' :=
  { a with
    len := w.len.trans a.len
    cs := fun i c e => by
      obtain ⟨c0, e0, s⟩ := w.get e
      obtain ⟨x, ex, q⟩ := a.cs i c0 e0
      refine ⟨x, ex, ?_⟩
      cases s with
      | refl => exact q
      | sn d => exact ⟨(fun z => by cases z), dp_mono a.na q.2⟩
      | so d =>
        obtain ⟨_, l, vs, e1, e2, e3, q⟩ := q
        exact ⟨(fun z => by cases z), l, vs, e1, e2, e3, dpAll_mono a.na q⟩ }
section
variable {K : PySem.W.Frag} {H0 : Base} {ρ τ υ ω : Type} {R : ρ → V → Hp → Prop} {Γ Γ2 : Ctx} {t u ta tb : TS} {Γ' : τ → Ctx} {I : ω → Fl ρ τ} {te : TE} {ts : TA} {tt : TT} {md m1 : Md} {d d1 d2 : PyData} {ds : List PyData}
def Blk (K : PySem.W.Frag) (H0 : Base) (R : ρ → V → Hp → Prop) (Γ : Ctx) (t : TS) (Γ' : τ → Ctx) (I : ω → Fl ρ τ) (m : Option ω) : Prop :=
  ∀ w, m = some w → ∀ (D : Ends) ⦃A N : Hp⦄ ⦃W : Addr → Prop⦄ ⦃O : Nat → List Addr⦄ ⦃H : Hp⦄ ⦃σ : St⦄, AtB K H0 A N W O H σ Γ →
    (∀ st, I w = .nxt st → ∀ A' N' W' O' H' σ', AtB K H0 A' N' W' O' H' σ' (Γ' st) → Same A A' → Same N N' → D.nx σ' H') → (∀ r, I w = .ret r → ∀ v H', R r v H' → D.rt v H') → t D σ H
/-- what is handed back: a new thing that stands for r -/
def RetS (K : PySem.W.Frag) (H0 : Base) {α : Type} [ToD α] (r : α) (v : V) (H : Hp) : Prop := Same H0 H ∧ HLen H ∧ ∃ N, (∀ b o, N b = some o → H0.Fr b o) ∧ Same N H ∧ Dp K N v (toD r)
def RetO (K : PySem.W.Frag) (H0 : Base) {α : Type} [ToD α] (r : List α) (v : V) (H : Hp) : Prop := Same H0 H ∧ HLen H ∧ ∃ N l ws, v = .ref l ∧ (∀ b o, N b = some o → H0.Fr b o) ∧ Same N H ∧ H0 l = none ∧ N l = none ∧ H l = some (.lst ws) ∧ DpAll K N ws (r.map toD)
def RetP (K : PySem.W.Frag) (H0 : Base) {α : Type} [ToD α] (r : List (List α)) (v : V) (H : Hp) : Prop := Same H0 H ∧ HLen H ∧ ∃ N l ls, v = .ref l ∧ (∀ b o, N b = some o → H0.Fr b o) ∧ Same N H ∧ (∀ k ∈ l :: ls, H0 k = none ∧ N k = none) ∧ (l :: ls).Nodup ∧ H l = some (.lst (ls.map V.ref)) ∧ Rows K N H ls (r.map (·.map toD))

theorem b_bind {α : Type} {m : Option α} {k : α → Option ω} (h : ∀ a, m = some a → Blk K H0 R Γ t Γ' I (k a)) : Blk K H0 R Γ t Γ' I (m.bind k) := fun w hw => by
  obtain ⟨a, e, hw⟩ := bind_some_iff hw
  exact h a e w hw
theorem b_let {α : Type} {a : α} {k : α → Option ω} (h : ∀ x, x = a → Blk K H0 R Γ t Γ' I (k x)) : Blk K H0 R Γ t Γ' I (lt a k) := by rw [lt_def]; exact h a rfl
theorem b_asg {i : Nat} {m : Option ω} (he : Ev K H0 Γ te md d) (hm : md ≠ .h) (hi : i < Γ.length) (hΓ : Γ.set i (some (.v md d)) = Γ2) (rest : Blk K H0 R Γ2 u Γ' I m) : Blk K H0 R Γ (tSeq (tAsg te (gName i)) u) Γ' I m := fun w hw D A N W O H σ a kn kr =>
  he _ a fun A1 N1 H1 v a1 s1 s2 s3 q => by
    subst hΓ
    exact rest w hw D (a1.setv hi hm q) (fun st e A' N' W' O' H' σ' a' x1 x2 => kn st e A' N' W' O' H' σ' a' (s1.trans x1) (s2.trans x2)) kr
theorem b_asgO {α : Type} [ToD α] {xs : List α} {i : Nat} {m : Option ω} (he : EvO K H0 Γ te md (xs.map toD)) (hm : md ≠ .h) (hi : i < Γ.length) (hΓ : Γ.set i (some (.o md (xs.map toD))) = Γ2) (rest : Blk K H0 R Γ2 u Γ' I m) : Blk K H0 R Γ (tSeq (tAsg te (gName i)) u) Γ' I m := fun w hw D A N W O H σ a kn kr =>
  he _ a fun A1 N1 H1 l vs a1 s1 s2 s3 h1 h2 h3 h4 q => by
    subst hΓ
    have a2 := a1.seto (i := i) (x := .ref l) (c := .o md (xs.map toD)) (L := [l]) hi (fun k hk => by rw [List.mem_singleton.mp hk]; exact ⟨h3, h2, fun z => by rw [h4] at z; cases z⟩) (List.nodup_cons.mpr ⟨by simp, .nil⟩) ⟨hm, l, vs, rfl, rfl, h4, q⟩
    exact rest w hw D a2 (fun st e A' N' W' O' H' σ' a' x1 x2 => kn st e A' N' W' O' H' σ' a' (s1.trans x1) (s2.trans x2)) kr
theorem b_asgP {α : Type} [ToD α] {xss : List (List α)} {i : Nat} {m : Option ω} (he : EvP K H0 Γ te md (xss.map (·.map toD))) (hm : md ≠ .h) (hi : i < Γ.length) (hΓ : Γ.set i (some (.p md (xss.map (·.map toD)))) = Γ2) (rest : Blk K H0 R Γ2 u Γ' I m) : Blk K H0 R Γ (tSeq (tAsg te (gName i)) u) Γ' I m := fun w hw D A N W O H σ a kn kr =>
  he _ a fun A1 N1 H1 l ls a1 s1 s2 s3 h1 hnd h4 q => by
    subst hΓ
    have hne : ∀ k ∈ l :: ls, H1 k ≠ none := by
      intro k hk
      rcases List.mem_cons.mp hk with rfl | hk
      · rw [h4]; exact fun z => by cases z
      · have rows_ne : ∀ {S : Hp} {ls : List Addr} {dss : List (List PyData)}, Rows K S H1 ls dss → ∀ k ∈ ls, H1 k ≠ none := by
          intro S ls
          induction ls with
          | nil => intro dss _ k hk; cases hk
          | cons m ls ih =>
            intro dss hr k hk
            cases dss with
            | nil => exact hr.elim
            | cons ds dss =>
              obtain ⟨⟨vs, e, _⟩, r⟩ := hr
              rcases List.mem_cons.mp hk with rfl | hk
              · rw [e]; exact fun z => by cases z
              · exact ih r k hk
        exact rows_ne q k hk
    have a2 := a1.seto (i := i) (x := .ref l) (c := .p md (xss.map (·.map toD))) (L := l :: ls) hi (fun k hk => ⟨(h1 k hk).2.2, (h1 k hk).2.1, hne k hk⟩) hnd ⟨hm, l, ls, rfl, rfl, h4, q⟩
    exact rest w hw D a2 (fun st e A' N' W' O' H' σ' a' x1 x2 => kn st e A' N' W' O' H' σ' a' (s1.trans x1) (s2.trans x2)) kr
/-- a, b = e and its like -/
theorem b_tg {g : TG} {vs : List Nat} {m : Option ω} (he : Ev K H0 Γ te md d) (hg : Tg K H0 g md d vs Γ Γ2) (rest : Blk K H0 R Γ2 u Γ' I m) : Blk K H0 R Γ (tSeq (tAsg te g) u) Γ' I m := fun w hw D A N W O H σ a kn kr =>
  he _ a fun A1 N1 H1 v a1 s1 s2 s3 q => hg v _ a1 q fun σ' a2 _ => rest w hw D a2 (fun st e A' N' W' O' H' σ' a' x1 x2 => kn st e A' N' W' O' H' σ' a' (s1.trans x1) (s2.trans x2)) kr
/-- a, b = e, f -/
theorem b_par {i j : Nat} {m : Option ω} (hs : EvA K H0 Γ ts md [d1, d2]) (hm : md ≠ .h) (hi : i < Γ.length) (hj : j < Γ.length) (hΓ : (Γ.set i (some (.v md d1))).set j (some (.v md d2)) = Γ2) (rest : Blk K H0 R Γ2 u Γ' I m) : Blk K H0 R Γ (tSeq (tPar i j ts) u) Γ' I m := fun w hw D A N W O H σ a kn kr =>
  hs _ a fun A1 N1 H1 vs a1 s1 s2 s3 q => by
    obtain ⟨x, y, rfl, q1, q2⟩ := dpAll_two q
    subst hΓ
    exact ⟨x, y, rfl, rest w hw D ((a1.setv hi hm q1).setv (by rw [List.length_set]; exact hj) hm q2) (fun st e A' N' W' O' H' σ' a' x1 x2 => kn st e A' N' W' O' H' σ' a' (s1.trans x1) (s2.trans x2)) kr⟩
theorem b_pass {m : Option ω} (rest : Blk K H0 R Γ u Γ' I m) : Blk K H0 R Γ (tSeq tNext u) Γ' I m := fun w hw D A N W O H σ a kn kr => rest w hw D a kn kr
/-- an expression whose value is dropped -/
theorem b_drop {m : Option ω} (he : Ev K H0 Γ te md d) (rest : Blk K H0 R Γ u Γ' I m) : Blk K H0 R Γ (tSeq (tDrop te) u) Γ' I m := fun w hw D A N W O H σ a kn kr =>
  he _ a fun A1 N1 H1 v a1 s1 s2 s3 q => rest w hw D a1 (fun st e A' N' W' O' H' σ' a' x1 x2 => kn st e A' N' W' O' H' σ' a' (s1.trans x1) (s2.trans x2)) kr
/-- an own list will not be changed any more -/
theorem b_freeze {i : Nat} {m : Option ω} (h : Γ[i]? = some (some (.o md ds))) (hΓ : Γ.set i (some (.v md (.list ds))) = Γ2) (rest : Blk K H0 R Γ2 t Γ' I m) : Blk K H0 R Γ t Γ' I m := fun w hw D A N W O H σ a kn kr => by
  subst hΓ
  obtain ⟨x, ex, hm, l, vs, rfl, eO, el, q⟩ := a.cs i _ h
  have hl : l ∈ O i := by rw [eO]; exact List.mem_cons_self
  have hw' := a.sub i l hl
  have hA : A l = none := (a.own l hw').1
  have a0 : AtB K H0 A N (fun b => W b ∧ b ≠ l) (fun j => if j = i then [] else O j) H σ (Γ.set i none) :=
    { a with
      own := fun b w => a.own b w.1
      sub := fun j k hk => by
        by_cases z : j = i
        · rw [if_pos z] at hk; cases hk
        · rw [if_neg z] at hk
          exact ⟨a.sub j k hk, fun e => z (a.dj j i k hk (e ▸ hl))⟩
      dj := fun j k b h1 h2 => by
        by_cases z : j = i
        · rw [if_pos z] at h1; cases h1
        · by_cases z2 : k = i
          · rw [if_pos z2] at h2; cases h2
          · rw [if_neg z] at h1; rw [if_neg z2] at h2; exact a.dj j k b h1 h2
      nd := fun j => by
        by_cases z : j = i
        · rw [if_pos z]; exact .nil
        · rw [if_neg z]; exact a.nd j
      len := by rw [List.length_set]; exact a.len
      cs := fun j c e => by
        by_cases z : j = i
        · subst z; rw [List.getElem?_set_self (lt_of_get h)] at e; cases e
        · rw [List.getElem?_set_ne (Ne.symm z)] at e
          rw [if_neg z]
          exact a.cs j c e }
  have a1 := a0.freeze hA (fun z => z.2 rfl) el
  have e1 : Same A (upd A l (.lst vs)) := same_upd hA
  have e2 : Same N (upd N l (.lst vs)) := same_upd (a.na.free hA)
  have hi := lt_of_get h
  have q' : Dp K (md.sel (upd A l (.lst vs)) (upd N l (.lst vs)) H) (.ref l) (.list ds) := by
    cases md
    · exact absurd rfl hm
    · exact .lst (.inl (.inl upd_same)) (dpAll_mono e1 q)
    · exact .lst (.inl (.inl upd_same)) (dpAll_mono e2 q)
  have a2 : AtB K H0 (upd A l (.lst vs)) (upd N l (.lst vs)) (fun b => W b ∧ b ≠ l) (fun j => if j = i then [] else O j) H σ (Γ.set i (some (.v md (.list ds)))) :=
    { a1 with
      len := by rw [List.length_set]; exact a.len
      cs := fun j c e => by
        by_cases z : j = i
        · subst z
          rw [List.getElem?_set_self hi] at e; cases e
          exact ⟨_, ex, hm, q'⟩
        · rw [List.getElem?_set_ne (Ne.symm z)] at e
          exact a1.cs j c (by rw [List.getElem?_set_ne (Ne.symm z)]; exact e) }
  exact rest w hw D a2 (fun st e A' N' W' O' H' σ' a' x1 x2 => kn st e A' N' W' O' H' σ' a' (e1.trans x1) (e2.trans x2)) kr

/-! ### ends -/
theorem b_end {st : τ} (h : Wk Γ (Γ' st)) : Blk K H0 R Γ tNext Γ' Fl.nxt (some st) := fun w hw D A N W O H σ a kn kr => by
  cases hw
  exact kn st rfl A N W O H σ (a.wk h) (Same.refl _) (Same.refl _)
theorem b_endF {st : τ} (h : Wk Γ (Γ' st)) : Blk K H0 R Γ tNext Γ' idF (some (Fl.nxt st)) := fun w hw D A N W O H σ a kn kr => by
  cases hw
  exact kn st rfl A N W O H σ (a.wk h) (Same.refl _) (Same.refl _)
theorem AtB.retS {α : Type} [ToD α] {r : α} {A N : Hp} {W : Addr → Prop} {O : Nat → List Addr} {H : Hp} {σ : St} {v : V} (a : AtB K H0 A N W O H σ Γ) (q : Dp K N v (toD r)) : RetS K H0 r v H :=
  ⟨a.h0h, a.hl, N, a.fr, a.na.trans a.ah, q⟩
theorem b_ret {α : Type} [ToD α] {r : α} {Γ' : τ → Ctx} (he : Ev K H0 Γ te .n (toD r)) : Blk K H0 (RetS K H0) Γ (tSeq (tRet te) u) Γ' Fl.ret (some r) := fun w hw D A N W O H σ a kn kr => by
  cases hw
  exact he _ a fun A1 N1 H1 v a1 s1 s2 s3 q => kr r rfl v H1 (a1.retS q)
theorem b_retF {α : Type} [ToD α] {r : α} {Γ' : τ → Ctx} (he : Ev K H0 Γ te .n (toD r)) : Blk K H0 (RetS K H0) Γ (tSeq (tRet te) u) Γ' idF (retF r) := fun w hw D A N W O H σ a kn kr => by
  cases hw
  exact he _ a fun A1 N1 H1 v a1 s1 s2 s3 q => kr r rfl v H1 (a1.retS q)
theorem b_retO {α : Type} [ToD α] {r : List α} {Γ' : τ → Ctx} (he : EvO K H0 Γ te .n (r.map toD)) : Blk K H0 (RetO K H0) Γ (tSeq (tRet te) u) Γ' Fl.ret (some r) := fun w hw D A N W O H σ a kn kr => by
  cases hw
  exact he _ a fun A1 N1 H1 l vs a1 s1 s2 s3 h1 h2 h3 h4 q => kr r rfl _ H1 ⟨a1.h0h, a1.hl, N1, l, vs, rfl, a1.fr, a1.na.trans a1.ah, a1.h0.free h2, a1.na.free h2, h4, q⟩
theorem b_retP {α : Type} [ToD α] {r : List (List α)} {Γ' : τ → Ctx} (he : EvP K H0 Γ te .n (r.map (·.map toD))) : Blk K H0 (RetP K H0) Γ (tSeq (tRet te) u) Γ' Fl.ret (some r) := fun w hw D A N W O H σ a kn kr => by
  cases hw
  exact he _ a fun A1 N1 H1 l ls a1 s1 s2 s3 h1 hnd h4 q => kr r rfl _ H1 ⟨a1.h0h, a1.hl, N1, l, ls, rfl, a1.fr, a1.na.trans a1.ah, fun k hk => ⟨a1.h0.free (h1 k hk).2.1, a1.na.free (h1 k hk).2.1⟩, hnd, h4, q⟩
/-- an own list is handed back -/
theorem AtB.retOv {α : Type} [ToD α] {i : Nat} {r : List α} {A N : Hp} {W : Addr → Prop} {O : Nat → List Addr} {H : Hp} {σ : St} (a : AtB K H0 A N W O H σ Γ) (h : Γ[i]? = some (some (.o .n (r.map toD)))) : ∃ v, σ[i]? = some (some v) ∧ RetO K H0 r v H := by
  obtain ⟨x, ex, hm, l, vs, rfl, eO, el, q⟩ := a.cs i _ h
  have hA := (a.own l (a.sub i l (by rw [eO]; exact List.mem_cons_self))).1
  exact ⟨_, ex, a.h0h, a.hl, N, l, vs, rfl, a.fr, a.na.trans a.ah, a.h0.free hA, a.na.free hA, el, q⟩
theorem RetO.s {α : Type} [ToD α] {r : List α} {v : V} {H : Hp} (h : RetO K H0 r v H) : RetS K H0 r v H := by
  obtain ⟨h0, hl, N, l, vs, rfl, fr, na, h0l, nl, el, q⟩ := h
  refine ⟨h0, hl, upd N l (.lst vs), fun b o e => ?_, fun b o e => ?_, .lst (.inl (.inl upd_same)) (dpAll_mono (same_upd nl) q)⟩
  · by_cases z : b = l
    · subst z; exact .inl h0l
    · rw [upd_ne z] at e; exact fr b o e
  · by_cases z : b = l
    · subst z; rw [upd_same] at e; cases e; exact el
    · rw [upd_ne z] at e; exact na b o e
theorem b_retOv {α : Type} [ToD α] {i : Nat} {r : List α} {Γ' : τ → Ctx} (h : Γ[i]? = some (some (.o .n (r.map toD))) := by rfl) : Blk K H0 (RetO K H0) Γ (tSeq (tRet (tVar i)) u) Γ' Fl.ret (some r) := fun w hw D A N W O H σ a kn kr => by
  cases hw
  obtain ⟨v, e, q⟩ := a.retOv h
  exact ⟨v, e, kr r rfl v H q⟩
theorem b_retSv {α : Type} [ToD α] {i : Nat} {r : List α} {Γ' : τ → Ctx} (h : Γ[i]? = some (some (.o .n (r.map toD))) := by rfl) : Blk K H0 (RetS K H0) Γ (tSeq (tRet (tVar i)) u) Γ' Fl.ret (some r) := fun w hw D A N W O H σ a kn kr => by
  cases hw
  obtain ⟨v, e, q⟩ := a.retOv h
  exact ⟨v, e, kr r rfl v H q.s⟩
theorem b_retSvF {α : Type} [ToD α] {i : Nat} {r : List α} {Γ' : τ → Ctx} (h : Γ[i]? = some (some (.o .n (r.map toD))) := by rfl) : Blk K H0 (RetS K H0) Γ (tSeq (tRet (tVar i)) u) Γ' idF (retF r) := fun w hw D A N W O H σ a kn kr => by
  cases hw
  obtain ⟨v, e, q⟩ := a.retOv h
  exact ⟨v, e, kr r rfl v H q.s⟩
theorem rows_n {S H : Hp} : ∀ {ls : List Addr} {dss : List (List PyData)}, Rows K S H ls dss → (∀ l ∈ ls, S l = none) → ls.Nodup → ∃ S' : Hp, Same S S' ∧ (∀ b o, S' b = some o → S b = some o ∨ (b ∈ ls ∧ H b = some o)) ∧ DpAll K S' (ls.map V.ref) (dss.map PyData.list)
  | [], [], _, _, _ => ⟨S, Same.refl _, fun b o e => .inl e, .nil⟩
  | l :: ls, ds :: dss, ⟨⟨vs, e, q⟩, r⟩, hn, nd => by
    obtain ⟨h1, h2⟩ := List.nodup_cons.mp nd
    obtain ⟨S', s, hs, qs⟩ := rows_n r (fun k hk => hn k (List.mem_cons_of_mem _ hk)) h2
    have hl : S' l = none := by
      cases z : S' l with
      | none => rfl
      | some o =>
        rcases hs l o z with z | z
        · rw [hn l List.mem_cons_self] at z; cases z
        · exact absurd z.1 h1
    refine ⟨upd S' l (.lst vs), s.trans (same_upd hl), fun b o e' => ?_, .cons (.lst (.inl (.inl upd_same)) (dpAll_mono (s.trans (same_upd hl)) q)) (dpAll_mono (same_upd hl) qs)⟩
    by_cases z : b = l
    · subst z; rw [upd_same] at e'; cases e'; exact .inr ⟨List.mem_cons_self, e⟩
    · rw [upd_ne z] at e'
      exact (hs b o e').imp id fun ⟨x, y⟩ => ⟨List.mem_cons_of_mem _ x, y⟩
  | [], _ :: _, h, _, _ => h.elim
  | _ :: _, [], h, _, _ => h.elim
theorem AtB.retPv {α : Type} [ToD α] {i : Nat} {r : List (List α)} {A N : Hp} {W : Addr → Prop} {O : Nat → List Addr} {H : Hp} {σ : St} (a : AtB K H0 A N W O H σ Γ) (h : Γ[i]? = some (some (.p .n (r.map (·.map toD))))) : ∃ v, σ[i]? = some (some v) ∧ RetP K H0 r v H := by
  obtain ⟨x, ex, hm, l, ls, rfl, eO, el, q⟩ := a.cs i _ h
  have hA : ∀ k ∈ l :: ls, A k = none := fun k hk => (a.own k (a.sub i k (by rw [eO]; exact hk))).1
  exact ⟨_, ex, a.h0h, a.hl, N, l, ls, rfl, a.fr, a.na.trans a.ah, fun k hk => ⟨a.h0.free (hA k hk), a.na.free (hA k hk)⟩, eO ▸ a.nd i, el, q⟩
theorem RetP.s {α : Type} [ToD α] {r : List (List α)} {v : V} {H : Hp} (h : RetP K H0 r v H) : RetS K H0 r v H := by
  obtain ⟨h0, hl, N, l, ls, rfl, fr, na, hk, nd, el, q⟩ := h
  obtain ⟨n1, n2⟩ := List.nodup_cons.mp nd
  obtain ⟨N', s, hs, qs⟩ := rows_n q (fun k z => (hk k (List.mem_cons_of_mem _ z)).2) n2
  have nl : N' l = none := by
    cases z : N' l with
    | none => rfl
    | some o =>
      rcases hs l o z with z | z
      · rw [(hk l List.mem_cons_self).2] at z; cases z
      · exact absurd z.1 n1
  refine ⟨h0, hl, upd N' l (.lst (ls.map V.ref)), fun b o e => ?_, fun b o e => ?_, ?_⟩
  · by_cases z : b = l
    · subst z; exact .inl (hk b List.mem_cons_self).1
    · rw [upd_ne z] at e
      rcases hs b o e with z | z
      · exact fr b o z
      · exact .inl (hk b (List.mem_cons_of_mem _ z.1)).1
  · by_cases z : b = l
    · subst z; rw [upd_same] at e; cases e; exact el
    · rw [upd_ne z] at e
      rcases hs b o e with z | z
      · exact na b o z
      · exact z.2
  · have e : toD r = PyData.list ((r.map (·.map toD)).map PyData.list) := by
      show PyData.list (r.map toD) = _
      rw [List.map_map]; rfl
    rw [e]
    exact .lst (.inl (.inl upd_same)) (dpAll_mono (same_upd nl) qs)
theorem b_retPv {α : Type} [ToD α] {i : Nat} {r : List (List α)} {Γ' : τ → Ctx} (h : Γ[i]? = some (some (.p .n (r.map (·.map toD)))) := by rfl) : Blk K H0 (RetP K H0) Γ (tSeq (tRet (tVar i)) u) Γ' Fl.ret (some r) := fun w hw D A N W O H σ a kn kr => by
  cases hw
  obtain ⟨v, e, q⟩ := a.retPv h
  exact ⟨v, e, kr r rfl v H q⟩
theorem b_retPSv {α : Type} [ToD α] {i : Nat} {r : List (List α)} {Γ' : τ → Ctx} (h : Γ[i]? = some (some (.p .n (r.map (·.map toD)))) := by rfl) : Blk K H0 (RetS K H0) Γ (tSeq (tRet (tVar i)) u) Γ' Fl.ret (some r) := fun w hw D A N W O H σ a kn kr => by
  cases hw
  obtain ⟨v, e, q⟩ := a.retPv h
  exact ⟨v, e, kr r rfl v H q.s⟩

/-! ### if -/
variable {x : Bool}
theorem b_if {τ1 : Type} {Γ1 : τ1 → Ctx} {mA mB : Option τ1} {k : τ1 → Option ω} (hc : EvT K H0 Γ tt x) (hA : x = true → Blk K H0 R Γ ta Γ1 Fl.nxt mA) (hB : x = false → Blk K H0 R Γ tb Γ1 Fl.nxt mB) (rest : ∀ st, Blk K H0 R (Γ1 st) u Γ' I (k st)) :
    Blk K H0 R Γ (tSeq (tIfS tt ta tb) u) Γ' I ((iteO x mA mB).bind k) := fun w hw D A N W O H σ a kn kr => by
  obtain ⟨st, e, hw⟩ := bind_some_iff hw
  refine hc _ a fun A1 N1 H1 a1 s1 s2 s3 => ?_
  have fin : ∀ A' N' W' O' H' σ', AtB K H0 A' N' W' O' H' σ' (Γ1 st) → Same A1 A' → Same N1 N' → u D σ' H' := fun A' N' W' O' H' σ' a' x1 x2 =>
    rest st w hw D a' (fun st' e' A'' N'' W'' O'' H'' σ'' a'' y1 y2 => kn st' e' A'' N'' W'' O'' H'' σ'' a'' ((s1.trans x1).trans y1) ((s2.trans x2).trans y2)) kr
  cases x with
  | true => rw [if_pos rfl]; exact hA rfl st e _ a1 (fun st' e' => by cases e'; exact fin) (fun r e' => by cases e')
  | false => rw [if_neg Bool.false_ne_true]; exact hB rfl st e _ a1 (fun st' e' => by cases e'; exact fin) (fun r e' => by cases e')
/-- the branch hands back -/
theorem b_ifR {τ0 : Type} {Γ0 : τ0 → Ctx} {mA m : Option ρ} {Γ' : τ → Ctx} (hc : EvT K H0 Γ tt x) (hA : x = true → Blk K H0 R Γ ta Γ0 Fl.ret mA) (rest : x = false → Blk K H0 R Γ u Γ' Fl.ret m) :
    Blk K H0 R Γ (tSeq (tIfS tt ta tNext) u) Γ' Fl.ret (iteO x mA m) := fun w hw D A N W O H σ a kn kr =>
  hc _ a fun A1 N1 H1 a1 s1 s2 s3 => by
    cases x with
    | true => rw [if_pos rfl]; exact hA rfl w hw _ a1 (fun st' e' => by cases e') (fun r e' => by cases e'; exact kr w rfl)
    | false => rw [if_neg Bool.false_ne_true]; exact rest rfl w hw D a1 (fun st' e' => by cases e') kr
theorem b_ifRR {τ0 : Type} {Γ0 : τ0 → Ctx} {mA m : Option ρ} {Γ' : τ → Ctx} (hc : EvT K H0 Γ tt x) (hA : x = true → Blk K H0 R Γ ta Γ0 Fl.ret mA) (hB : x = false → Blk K H0 R Γ tb Γ0 Fl.ret m) :
    Blk K H0 R Γ (tSeq (tIfS tt ta tb) u) Γ' Fl.ret (iteO x mA m) := fun w hw D A N W O H σ a kn kr =>
  hc _ a fun A1 N1 H1 a1 s1 s2 s3 => by
    cases x with
    | true => rw [if_pos rfl]; exact hA rfl w hw _ a1 (fun st' e' => by cases e') (fun r e' => by cases e'; exact kr w rfl)
    | false => rw [if_neg Bool.false_ne_true]; exact hB rfl w hw _ a1 (fun st' e' => by cases e') (fun r e' => by cases e'; exact kr w rfl)
theorem b_ifRF {τ0 : Type} {Γ0 : τ0 → Ctx} {mA : Option ρ} {m : Option (Fl ρ τ)} {Γ' : τ → Ctx} (hc : EvT K H0 Γ tt x) (hA : x = true → Blk K H0 R Γ ta Γ0 Fl.ret mA) (rest : x = false → Blk K H0 R Γ u Γ' idF m) :
    Blk K H0 R Γ (tSeq (tIfS tt ta tNext) u) Γ' idF (iteO x (mA.bind retF) m) := fun w hw D A N W O H σ a kn kr =>
  hc _ a fun A1 N1 H1 a1 s1 s2 s3 => by
    cases x with
    | true =>
      rw [if_pos rfl]
      obtain ⟨r, e, hw⟩ := bind_some_iff (show mA.bind retF = some w from hw)
      cases hw
      exact hA rfl r e _ a1 (fun st' e' => by cases e') (fun r' e' => by cases e'; exact kr r rfl)
    | false => rw [if_neg Bool.false_ne_true]; exact rest rfl w hw D a1 (fun st e A' N' W' O' H' σ' a' x1 x2 => kn st e A' N' W' O' H' σ' a' (s1.trans x1) (s2.trans x2)) kr
/-- a branch may hand back, or go on -/
theorem b_ifF {τ1 : Type} {Γ1 : τ1 → Ctx} {mA mB : Option (Fl ρ τ1)} {k : τ1 → Option ρ} {Γ' : τ → Ctx} (hc : EvT K H0 Γ tt x) (hA : x = true → Blk K H0 R Γ ta Γ1 idF mA) (hB : x = false → Blk K H0 R Γ tb Γ1 idF mB) (rest : ∀ st, Blk K H0 R (Γ1 st) u Γ' Fl.ret (k st)) :
    Blk K H0 R Γ (tSeq (tIfS tt ta tb) u) Γ' Fl.ret ((iteO x mA mB).bind (flR k)) := fun w hw D A N W O H σ a kn kr => by
  obtain ⟨fl, e, hw⟩ := bind_some_iff hw
  refine hc _ a fun A1 N1 H1 a1 s1 s2 s3 => ?_
  have kn' : ∀ st, idF fl = .nxt st → ∀ A' N' W' O' H' σ', AtB K H0 A' N' W' O' H' σ' (Γ1 st) → Same A1 A' → Same N1 N' → u D σ' H' := fun st e1 A' N' W' O' H' σ' a' x1 x2 => by
    have e2 : fl = .nxt st := e1
    subst e2
    exact rest st w hw D a' (fun st' e' => by cases e') kr
  have kr' : ∀ r, idF fl = .ret r → ∀ v H', R r v H' → D.rt v H' := fun r e1 => by
    have e2 : fl = .ret r := e1
    subst e2
    cases hw
    exact kr _ rfl
  cases x with
  | true => rw [if_pos rfl]; exact hA rfl fl e _ a1 kn' kr'
  | false => rw [if_neg Bool.false_ne_true]; exact hB rfl fl e _ a1 kn' kr'
theorem b_ifFF {τ1 : Type} {Γ1 : τ1 → Ctx} {mA mB : Option (Fl ρ τ1)} {k : τ1 → Option (Fl ρ τ)} {Γ' : τ → Ctx} (hc : EvT K H0 Γ tt x) (hA : x = true → Blk K H0 R Γ ta Γ1 idF mA) (hB : x = false → Blk K H0 R Γ tb Γ1 idF mB) (rest : ∀ st, Blk K H0 R (Γ1 st) u Γ' idF (k st)) :
    Blk K H0 R Γ (tSeq (tIfS tt ta tb) u) Γ' idF ((iteO x mA mB).bind (flF k)) := fun w hw D A N W O H σ a kn kr => by
  obtain ⟨fl, e, hw⟩ := bind_some_iff hw
  refine hc _ a fun A1 N1 H1 a1 s1 s2 s3 => ?_
  have kn' : ∀ st, idF fl = .nxt st → ∀ A' N' W' O' H' σ', AtB K H0 A' N' W' O' H' σ' (Γ1 st) → Same A1 A' → Same N1 N' → u D σ' H' := fun st e1 A' N' W' O' H' σ' a' x1 x2 => by
    have e2 : fl = .nxt st := e1
    subst e2
    exact rest st w hw D a' (fun st' e' A'' N'' W'' O'' H'' σ'' a'' y1 y2 => kn st' e' A'' N'' W'' O'' H'' σ'' a'' ((s1.trans x1).trans y1) ((s2.trans x2).trans y2)) kr
  have kr' : ∀ r, idF fl = .ret r → ∀ v H', R r v H' → D.rt v H' := fun r e1 => by
    have e2 : fl = .ret r := e1
    subst e2
    cases hw
    exact kr r rfl
  cases x with
  | true => rw [if_pos rfl]; exact hA rfl fl e _ a1 kn' kr'
  | false => rw [if_neg Bool.false_ne_true]; exact hB rfl fl e _ a1 kn' kr'
end
end Mir

namespace Mir
open PySem PySem.Spec L2
open ToD (toD)
set_option autoImplicit false
section
variable {K : PySem.W.Frag} {H0 : Base} {ρ τ υ ω : Type} {R : ρ → V → Hp → Prop} {Γ Γ2 : Ctx} {t u ta tb : TS} {Γ' : τ → Ctx} {I : ω → Fl ρ τ} {te ti : TE} {ts : TA} {tt : TT} {wi : TI} {g : TG} {md m1 m2 : Md} {d d1 d2 : PyData} {ds : List PyData} {vs : List Nat}
/-! ### for -/
theorem b_for {α τ1 : Type} [ToD α] {xs : List α} {Γ1 : τ1 → Ctx} {Γ2 : τ1 → α → Ctx} {f : τ1 → α → Option τ1} {st0 : τ1} {k : τ1 → Option ω} (hi : EvI K H0 Γ wi md (xs.map toD)) (hg : ∀ st x, Tg K H0 g md (toD x) vs (Γ1 st) (Γ2 st x))
    (hb : ∀ st x, Blk K H0 R (Γ2 st x) tb Γ1 Fl.nxt (f st x)) (h0 : Wk Γ (Γ1 st0)) (rest : ∀ st, Blk K H0 R (Γ1 st) u Γ' I (k st)) : Blk K H0 R Γ (tSeq (tFor wi g tb) u) Γ' I ((forO f xs st0).bind k) := fun w hw D A N W O H σ a kn kr => by
  obtain ⟨fin, hf, hw⟩ := bind_some_iff hw
  refine hi _ a fun A1 N1 H1 J G Y a1 s1 s2 s3 wk hz hG hY => ?_
  refine for_it wk (fun i σ H => ∃ st A N W O, forO f (xs.drop i) st = some fin ∧ AtB K H0 A N W O H σ (Γ1 st) ∧ Same A1 A ∧ Same N1 N)
    ⟨st0, A1, N1, W, O, by rw [List.drop_zero]; exact hf, a1.wk h0, Same.refl _, Same.refl _⟩ (fun i σ H _ hP => ?_) (fun i x σ H H' hi' hP hYx => ?_) (fun σ H hP => ?_)
  · obtain ⟨st, A, N, W, O, _, a2, u1, _⟩ := hP
    exact hG H (u1.trans a2.ah)
  · obtain ⟨st, A, N, W, O, hr, a2, u1, u2⟩ := hP
    obtain ⟨A4, N4, d, a4, v1, v2, v3, hdd, qx⟩ := hY i A N W O H σ _ x H' a2 u1 u2 hi' hYx
    rw [List.getElem?_map] at hdd
    obtain ⟨xi, hxi, rfl⟩ := Option.map_eq_some_iff.mp hdd
    rw [List.drop_eq_getElem?_toList_append, hxi] at hr
    have hr' : forO f (xi :: xs.drop (i + 1)) st = some fin := hr
    simp only [forO] at hr'
    obtain ⟨st', hst, hr'⟩ := bind_some_iff hr'
    refine hg st xi x _ a4 qx fun σ' a5 _ => ?_
    exact hb st xi st' hst _ a5 (fun st2 e A' N' W' O' H' σ'' a' x1 x2 => by cases e; exact ⟨st', A', N', W', O', hr', a', (u1.trans v1).trans x1, (u2.trans v2).trans x2⟩) (fun r e => by cases e)
  · obtain ⟨st, A, N, W, O, hr, a2, u1, u2⟩ := hP
    rw [List.length_map, List.drop_length] at hr
    have e : st = fin := Option.some.inj hr
    subst e
    exact rest st w hw D a2 (fun st' e' A'' N'' W'' O'' H'' σ'' a'' y1 y2 => kn st' e' A'' N'' W'' O'' H'' σ'' a'' ((s1.trans u1).trans y1) ((s2.trans u2).trans y2)) kr
/-- a for that may hand back; k: what follows it -/
theorem b_forG {α τ1 : Type} [ToD α] {xs : List α} {Γ1 : τ1 → Ctx} {Γ2 : τ1 → α → Ctx} {f : τ1 → α → Option (Fl ρ τ1)} {st0 : τ1} (hi : EvI K H0 Γ wi md (xs.map toD)) (hg : ∀ st x, Tg K H0 g md (toD x) vs (Γ1 st) (Γ2 st x))
    (hb : ∀ st x, Blk K H0 R (Γ2 st x) tb Γ1 idF (f st x)) (h0 : Wk Γ (Γ1 st0)) {fin : Fl ρ τ1} (hf : forF f xs st0 = some fin) (D : Ends) {A N : Hp} {W : Addr → Prop} {O : Nat → List Addr} {H : Hp} {σ : St} (a : AtB K H0 A N W O H σ Γ)
    (kn : ∀ st, fin = .nxt st → ∀ A' N' W' O' H' σ', AtB K H0 A' N' W' O' H' σ' (Γ1 st) → Same A A' → Same N N' → D.nx σ' H') (kr : ∀ r, fin = .ret r → ∀ v H', R r v H' → D.rt v H') : tFor wi g tb D σ H := by
  refine hi _ a fun A1 N1 H1 J G Y a1 s1 s2 s3 wk hz hG hY => ?_
  refine for_it wk (fun i σ H => ∃ st A N W O, forF f (xs.drop i) st = some fin ∧ AtB K H0 A N W O H σ (Γ1 st) ∧ Same A1 A ∧ Same N1 N)
    ⟨st0, A1, N1, W, O, by rw [List.drop_zero]; exact hf, a1.wk h0, Same.refl _, Same.refl _⟩ (fun i σ H _ hP => ?_) (fun i x σ H H' hi' hP hYx => ?_) (fun σ H hP => ?_)
  · obtain ⟨st, A, N, W, O, _, a2, u1, _⟩ := hP
    exact hG H (u1.trans a2.ah)
  · obtain ⟨st, A, N, W, O, hr, a2, u1, u2⟩ := hP
    obtain ⟨A4, N4, d, a4, v1, v2, v3, hdd, qx⟩ := hY i A N W O H σ _ x H' a2 u1 u2 hi' hYx
    rw [List.getElem?_map] at hdd
    obtain ⟨xi, hxi, rfl⟩ := Option.map_eq_some_iff.mp hdd
    rw [List.drop_eq_getElem?_toList_append, hxi] at hr
    have hr' : forF f (xi :: xs.drop (i + 1)) st = some fin := hr
    simp only [forF] at hr'
    obtain ⟨fl, hst, hr'⟩ := bind_some_iff hr'
    refine hg st xi x _ a4 qx fun σ' a5 _ => ?_
    refine hb st xi fl hst _ a5 (fun st2 e A' N' W' O' H' σ'' a' x1 x2 => ?_) (fun r e => ?_)
    · have e2 : fl = .nxt st2 := e
      subst e2
      exact ⟨st2, A', N', W', O', hr', a', (u1.trans v1).trans x1, (u2.trans v2).trans x2⟩
    · have e2 : fl = .ret r := e
      subst e2
      exact kr r (Option.some.inj hr').symm
  · obtain ⟨st, A, N, W, O, hr, a2, u1, u2⟩ := hP
    rw [List.length_map, List.drop_length] at hr
    have e : Fl.nxt st = fin := Option.some.inj hr
    exact kn st e.symm A N W O H σ a2 (s1.trans u1) (s2.trans u2)
theorem b_forR {α τ1 : Type} [ToD α] {xs : List α} {Γ1 : τ1 → Ctx} {Γ2 : τ1 → α → Ctx} {f : τ1 → α → Option (Fl ρ τ1)} {st0 : τ1} {k : τ1 → Option ρ} {Γ' : τ → Ctx} (hi : EvI K H0 Γ wi md (xs.map toD)) (hg : ∀ st x, Tg K H0 g md (toD x) vs (Γ1 st) (Γ2 st x))
    (hb : ∀ st x, Blk K H0 R (Γ2 st x) tb Γ1 idF (f st x)) (h0 : Wk Γ (Γ1 st0)) (rest : ∀ st, Blk K H0 R (Γ1 st) u Γ' Fl.ret (k st)) : Blk K H0 R Γ (tSeq (tFor wi g tb) u) Γ' Fl.ret ((forF f xs st0).bind (flR k)) := fun w hw D A N W O H σ a kn kr => by
  obtain ⟨fin, hf, hw⟩ := bind_some_iff hw
  refine b_forG hi hg hb h0 hf { D with nx := u D } a (fun st e A' N' W' O' H' σ' a' x1 x2 => ?_) (fun r e => ?_)
  · subst e
    exact rest st w hw D a' (fun st' e' => by cases e') kr
  · subst e
    cases hw
    exact kr _ rfl
theorem b_forF {α τ1 : Type} [ToD α] {xs : List α} {Γ1 : τ1 → Ctx} {Γ2 : τ1 → α → Ctx} {f : τ1 → α → Option (Fl ρ τ1)} {st0 : τ1} {k : τ1 → Option (Fl ρ τ)} {Γ' : τ → Ctx} (hi : EvI K H0 Γ wi md (xs.map toD)) (hg : ∀ st x, Tg K H0 g md (toD x) vs (Γ1 st) (Γ2 st x))
    (hb : ∀ st x, Blk K H0 R (Γ2 st x) tb Γ1 idF (f st x)) (h0 : Wk Γ (Γ1 st0)) (rest : ∀ st, Blk K H0 R (Γ1 st) u Γ' idF (k st)) : Blk K H0 R Γ (tSeq (tFor wi g tb) u) Γ' idF ((forF f xs st0).bind (flF k)) := fun w hw D A N W O H σ a kn kr => by
  obtain ⟨fin, hf, hw⟩ := bind_some_iff hw
  refine b_forG hi hg hb h0 hf { D with nx := u D } a (fun st e A' N' W' O' H' σ' a' x1 x2 => ?_) (fun r e => ?_)
  · subst e
    exact rest st w hw D a' (fun st' e' A'' N'' W'' O'' H'' σ'' a'' y1 y2 => kn st' e' A'' N'' W'' O'' H'' σ'' a'' (x1.trans y1) (x2.trans y2)) kr
  · subst e
    cases hw
    exact kr _ rfl
/-! ### while -/
theorem b_while {τ1 : Type} {Γ1 : τ1 → Ctx} {c : τ1 → Option Bool} {f : τ1 → Option τ1} {st0 : τ1} {k : τ1 → Option ω} (hc : ∀ st x, c st = some x → EvT K H0 (Γ1 st) tt x)
    (hb : ∀ st, Blk K H0 R (Γ1 st) tb Γ1 Fl.nxt (f st)) (h0 : Wk Γ (Γ1 st0)) (rest : ∀ st, Blk K H0 R (Γ1 st) u Γ' I (k st)) : Blk K H0 R Γ (tSeq (tWhile tt tb) u) Γ' I ((whileO c f st0).bind k) := fun w hw D A N W O H σ a kn kr => by
  obtain ⟨fin, hf, hw⟩ := bind_some_iff hw
  obtain ⟨n, hf⟩ := whileO_to hf
  refine ⟨fun m σ H => ∃ st A' N' W O, whN c f m st = some fin ∧ AtB K H0 A' N' W O H σ (Γ1 st) ∧ Same A A' ∧ Same N N', ⟨n, st0, A, N, W, O, hf, a.wk h0, Same.refl _, Same.refl _⟩, ?_⟩
  rintro m σ1 H1 ⟨st, A1, N1, W1, O1, hr, a1, u1, u2⟩
  cases m with
  | zero => cases hr
  | succ m =>
    simp only [whN] at hr
    obtain ⟨b, hb', hr⟩ := bind_some_iff hr
    refine hc st b hb' _ a1 fun A2 N2 H2 a2 v1 v2 v3 => ?_
    cases b with
    | true =>
      rw [if_pos rfl] at hr ⊢
      obtain ⟨st', hs, hr⟩ := bind_some_iff hr
      refine ⟨_, fun σ' H' q => ⟨m, Nat.lt_succ_self m, q⟩, ?_⟩
      exact hb st st' hs _ a2 (fun st2 e A' N' W' O' H' σ'' a' x1 x2 => by cases e; exact ⟨st', A', N', W', O', hr, a', (u1.trans v1).trans x1, (u2.trans v2).trans x2⟩) (fun r e => by cases e)
    | false =>
      rw [if_neg Bool.false_ne_true] at hr ⊢
      cases hr
      exact rest _ w hw D a2 (fun st' e' A'' N'' W'' O'' H'' σ'' a'' y1 y2 => kn st' e' A'' N'' W'' O'' H'' σ'' a'' ((u1.trans v1).trans y1) ((u2.trans v2).trans y2)) kr
theorem b_whileG {τ1 : Type} {Γ1 : τ1 → Ctx} {c : τ1 → Option Bool} {f : τ1 → Option (Fl ρ τ1)} {st0 : τ1} (hc : ∀ st x, c st = some x → EvT K H0 (Γ1 st) tt x)
    (hb : ∀ st, Blk K H0 R (Γ1 st) tb Γ1 idF (f st)) (h0 : Wk Γ (Γ1 st0)) {fin : Fl ρ τ1} (hf : whileF c f st0 = some fin) (D : Ends) {A N : Hp} {W : Addr → Prop} {O : Nat → List Addr} {H : Hp} {σ : St} (a : AtB K H0 A N W O H σ Γ)
    (kn : ∀ st, fin = .nxt st → ∀ A' N' W' O' H' σ', AtB K H0 A' N' W' O' H' σ' (Γ1 st) → Same A A' → Same N N' → D.nx σ' H') (kr : ∀ r, fin = .ret r → ∀ v H', R r v H' → D.rt v H') : tWhile tt tb D σ H := by
  obtain ⟨n, hf⟩ := whileF_to hf
  refine ⟨fun m σ H => ∃ st A' N' W O, whNF c f m st = some fin ∧ AtB K H0 A' N' W O H σ (Γ1 st) ∧ Same A A' ∧ Same N N', ⟨n, st0, A, N, W, O, hf, a.wk h0, Same.refl _, Same.refl _⟩, ?_⟩
  rintro m σ1 H1 ⟨st, A1, N1, W1, O1, hr, a1, u1, u2⟩
  cases m with
  | zero => cases hr
  | succ m =>
    simp only [whNF] at hr
    obtain ⟨b, hb', hr⟩ := bind_some_iff hr
    refine hc st b hb' _ a1 fun A2 N2 H2 a2 v1 v2 v3 => ?_
    cases b with
    | true =>
      rw [if_pos rfl] at hr ⊢
      obtain ⟨fl, hs, hr⟩ := bind_some_iff hr
      refine ⟨_, fun σ' H' q => ⟨m, Nat.lt_succ_self m, q⟩, ?_⟩
      refine hb st fl hs _ a2 (fun st2 e A' N' W' O' H' σ'' a' x1 x2 => ?_) (fun r e => ?_)
      · have e2 : fl = .nxt st2 := e
        subst e2
        exact ⟨st2, A', N', W', O', hr, a', (u1.trans v1).trans x1, (u2.trans v2).trans x2⟩
      · have e2 : fl = .ret r := e
        subst e2
        exact kr r (Option.some.inj hr).symm
    | false =>
      rw [if_neg Bool.false_ne_true] at hr ⊢
      cases hr
      exact kn st rfl A2 N2 W1 O1 H2 σ1 a2 (u1.trans v1) (u2.trans v2)
theorem b_whileR {τ1 : Type} {Γ1 : τ1 → Ctx} {c : τ1 → Option Bool} {f : τ1 → Option (Fl ρ τ1)} {st0 : τ1} {k : τ1 → Option ρ} {Γ' : τ → Ctx} (hc : ∀ st x, c st = some x → EvT K H0 (Γ1 st) tt x)
    (hb : ∀ st, Blk K H0 R (Γ1 st) tb Γ1 idF (f st)) (h0 : Wk Γ (Γ1 st0)) (rest : ∀ st, Blk K H0 R (Γ1 st) u Γ' Fl.ret (k st)) : Blk K H0 R Γ (tSeq (tWhile tt tb) u) Γ' Fl.ret ((whileF c f st0).bind (flR k)) := fun w hw D A N W O H σ a kn kr => by
  obtain ⟨fin, hf, hw⟩ := bind_some_iff hw
  refine b_whileG hc hb h0 hf { D with nx := u D } a (fun st e A' N' W' O' H' σ' a' x1 x2 => ?_) (fun r e => ?_)
  · subst e
    exact rest st w hw D a' (fun st' e' => by cases e') kr
  · subst e
    cases hw
    exact kr _ rfl
theorem b_whileF {τ1 : Type} {Γ1 : τ1 → Ctx} {c : τ1 → Option Bool} {f : τ1 → Option (Fl ρ τ1)} {st0 : τ1} {k : τ1 → Option (Fl ρ τ)} {Γ' : τ → Ctx} (hc : ∀ st x, c st = some x → EvT K H0 (Γ1 st) tt x)
    (hb : ∀ st, Blk K H0 R (Γ1 st) tb Γ1 idF (f st)) (h0 : Wk Γ (Γ1 st0)) (rest : ∀ st, Blk K H0 R (Γ1 st) u Γ' idF (k st)) : Blk K H0 R Γ (tSeq (tWhile tt tb) u) Γ' idF ((whileF c f st0).bind (flF k)) := fun w hw D A N W O H σ a kn kr => by
  obtain ⟨fin, hf, hw⟩ := bind_some_iff hw
  refine b_whileG hc hb h0 hf { D with nx := u D } a (fun st e A' N' W' O' H' σ' a' x1 x2 => ?_) (fun r e => ?_)
  · subst e
    exact rest st w hw D a' (fun st' e' A'' N'' W'' O'' H'' σ'' a'' y1 y2 => kn st' e' A'' N'' W'' O'' H'' σ'' a'' (x1.trans y1) (x2.trans y2)) kr
  · subst e
    cases hw
    exact kr _ rfl

/-! ### changes of an own list -/
theorem AtB.mutO {i : Nat} {A N : Hp} {W : Addr → Prop} {O : Nat → List Addr} {H : Hp} {σ : St} (a : AtB K H0 A N W O H σ Γ) (h : Γ[i]? = some (some (.o md ds))) :
    ∃ l vs, σ[i]? = some (some (.ref l)) ∧ H l = some (.lst vs) ∧ DpAll K (md.sel A N H) vs ds ∧ ∀ vs' ds', vs'.length ≤ sizeLine → DpAll K (md.sel A N H) vs' ds' → AtB K H0 A N W O (upd H l (.lst vs')) σ (Γ.set i (some (.o md ds'))) := by
  obtain ⟨x, ex, hm, l, vs, rfl, eO, el, q⟩ := a.cs i _ h
  have hl : l ∈ O i := by rw [eO]; exact List.mem_cons_self
  have hi := lt_of_get h
  refine ⟨l, vs, ex, el, q, fun vs' ds' hz q' => ?_⟩
  have a0 : AtB K H0 A N W O H σ (Γ.set i none) := a.weak (by rw [List.length_set]) fun j c e => by
    by_cases z : j = i
    · subst z; rw [List.getElem?_set_self hi] at e; cases e
    · rw [List.getElem?_set_ne (Ne.symm z)] at e; exact e
  have a1 := a0.write (vs := vs') (a.sub i l hl) hz fun j c e hj => by
    have z : j = i := a.dj j i l hj hl
    subst z; rw [List.getElem?_set_self hi] at e; cases e
  exact { a1 with
    len := by rw [List.length_set]; exact a.len
    cs := fun j c e => by
      by_cases z : j = i
      · subst z
        rw [List.getElem?_set_self hi] at e; cases e
        refine ⟨_, ex, hm, l, vs', rfl, eO, upd_same, ?_⟩
        exact sel_upd hm q'
      · rw [List.getElem?_set_ne (Ne.symm z)] at e
        exact a1.cs j c (by rw [List.getElem?_set_ne (Ne.symm z)]; exact e) }
theorem tyL {H : Hp} {l : Addr} {vs : List V} (h : H l = some (.lst vs)) : tyV K "list" (.ref l) H := .inl ⟨rfl, vs, .inl (.inl h)⟩
/-- the state behind an argument list: the own list at slot i is as it was -/
theorem own_arg {i : Nat} {A N : Hp} {W : Addr → Prop} {O : Nat → List Addr} {H : Hp} {σ : St} (a : AtB K H0 A N W O H σ Γ) (h : Γ[i]? = some (some (.o md ds))) : ∃ l vs, σ[i]? = some (some (.ref l)) ∧ H l = some (.lst vs) := by
  obtain ⟨l, vs, e1, e2, _⟩ := a.mutO h
  exact ⟨l, vs, e1, e2⟩
def appO {α : Type} (xs : List α) (a : α) : Option (List α) := if xs.length < lim then some (xs ++ [a]) else none
theorem b_append {α : Type} [ToD α] {xs ys : List α} {y : α} {i : Nat} {m : Option ω} (h : Γ[i]? = some (some (.o md (xs.map toD)))) (he : Ev K H0 Γ te md (toD y)) (hy : appO xs y = some ys) (hΓ : Γ.set i (some (.o md (ys.map toD))) = Γ2) (rest : Blk K H0 R Γ2 u Γ' I m) :
    Blk K H0 R Γ (tSeq (tDrop (tBM K "list" rAppend (tVar i) (tCons te tNil))) u) Γ' I m := fun w hw D A N W O H σ a kn kr => by
  subst hΓ
  obtain ⟨l0, vs0, e0, h0⟩ := own_arg a h
  refine ⟨_, e0, tyL h0, ?_⟩
  refine he _ a fun A1 N1 H1 v a1 s1 s2 s3 q => ?_
  obtain ⟨l, vs, e1, e2, q2, nx⟩ := a1.mutO h
  have e3 : V.ref l0 = V.ref l := Option.some.inj (Option.some.inj (e0.symm.trans e1))
  cases e3
  unfold appO at hy
  split at hy
  · rename_i hz
    cases hy
    have hlen : vs.length < sizeLine := by rw [dpAll_len q2, List.length_map, lim_eq]; exact hz
    refine ⟨l0, vs, v, rfl, rfl, e2, hlen, ?_⟩
    have a2 := nx (vs ++ [v]) ((xs ++ [y]).map toD) (by rw [List.length_append]; exact hlen) (by rw [List.map_append]; exact dpAll_app q2 (.cons q .nil))
    exact rest w hw D a2 (fun st' e' A'' N'' W'' O'' H'' σ'' a'' y1 y2 => kn st' e' A'' N'' W'' O'' H'' σ'' a'' (s1.trans y1) (s2.trans y2)) kr
  · cases hy
def popO {α : Type} (xs : List α) : Option (α × List α) := xs[xs.length - 1]?.bind fun a => some (a, xs.dropLast)
theorem dpAll_dropLast {S : Hp} {vs : List V} {ds : List PyData} (q : DpAll K S vs ds) : DpAll K S vs.dropLast ds.dropLast := by
  rw [List.dropLast_eq_take, List.dropLast_eq_take, dpAll_len q]
  exact dpAll_take _ q
/-- name = xs.pop() -/
theorem b_popN {α : Type} [ToD α] {xs : List α} {r : α × List α} {i j : Nat} {m : Option ω} (h : Γ[i]? = some (some (.o md (xs.map toD)))) (hm : md ≠ .h) (hj : j < Γ.length) (hy : popO xs = some r) (hΓ : (Γ.set i (some (.o md (r.2.map toD)))).set j (some (.v md (toD r.1))) = Γ2) (rest : Blk K H0 R Γ2 u Γ' I m) :
    Blk K H0 R Γ (tSeq (tAsg (tBM0 K "list" rPop (tVar i)) (gName j)) u) Γ' I m := fun w hw D A N W O H σ a kn kr => by
  subst hΓ
  obtain ⟨l, vs, e1, e2, q2, nx⟩ := a.mutO h
  obtain ⟨y, hy1, hy2⟩ := bind_some_iff hy
  cases hy2
  have hl : vs.length = xs.length := by rw [dpAll_len q2, List.length_map]
  have hd : (xs.map toD)[xs.length - 1]? = some (toD y) := by rw [List.getElem?_map, hy1]; rfl
  obtain ⟨v, hv, qv⟩ := dpAll_get' q2 hd
  refine ⟨_, e1, tyL e2, l, vs, v, rfl, rfl, e2, by rw [hl]; exact hv, ?_⟩
  have a2 := nx vs.dropLast (xs.dropLast.map toD) (by rw [List.length_dropLast]; have := a.hl l vs (.inl e2); omega) (by rw [List.map_dropLast]; exact dpAll_dropLast q2)
  have qv' : Dp K (md.sel A N (upd H l (.lst vs.dropLast))) v (toD y) := by
    cases md
    · exact absurd rfl hm
    · exact qv
    · exact qv
  exact rest w hw D (a2.setv (by rw [List.length_set]; exact hj) hm qv') kn kr
theorem map_erase {α β : Type} (f : α → β) : ∀ (xs : List α) (k : Nat), (xs.eraseIdx k).map f = (xs.map f).eraseIdx k
  | [], k => by simp
  | x :: xs, 0 => by simp
  | x :: xs, k + 1 => by simp [map_erase f xs k]
def popAtO {α : Type} (xs : List α) (i : Int) : Option (List α) := if -(2 ^ 63 : Int) ≤ i ∧ i < 2 ^ 63 then (ixN xs.length i).bind fun k => some (xs.eraseIdx k) else none
/-- xs.pop(i) -/
theorem b_popAt {α : Type} [ToD α] {xs ys : List α} {n : Int} {i : Nat} {m : Option ω} (h : Γ[i]? = some (some (.o md (xs.map toD)))) (he : Ev K H0 Γ te .h (toD n)) (hy : popAtO xs n = some ys) (hΓ : Γ.set i (some (.o md (ys.map toD))) = Γ2) (rest : Blk K H0 R Γ2 u Γ' I m) :
    Blk K H0 R Γ (tSeq (tDrop (tBM K "list" rPopAt (tVar i) (tCons te tNil))) u) Γ' I m := fun w hw D A N W O H σ a kn kr => by
  subst hΓ
  obtain ⟨l0, vs0, e0, h0⟩ := own_arg a h
  refine ⟨_, e0, tyL h0, ?_⟩
  refine he _ a fun A1 N1 H1 v a1 s1 s2 s3 q => ?_
  obtain ⟨l, vs, e1, e2, q2, nx⟩ := a1.mutO h
  have e3 : V.ref l0 = V.ref l := Option.some.inj (Option.some.inj (e0.symm.trans e1))
  cases e3
  unfold popAtO at hy
  split at hy
  · rename_i hz
    obtain ⟨k, hk, hy⟩ := bind_some_iff hy
    cases hy
    have hl : vs.length = xs.length := by rw [dpAll_len q2, List.length_map]
    have hs := ixN_seq hk
    have hk' : k < vs.length := by rw [hl]; exact hs.2.1
    refine ⟨l0, vs, n, k, vs[k], rfl, by rw [dp_int q], e2, hz.1, hz.2, by rw [hl]; exact hs.1, List.getElem?_eq_getElem hk', ?_⟩
    have a2 := nx (vs.eraseIdx k) ((xs.eraseIdx k).map toD) (Nat.le_trans (List.length_eraseIdx_le _ _) (a1.hl l0 vs (.inl e2))) (by
      rw [map_erase]; exact dpAll_erase k q2)
    exact rest w hw D a2 (fun st' e' A'' N'' W'' O'' H'' σ'' a'' y1 y2 => kn st' e' A'' N'' W'' O'' H'' σ'' a'' (s1.trans y1) (s2.trans y2)) kr
  · cases hy
def insO {α : Type} (xs : List α) (i : Int) (a : α) : Option (List α) := if xs.length < lim ∧ 0 ≤ i ∧ i < 2 ^ 63 then some (xs.take i.toNat ++ [a] ++ xs.drop i.toNat) else none
def rIns : V → List V → Hp → VK → Prop := fun x vs H Q => ∃ (l : Addr) (xs : List V) (i : Int) (y : V), x = .ref l ∧ vs = [.int i, y] ∧ H l = some (.lst xs) ∧ xs.length < sizeLine ∧ 0 ≤ i ∧ i < 2 ^ 63 ∧
    Q .non (upd H l (.lst (xs.take i.toNat ++ [y] ++ xs.drop i.toNat)))
theorem mt_insert' {X : Cx} : MtR X "list.insert" rIns := mt_insert
theorem b_insert {α : Type} [ToD α] {xs ys : List α} {y : α} {n : Int} {i : Nat} {m : Option ω} (h : Γ[i]? = some (some (.o md (xs.map toD)))) (hn : Ev K H0 Γ ti md (toD n)) (he : Ev K H0 Γ te md (toD y)) (hy : insO xs n y = some ys) (hΓ : Γ.set i (some (.o md (ys.map toD))) = Γ2) (rest : Blk K H0 R Γ2 u Γ' I m) :
    Blk K H0 R Γ (tSeq (tDrop (tBM K "list" rIns (tVar i) (tCons ti (tCons te tNil)))) u) Γ' I m := fun w hw D A N W O H σ a kn kr => by
  subst hΓ
  obtain ⟨l0, vs0, e0, h0⟩ := own_arg a h
  refine ⟨_, e0, tyL h0, ?_⟩
  refine (a_cons hn (a_cons he a_nil)) _ a fun A1 N1 H1 ws a1 s1 s2 s3 q => ?_
  obtain ⟨x, v, rfl, qx, qv⟩ := dpAll_two q
  obtain ⟨l, vs, e1, e2, q2, nx⟩ := a1.mutO h
  have e3 : V.ref l0 = V.ref l := Option.some.inj (Option.some.inj (e0.symm.trans e1))
  cases e3
  unfold insO at hy
  split at hy
  · rename_i hz
    cases hy
    have hlen : vs.length < sizeLine := by rw [dpAll_len q2, List.length_map, lim_eq]; exact hz.1
    refine ⟨l0, vs, n, v, rfl, by rw [dp_int qx], e2, hlen, hz.2.1, hz.2.2, ?_⟩
    have a2 := nx (vs.take n.toNat ++ [v] ++ vs.drop n.toNat) ((xs.take n.toNat ++ [y] ++ xs.drop n.toNat).map toD) (by simp only [List.length_append, List.length_take, List.length_drop, List.length_cons, List.length_nil]; omega) (by
      rw [List.map_append, List.map_append, List.map_take, List.map_drop]
      exact dpAll_app (dpAll_app (dpAll_take _ q2) (.cons qv .nil)) (dpAll_drop _ q2))
    exact rest w hw D a2 (fun st' e' A'' N'' W'' O'' H'' σ'' a'' y1 y2 => kn st' e' A'' N'' W'' O'' H'' σ'' a'' (s1.trans y1) (s2.trans y2)) kr
  · cases hy
/-- xs.remove(k) of ints -/
def remO (xs : List Int) (k : Int) : Option (List Int) := if k ∈ xs then some (xs.erase k) else none
theorem idx_erase (k : Int) : ∀ {xs : List Int}, k ∈ xs → ∃ j, xs[j]? = some k ∧ (∀ m : Nat, m < j → xs[m]? ≠ some k) ∧ xs.eraseIdx j = xs.erase k
  | x :: xs, h => by
    by_cases e : x = k
    · subst e
      exact ⟨0, rfl, fun m hm => by omega, by simp⟩
    · have h' : k ∈ xs := by
        rcases List.mem_cons.mp h with z | z
        · exact absurd z.symm e
        · exact z
      obtain ⟨j, h1, h2, h3⟩ := idx_erase k h'
      refine ⟨j + 1, by simpa using h1, fun m hm => ?_, ?_⟩
      · cases m with
        | zero => simpa using e
        | succ m => simpa using h2 m (by omega)
      · have hb : (x == k) = false := by simpa using e
        rw [List.eraseIdx_cons_succ, h3, List.erase_cons, hb]; rfl
theorem b_remove {xs ys : List Int} {k : Int} {i : Nat} {m : Option ω} (h : Γ[i]? = some (some (.o md (xs.map toD)))) (he : Ev K H0 Γ te .h (toD k)) (hy : remO xs k = some ys) (hΓ : Γ.set i (some (.o md (ys.map toD))) = Γ2) (rest : Blk K H0 R Γ2 u Γ' I m) :
    Blk K H0 R Γ (tSeq (tDrop (tBM K "list" rRemI (tVar i) (tCons te tNil))) u) Γ' I m := fun w hw D A N W O H σ a kn kr => by
  subst hΓ
  obtain ⟨l0, vs0, e0, h0⟩ := own_arg a h
  refine ⟨_, e0, tyL h0, ?_⟩
  refine he _ a fun A1 N1 H1 v a1 s1 s2 s3 q => ?_
  obtain ⟨l, vs, e1, e2, q2, nx⟩ := a1.mutO h
  have e3 : V.ref l0 = V.ref l := Option.some.inj (Option.some.inj (e0.symm.trans e1))
  cases e3
  unfold remO at hy
  split at hy
  · rename_i hz
    cases hy
    obtain ⟨j, h1, h2, h3⟩ := idx_erase k hz
    have ev := ints_of q2
    refine ⟨l0, xs, k, j, rfl, by rw [dp_int q], by rw [← ev]; exact e2, h1, h2, ?_⟩
    rw [h3]
    have hz2 := a1.hl l0 vs (.inl e2)
    rw [ev, List.length_map] at hz2
    have a2 := nx ((xs.erase k).map V.int) ((xs.erase k).map toD) (by rw [List.length_map]; exact Nat.le_trans (List.length_erase_le) hz2) ints_to
    exact rest w hw D a2 (fun st' e' A'' N'' W'' O'' H'' σ'' a'' y1 y2 => kn st' e' A'' N'' W'' O'' H'' σ'' a'' (s1.trans y1) (s2.trans y2)) kr
  · cases hy
theorem b_clear {i : Nat} {m : Option ω} (h : Γ[i]? = some (some (.o md ds))) (hΓ : Γ.set i (some (.o md [])) = Γ2) (rest : Blk K H0 R Γ2 u Γ' I m) : Blk K H0 R Γ (tSeq (tDrop (tBM0 K "list" rClear (tVar i))) u) Γ' I m := fun w hw D A N W O H σ a kn kr => by
  subst hΓ
  obtain ⟨l, vs, e1, e2, q2, nx⟩ := a.mutO h
  exact ⟨_, e1, tyL e2, l, vs, rfl, rfl, e2, rest w hw D (nx [] [] (Nat.zero_le _) .nil) kn kr⟩
theorem b_reverse {α : Type} [ToD α] {xs : List α} {i : Nat} {m : Option ω} (h : Γ[i]? = some (some (.o md (xs.map toD)))) (hΓ : Γ.set i (some (.o md (xs.reverse.map toD))) = Γ2) (rest : Blk K H0 R Γ2 u Γ' I m) : Blk K H0 R Γ (tSeq (tDrop (tBM0 K "list" rReverse (tVar i))) u) Γ' I m := fun w hw D A N W O H σ a kn kr => by
  subst hΓ
  obtain ⟨l, vs, e1, e2, q2, nx⟩ := a.mutO h
  exact ⟨_, e1, tyL e2, l, vs, rfl, rfl, e2, rest w hw D (nx vs.reverse (xs.reverse.map toD) (by rw [List.length_reverse]; exact a.hl l vs (.inl e2)) (by rw [List.map_reverse]; exact dpAll_rev q2)) kn kr⟩
def setO {α : Type} (xs : List α) (i : Int) (a : α) : Option (List α) := (ixN xs.length i).bind fun k => some (xs.set k a)
/-- xs[i] = e -/
theorem b_setitem {α : Type} [ToD α] {xs ys : List α} {y : α} {n : Int} {i : Nat} {m : Option ω} (h : Γ[i]? = some (some (.o md (xs.map toD)))) (he : Ev K H0 Γ te md (toD y)) (hn : Ev K H0 Γ ti .h (toD n)) (hy : setO xs n y = some ys) (hΓ : Γ.set i (some (.o md (ys.map toD))) = Γ2) (rest : Blk K H0 R Γ2 u Γ' I m) :
    Blk K H0 R Γ (tSeq (tAsg te (gSub (tVar i) ti rSetL)) u) Γ' I m := fun w hw D A N W O H σ a kn kr => by
  subst hΓ
  refine he _ a fun A1 N1 H1 v a1 s1 s2 s3 q => ?_
  obtain ⟨l0, vs0, e0, h0⟩ := own_arg a1 h
  refine ⟨_, e0, hn _ a1 fun A2 N2 H2 x a2 t1 t2 t3 q1 => ?_⟩
  obtain ⟨l, vs, e1, e2, q2, nx⟩ := a2.mutO h
  have e3 : V.ref l0 = V.ref l := Option.some.inj (Option.some.inj (e0.symm.trans e1))
  cases e3
  obtain ⟨k, hk, hy⟩ := bind_some_iff hy
  cases hy
  have hl : vs.length = xs.length := by rw [dpAll_len q2, List.length_map]
  refine ⟨l0, vs, n, k, rfl, dp_int q1, e2, by rw [hl]; exact hk, ?_⟩
  have a3 := nx (vs.set k v) ((xs.set k y).map toD) (by rw [List.length_set]; exact a2.hl l0 vs (.inl e2)) (by rw [List.map_set]; exact dpAll_set (dp_mono (Md.sel_mono t1 t2 t3) q) k q2)
  exact rest w hw D a3 (fun st' e' A'' N'' W'' O'' H'' σ'' a'' y1 y2 => kn st' e' A'' N'' W'' O'' H'' σ'' a'' ((s1.trans t1).trans y1) ((s2.trans t2).trans y2)) kr
end

/-! ## 10. a def's body -/
def entryC (ds : List PyData) (n : Nat) : Ctx := ds.map (fun d => some (.v .s d)) ++ List.replicate (n - ds.length) none
section
variable {K : PySem.W.Frag} {N : List Str} {vs : List V} {H : Hp} {Q : VK} {ds : List PyData} {t : TS} {τ : Type} {Γ : Ctx} {Γ' : τ → Ctx}
theorem entry (hl : HLen H) (hd : DpAll K H vs ds) (hn : ds.length ≤ N.length) : AtB K (bs H) H (fun _ => none) (fun _ => False) (fun _ => []) H (L2.start N vs) (entryC ds N.length) where
  na := fun b o e => by cases e
  ah := Same.refl _
  h0 := Same.refl _
  fr := fun b o e => by cases e
  own := fun b w => w.elim
  sub := fun i l h => by cases h
  dj := fun i j l h => by cases h
  nd := fun i => .nil
  hl := hl
  len := by
    have e := dpAll_len hd
    unfold entryC L2.start
    simp only [List.length_append, List.length_map, List.length_replicate, e]
  cs := fun i c e => by
    have el := dpAll_len hd
    unfold entryC at e
    by_cases hi : i < ds.length
    · rw [List.getElem?_append_left (by rw [List.length_map]; exact hi), List.getElem?_map, List.getElem?_eq_getElem hi] at e
      have e' : (Cell.v Md.s ds[i]) = c := Option.some.inj (Option.some.inj e)
      subst e'
      obtain ⟨v, hv, q⟩ := dpAll_get' hd (List.getElem?_eq_getElem hi)
      refine ⟨v, ?_, (fun z => by cases z), q⟩
      unfold L2.start
      rw [List.getElem?_append_left (by rw [List.length_map, el]; exact hi), List.getElem?_map, hv]; rfl
    · rw [List.getElem?_append_right (by rw [List.length_map]; omega), List.getElem?_replicate] at e
      split at e <;> cases e
theorem body_S {α : Type} [ToD α] {m : Option α} {r : α} (hl : HLen H) (hd : DpAll K H vs ds) (hm : m = some r) (hn : ds.length ≤ N.length) (hΓ : entryC ds N.length = Γ) (hb : Blk K (bs H) (RetS K (bs H)) Γ t Γ' Fl.ret m)
    (k : ∀ v M H', Same H H' → (∀ b o, M b = some o → H b = none) → Same M H' → HLen H' → Dp K M v (toD r) → Q v H') : t { nx := fun _ H' => Q .non H', rt := Q } (L2.start N vs) H := by
  subst hΓ
  exact hb r hm _ (entry hl hd hn) (fun st e => by cases e) fun r' e v H' q => by
    cases e
    obtain ⟨h0, h1, M, h2, h3, h4⟩ := q
    exact k v M H' h0 (fun b o e => (h2 b o e).resolve_right (by simp)) h3 h1 h4
theorem body_O {α : Type} [ToD α] {m : Option (List α)} {r : List α} (hl : HLen H) (hd : DpAll K H vs ds) (hm : m = some r) (hn : ds.length ≤ N.length) (hΓ : entryC ds N.length = Γ) (hb : Blk K (bs H) (RetO K (bs H)) Γ t Γ' Fl.ret m)
    (k : ∀ l ws M H', Same H H' → (∀ b o, M b = some o → H b = none) → Same M H' → HLen H' → H l = none → M l = none → H' l = some (.lst ws) → DpAll K M ws (r.map toD) → Q (.ref l) H') : t { nx := fun _ H' => Q .non H', rt := Q } (L2.start N vs) H := by
  subst hΓ
  exact hb r hm _ (entry hl hd hn) (fun st e => by cases e) fun r' e v H' q => by
    cases e
    obtain ⟨h0, h1, M, l, ws, rfl, h2, h3, h4, h5, h6, h7⟩ := q
    exact k l ws M H' h0 (fun b o e => (h2 b o e).resolve_right (by simp)) h3 h1 h4 h5 h6 h7
theorem body_P {α : Type} [ToD α] {m : Option (List (List α))} {r : List (List α)} (hl : HLen H) (hd : DpAll K H vs ds) (hm : m = some r) (hn : ds.length ≤ N.length) (hΓ : entryC ds N.length = Γ) (hb : Blk K (bs H) (RetP K (bs H)) Γ t Γ' Fl.ret m)
    (k : ∀ l ls M H', Same H H' → (∀ b o, M b = some o → H b = none) → Same M H' → HLen H' → (∀ k ∈ l :: ls, H k = none ∧ M k = none) → (l :: ls).Nodup → H' l = some (.lst (ls.map V.ref)) → Rows K M H' ls (r.map (·.map toD)) → Q (.ref l) H') : t { nx := fun _ H' => Q .non H', rt := Q } (L2.start N vs) H := by
  subst hΓ
  exact hb r hm _ (entry hl hd hn) (fun st e => by cases e) fun r' e v H' q => by
    cases e
    obtain ⟨h0, h1, M, l, ls, rfl, h2, h3, h4, h5, h6, h7⟩ := q
    exact k l ls M H' h0 (fun b o e => (h2 b o e).resolve_right (by simp)) h3 h1 h4 h5 h6 h7
end
/-- the slots, in short -/
abbrev cs {α : Type} [ToD α] (x : α) : Option Cell := some (.v .s (toD x))
abbrev cn {α : Type} [ToD α] (x : α) : Option Cell := some (.v .n (toD x))
abbrev co {α : Type} [ToD α] (xs : List α) : Option Cell := some (.o .n (xs.map toD))
abbrev cO {α : Type} [ToD α] (xs : List α) : Option Cell := some (.o .s (xs.map toD))
abbrev cp {α : Type} [ToD α] (xss : List (List α)) : Option Cell := some (.p .n (xss.map (·.map toD)))
abbrev cP {α : Type} [ToD α] (xss : List (List α)) : Option Cell := some (.p .s (xss.map (·.map toD)))
abbrev c0 : Option Cell := none
end Mir

namespace Mir
open PySem PySem.Spec L2
open ToD (toD)
set_option autoImplicit false
/-! ## 11. what a program writes -/
structure Tri (α β γ : Type) where
  a : α
  b : β
  c : γ
  deriving DecidableEq
instance instTri {α β γ : Type} [ToD α] [ToD β] [ToD γ] : ToD (Tri α β γ) := ⟨fun p => .tuple [toD p.a, toD p.b, toD p.c], max (max (ToD.dep α) (ToD.dep β)) (ToD.dep γ) + 1⟩
theorem toD_tri {α β γ : Type} [ToD α] [ToD β] [ToD γ] (p : Tri α β γ) : toD p = .tuple [toD p.a, toD p.b, toD p.c] := rfl
instance lawTri {α β γ : Type} [ToD α] [DecidableEq α] [LawD α] [ToD β] [DecidableEq β] [LawD β] [ToD γ] [DecidableEq γ] [LawD γ] : LawD (Tri α β γ) where
  eqv p q := by
    obtain ⟨a, b, c⟩ := p; obtain ⟨d, e, f⟩ := q
    simp only [toD_tri, PyData.eqv, PyData.eqvAll, LawD.eqv]
    by_cases h : a = d <;> by_cases h' : b = e <;> by_cases h2 : c = f <;> simp [h, h', h2]
  lay p := by simp [toD_tri, PyData.canLay0, PyData.canLayAll0, LawD.lay]
  depth p := by
    have h1 := LawD.depth p.a
    have h2 := LawD.depth p.b
    have h3 := LawD.depth p.c
    simp only [toD_tri, PyData.depth, PyData.depthAll, ToD.dep]; omega
instance nnTri {α β γ : Type} [ToD α] [ToD β] [ToD γ] : NotNone (Tri α β γ) := ⟨fun _ => by simp [toD], fun _ => by simp [toD, PyData.eqv], fun _ => by simp [toD, PyData.eqv]⟩
section
variable {K : PySem.W.Frag} {H0 : Base} {ρ τ ω : Type} {R : ρ → V → Hp → Prop} {Γ Γ2 : Ctx} {t u : TS} {Γ' : τ → Ctx} {I : ω → Fl ρ τ} {te ti : TE} {ts : TA} {tt : TT} {md m1 m2 : Md} {d d1 d2 d3 : PyData}
theorem ev_varF {i : Nat} (h : Γ[i]? = some (some (.v m1 d)) := by rfl) (hf : flatD d = true := by rfl) : Ev K H0 Γ (tVar i) md d := ev_flat (ev_var h) hf
theorem b_asgL {α : Type} [ToD α] {i : Nat} {e : α} {k : α → Option ω} {Γ2 : α → Ctx} (he : Ev K H0 Γ te md (toD e)) (hm : md ≠ .h) (hi : i < Γ.length) (hΓ : ∀ x : α, Γ.set i (some (.v md (toD x))) = Γ2 x) (rest : ∀ x, x = e → Blk K H0 R (Γ2 x) u Γ' I (k x)) : Blk K H0 R Γ (tSeq (tAsg te (gName i)) u) Γ' I (lt e k) := by
  rw [lt_def]; exact b_asg he hm hi (hΓ e) (rest e rfl)
theorem b_asgOL {α : Type} [ToD α] {i : Nat} {e : List α} {k : List α → Option ω} {Γ2 : List α → Ctx} (he : EvO K H0 Γ te md (e.map toD)) (hm : md ≠ .h) (hi : i < Γ.length) (hΓ : ∀ x : List α, Γ.set i (some (.o md (x.map toD))) = Γ2 x) (rest : ∀ x, x = e → Blk K H0 R (Γ2 x) u Γ' I (k x)) : Blk K H0 R Γ (tSeq (tAsg te (gName i)) u) Γ' I (lt e k) := by
  rw [lt_def]; exact b_asgO he hm hi (hΓ e) (rest e rfl)
theorem b_weak {m : Option ω} (h : Wk Γ Γ2) (rest : Blk K H0 R Γ2 t Γ' I m) : Blk K H0 R Γ t Γ' I m := fun w hw D A N W O H σ a kn kr => rest w hw D (a.wk h) kn kr
theorem some_ev {α : Type} [ToD α] {e y : α} (h : some e = some y) (ev : Ev K H0 Γ te md (toD e)) : Ev K H0 Γ te md (toD y) := by cases h; exact ev
theorem some_evO {α : Type} [ToD α] {e y : List α} (h : some e = some y) (ev : EvO K H0 Γ te md (e.map toD)) : EvO K H0 Γ te md (y.map toD) := by cases h; exact ev
theorem some_t {e y : Bool} (h : some e = some y) (ev : EvT K H0 Γ tt e) : EvT K H0 Γ tt y := by cases h; exact ev
theorem e_tri {α β γ : Type} [ToD α] [ToD β] [ToD γ] {a : α} {b : β} {c : γ} (hs : EvA K H0 Γ ts md [toD a, toD b, toD c]) : Ev K H0 Γ (tTup ts) md (toD (Tri.mk a b c)) := e_tup hs
theorem e_tri0 {α β γ : Type} [ToD α] [ToD β] [ToD γ] {p : Tri α β γ} (ha : Ev K H0 Γ te md (toD p)) : Ev K H0 Γ (tOp (rIxT K) te (tC (.int 0))) md (toD p.a) := e_idxT (ds := [toD p.a, toD p.b, toD p.c]) ha (ev_int (md := .h)) rfl
theorem e_tri1 {α β γ : Type} [ToD α] [ToD β] [ToD γ] {p : Tri α β γ} (ha : Ev K H0 Γ te md (toD p)) : Ev K H0 Γ (tOp (rIxT K) te (tC (.int 1))) md (toD p.b) := e_idxT (ds := [toD p.a, toD p.b, toD p.c]) ha (ev_int (md := .h)) rfl
theorem e_tri2 {α β γ : Type} [ToD α] [ToD β] [ToD γ] {p : Tri α β γ} (ha : Ev K H0 Γ te md (toD p)) : Ev K H0 Γ (tOp (rIxT K) te (tC (.int 2))) md (toD p.c) := e_idxT (ds := [toD p.a, toD p.b, toD p.c]) ha (ev_int (md := .h)) rfl
theorem g_tri {i j k : Nat} (hm : md ≠ .h) (hi : i < Γ.length := by decide) (hj : j < Γ.length := by decide) (hk : k < Γ.length := by decide) (hij : i ≠ j := by decide) (hik : i ≠ k := by decide) (hjk : j ≠ k := by decide) : Tg K H0 (gTup K 3 (gCons (gName i) (gCons (gName j) (gCons (gName k) gNil)))) md (.tuple [d1, d2, d3]) [i, j, k] Γ (((Γ.set i (some (.v md d1))).set j (some (.v md d2))).set k (some (.v md d3))) := fun A N W O H σ v Q a q kk => by
  obtain ⟨p, vs, rfl, hS, hA⟩ := dp_tup q
  cases hA with
  | cons q1 hA =>
    obtain ⟨y, z, rfl, q2, q3⟩ := dpAll_two hA
    refine ⟨p, _, rfl, same_tup a.sel_h hS, rfl, _, _, rfl, y, _, rfl, z, _, rfl, rfl, ?_⟩
    refine kk _ (((a.setv hi hm q1).setv (by rw [List.length_set]; exact hj) hm q2).setv (by rw [List.length_set, List.length_set]; exact hk) hm q3) ?_
    show ((((((σ.set i _).set j (some y)).set k (some z)).set k none).set j none).set i none) = ((σ.set k none).set j none).set i none
    rw [List.set_set, List.set_comm _ _ hjk, List.set_set, List.set_comm _ _ hik, List.set_comm _ _ hij, List.set_set]
/-- a, b = e, the parts named -/
theorem b_tup2 {α β : Type} [ToD α] [ToD β] {i j : Nat} {p : α × β} {k : α → β → Option ω} {Γ2 : α → β → Ctx} (he : Ev K H0 Γ te md (toD p)) (hm : md ≠ .h) (hi : i < Γ.length) (hj : j < Γ.length) (hij : i ≠ j) (hΓ : ∀ (x : α) (y : β), (Γ.set i (some (.v md (toD x)))).set j (some (.v md (toD y))) = Γ2 x y)
    (rest : ∀ x y, p = (x, y) → Blk K H0 R (Γ2 x y) u Γ' I (k x y)) : Blk K H0 R Γ (tSeq (tAsg te (gTup K 2 (gCons (gName i) (gCons (gName j) gNil)))) u) Γ' I (lt p.1 fun x => lt p.2 fun y => k x y) := by
  simp only [lt_def]
  obtain ⟨x, y⟩ := p
  refine b_tg he (g_pair hm hij hi hj) ?_
  rw [hΓ]
  exact rest x y rfl
theorem b_tup3 {α β γ : Type} [ToD α] [ToD β] [ToD γ] {i j l : Nat} {p : Tri α β γ} {k : α → β → γ → Option ω} {Γ2 : α → β → γ → Ctx} (he : Ev K H0 Γ te md (toD p)) (hm : md ≠ .h) (hi : i < Γ.length) (hj : j < Γ.length) (hl : l < Γ.length) (hij : i ≠ j) (hil : i ≠ l) (hjl : j ≠ l) (hΓ : ∀ (x : α) (y : β) (z : γ), ((Γ.set i (some (.v md (toD x)))).set j (some (.v md (toD y)))).set l (some (.v md (toD z))) = Γ2 x y z)
    (rest : ∀ x y z, p = ⟨x, y, z⟩ → Blk K H0 R (Γ2 x y z) u Γ' I (k x y z)) : Blk K H0 R Γ (tSeq (tAsg te (gTup K 3 (gCons (gName i) (gCons (gName j) (gCons (gName l) gNil))))) u) Γ' I (lt p.a fun x => lt p.b fun y => lt p.c fun z => k x y z) := by
  simp only [lt_def]
  obtain ⟨x, y, z⟩ := p
  refine b_tg he (g_tri hm hi hj hl hij hil hjl) ?_
  rw [hΓ]
  exact rest x y z rfl
/-- a, b = e, f -/
theorem b_parL {α β : Type} [ToD α] [ToD β] {i j : Nat} {e : α} {f : β} {k : α → β → Option ω} {Γ2 : α → β → Ctx} (hs : EvA K H0 Γ ts md [toD e, toD f]) (hm : md ≠ .h) (hi : i < Γ.length) (hj : j < Γ.length) (hΓ : ∀ (x : α) (y : β), (Γ.set i (some (.v md (toD x)))).set j (some (.v md (toD y))) = Γ2 x y)
    (rest : ∀ x y, x = e → y = f → Blk K H0 R (Γ2 x y) u Γ' I (k x y)) : Blk K H0 R Γ (tSeq (tPar i j ts) u) Γ' I (lt (e, f) fun p => lt p.1 fun x => lt p.2 fun y => k x y) := by
  simp only [lt_def]
  exact b_par hs hm hi hj (hΓ e f) (rest e f rfl rfl)
end
theorem wk_c {c : Option Cell} {Γ Γ' : Ctx} (w : Wk Γ Γ') : Wk (c :: Γ) (c :: Γ') := .cons (.refl c) w
theorem wk_d {c : Option Cell} {Γ Γ' : Ctx} (w : Wk Γ Γ') : Wk (c :: Γ) (none :: Γ') := .cons (.drop c) w
theorem wk_s {d : PyData} {Γ Γ' : Ctx} (w : Wk Γ Γ') : Wk (some (.v .n d) :: Γ) (some (.v .s d) :: Γ') := .cons (.sn d) w
theorem wk_o {ds : List PyData} {Γ Γ' : Ctx} (w : Wk Γ Γ') : Wk (some (.o .n ds) :: Γ) (some (.o .s ds) :: Γ') := .cons (.so ds) w
theorem nh : Md.n ≠ Md.h := fun z => by cases z
theorem sh : Md.s ≠ Md.h := fun z => by cases z
end Mir

namespace Mir
open PySem PySem.Spec L2
open ToD (toD)
set_option autoImplicit false
section
variable {K : PySem.W.Frag} {H0 : Base} {ρ τ ω : Type} {R : ρ → V → Hp → Prop} {Γ Γ2 : Ctx} {t u : TS} {Γ' : τ → Ctx} {I : ω → Fl ρ τ} {ta te ti : TE} {ts : TA} {tt : TT} {md m1 m2 : Md} {d d1 d2 d3 : PyData} {ds : List PyData}
/-! ### isinstance of what is known -/
def tyN : PyData → String
  | .none => "NoneType"
  | .bool _ => "bool"
  | .int _ => "int"
  | .str _ => "str"
  | .list _ => "list"
  | .tuple _ => "tuple"
  | .dict _ => "dict"
theorem tyX_of {S : Hp} {v : V} (q : Dp K S v d) : TyX K S v (.type (tyN d)) := by
  cases q with
  | non => exact .base .non
  | bl b => exact .base (.bl b)
  | int i => exact .base (.int i)
  | str x => exact .base (.str x)
  | lst h _ =>
    rcases h with (h | ⟨o, h⟩) | ⟨o, its, n, h, hc, _⟩
    · exact .base (.lst h)
    · exact .base (.frz h)
    · exact .kList h hc
  | tup h _ =>
    rcases h with (h | ⟨o, h⟩) | ⟨o, its, n, h, hc, _⟩
    · exact .base (.tup h)
    · exact .fTuple h
    · exact .kTuple h hc
theorem e_isi {c : String} {b : Bool} (ha : Ev K H0 Γ ta .h d) (h : kitB (tyN d) c = some b) : Ev K H0 Γ (tCB (rIsi K) (tCons ta (tCons (tC (.ty c)) tNil))) md (toD b) := fun A N W O H σ Q a k =>
  ha _ a fun A1 N1 H1 v a1 s1 s2 s3 q => ⟨v, .ty c, .type (tyN d), .type c, b, rfl, .ty c, tyX_of (dp_mono a1.sel_h q), kit_ty h, k A1 N1 H1 _ a1 s1 s2 s3 (.bl b)⟩
/-! ### more of lists -/
theorem b_popNL {α : Type} [ToD α] {xs : List α} {r : α × List α} {i j : Nat} {k : α → List α → Option ω} {Γ2 : α → List α → Ctx} (h : Γ[i]? = some (some (.o md (xs.map toD)))) (hm : md ≠ .h) (hj : j < Γ.length) (hy : popO xs = some r) (hΓ : ∀ (x : α) (ys : List α), (Γ.set i (some (.o md (ys.map toD)))).set j (some (.v md (toD x))) = Γ2 x ys)
    (rest : ∀ x ys, r = (x, ys) → Blk K H0 R (Γ2 x ys) u Γ' I (k x ys)) : Blk K H0 R Γ (tSeq (tAsg (tBM0 K "list" rPop (tVar i)) (gName j)) u) Γ' I (lt r.1 fun x => lt r.2 fun ys => k x ys) := by
  simp only [lt_def]; exact b_popN h hm hj hy (hΓ r.1 r.2) (rest r.1 r.2 rfl)
theorem b_clearL {α : Type} [ToD α] {xs : List α} {i : Nat} {k : List α → Option ω} {Γ2 : List α → Ctx} (h : Γ[i]? = some (some (.o md (xs.map toD)))) (hΓ : ∀ ys : List α, Γ.set i (some (.o md (ys.map toD))) = Γ2 ys) (rest : ∀ ys, ys = [] → Blk K H0 R (Γ2 ys) u Γ' I (k ys)) : Blk K H0 R Γ (tSeq (tDrop (tBM0 K "list" rClear (tVar i))) u) Γ' I (lt [] k) := by
  rw [lt_def]; exact b_clear h (hΓ []) (rest [] rfl)
theorem b_reverseL {α : Type} [ToD α] {xs : List α} {i : Nat} {k : List α → Option ω} {Γ2 : List α → Ctx} (h : Γ[i]? = some (some (.o md (xs.map toD)))) (hΓ : ∀ ys : List α, Γ.set i (some (.o md (ys.map toD))) = Γ2 ys) (rest : ∀ ys, ys = xs.reverse → Blk K H0 R (Γ2 ys) u Γ' I (k ys)) : Blk K H0 R Γ (tSeq (tDrop (tBM0 K "list" rReverse (tVar i))) u) Γ' I (lt xs.reverse k) := by
  rw [lt_def]; exact b_reverse h (hΓ xs.reverse) (rest xs.reverse rfl)
theorem o_lstT {α : Type} [ToD α] {xs : List α} (hz : (xs.map toD).length ≤ sizeLine) (hs : EvA K H0 Γ ts md (xs.map toD)) : EvO K H0 Γ (tLst ts) md (xs.map toD) := o_lst hs hz
theorem ev_varP' {α : Type} [ToD α] {i : Nat} {xss : List (List α)} (h : Γ[i]? = some (some (.p md (xss.map (·.map toD)))) := by rfl) : Ev K H0 Γ (tVar i) .h (toD xss) := by
  have e : toD xss = PyData.list ((xss.map (·.map toD)).map PyData.list) := by
    show PyData.list (xss.map toD) = _
    rw [List.map_map]; rfl
  rw [e]
  exact ev_varP h
theorem flat_all {α : Type} [ToD α] (h : ∀ x : α, flatD (toD x) = true) (xs : List α) : (xs.map toD).all flatD = true := by
  rw [List.all_map, List.all_eq_true]
  intro x _
  exact h x
class FlatT (α : Type) [ToD α] : Prop where
  fl : ∀ x : α, flatD (toD x) = true
instance : FlatT Int := ⟨fun _ => rfl⟩
instance : FlatT Bool := ⟨fun _ => rfl⟩
instance : FlatT Unit := ⟨fun _ => rfl⟩
instance {α : Type} [ToD α] [FlatT α] : FlatT (Option α) := ⟨fun x => by cases x with
  | none => rfl
  | some x => exact FlatT.fl x⟩
theorem o_listF {α : Type} [ToD α] [FlatT α] {xs : List α} (ha : Ev K H0 Γ ta .h (toD xs)) : EvO K H0 Γ (tCB (rListS K) (tCons ta tNil)) md (xs.map toD) := evO_flat (o_list ha) (flat_all FlatT.fl xs)
theorem o_sliceF {α : Type} [ToD α] [FlatT α] {xs : List α} {tl th : TO} {lo hi : Option Int} (ha : Ev K H0 Γ ta .h (toD xs)) (hl : EvPart K H0 Γ tl lo) (hh : EvPart K H0 Γ th hi) : EvO K H0 Γ (tSl (rSlL K) ta tl th) md ((cut xs lo hi).map toD) := evO_flat (o_slice ha hl hh) (flat_all FlatT.fl _)
theorem o_lstRevF {α : Type} [ToD α] [FlatT α] {xs : List α} (ha : Ev K H0 Γ ta .h (toD xs)) : EvO K H0 Γ (tLstRev K ta) md (xs.reverse.map toD) := evO_flat (o_lstRev ha) (flat_all FlatT.fl _)
theorem o_catF {α : Type} [ToD α] [FlatT α] {xs ys zs : List α} (ha : Ev K H0 Γ ta .h (toD xs)) (hb : Ev K H0 Γ te .h (toD ys)) (h : catO xs ys = some zs) : EvO K H0 Γ (tOp (rCatS K) ta te) md (zs.map toD) := evO_flat (o_cat ha hb h) (flat_all FlatT.fl _)
theorem ev_flatT {α : Type} [ToD α] [FlatT α] {x : α} (e : Ev K H0 Γ te m1 (toD x)) : Ev K H0 Γ te md (toD x) := ev_flat e (FlatT.fl x)
theorem ev_varFT {α : Type} [ToD α] [FlatT α] {x : α} {i : Nat} (h : Γ[i]? = some (some (.v m1 (toD x))) := by rfl) : Ev K H0 Γ (tVar i) md (toD x) := ev_flat (ev_var h) (FlatT.fl x)
/-- an item of an own list: it is not the list's alone -/
theorem e_idxO {α : Type} [ToD α] {xs : List α} {i : Nat} {n : Int} {a : α} (hv : Γ[i]? = some (some (.o md (xs.map toD)))) (hb : Ev K H0 Γ te .h (toD n)) (h : atI xs n = some a) : Ev K H0 Γ (tOp (rIxL K) (tVar i) te) md (toD a) := fun A N W O H σ Q at' k => by
  obtain ⟨x, e, hm, l, vs, rfl, eO, el, q⟩ := at'.cs i _ hv
  refine ⟨_, e, hb _ at' fun A1 N1 H1 v a1 s1 s2 s3 q2 => ?_⟩
  have h' : atI (xs.map toD) n = some (toD a) := by rw [atI_map, h]; rfl
  obtain ⟨w, hw, hd⟩ := dpAll_atI q h'
  exact ⟨l, vs, n, w, rfl, dp_int q2, .inl (.inl (s3 _ _ el)), hw, k A1 N1 H1 w a1 s1 s2 s3 (dp_mono (Md.sel_mono s1 s2 s3) hd)⟩
/-- list(range(n)) -/
theorem rgV_rng (lo hi : Int) : rgV lo hi = (rng lo hi).map V.int := by
  unfold rgV rng; rw [List.map_map]; rfl
theorem o_listRg {n : Int} {xs : List Int} (ha : Ev K H0 Γ ta .h (toD n)) (h : rngO 0 n = some xs) : EvO K H0 Γ (tLstRg (tRg1 ta)) md (xs.map toD) := fun A N W O H σ Q a k =>
  ha _ a fun A1 N1 H1 v a1 s1 s2 s3 q => by
    unfold rngO at h
    split at h
    · rename_i hz
      cases h
      refine ⟨n, dp_int q, ⟨by omega, by omega, by omega, by omega, by omega⟩, fun l hl => ?_⟩
      rw [rgV_rng]
      have hz' : ((rng 0 n).map V.int).length ≤ sizeLine := by rw [List.length_map, rng_len, lim_eq]; show _ ≤ 16777216; omega
      exact k A1 N1 _ l _ (a1.allocO hl (a1.hl.upd_lst hz')) s1 s2 (s3.trans (same_upd hl)) (s3.free hl) (a1.ah.free hl) (a1.noW hl) upd_same ints_to
    · cases h
end
theorem hu65 {k : Nat} {A : Around} (r : Room k A) : A.units + 65 < cLine := by have := r.un; omega
abbrev noΓ : Unit → Ctx := fun _ => []
/-- within a body each list is within the line -/
theorem hok_len {P : Program} {w : World} {H : Hp} {h : Heap} (x : HOk P w H h) : HLen H := fun a xs r => by
  have q : ObjOk P w H h a (.lst xs) := r.ok x
  exact q.1
theorem pss_len {X : Cx} {st : List Stmt} {t : TS} (h : PSs X st t) : PSs X st (fun D σ H => HLen H → t D σ H) :=
  ⟨fun pins s σ H D I q => h.run pins s σ H D I (q (hok_len I.hok))⟩
/-- the script, handed in -/
theorem law_end {K : PySem.W.Frag} {pre : List PyData → PyData → Prop} {H : Hp} {a : Addr} {ns : List Int} (hp : pre [toD ns] (toD true)) (hS : SqL K H a (ns.map V.int)) : FnS K pre [.ref a] H (fun v _ => v = .bl true) fun _ _ _ => False :=
  ⟨[toD ns], toD true, .cons (.lst hS ints_to) .nil, hp, fun v N H' _ _ _ _ q => dp_bool q⟩
end Mir

namespace Mir
open PySem PySem.Spec L2
open ToD (toD)
set_option autoImplicit false
/-! ## 13. rows of one's own -/
section
variable {K : PySem.W.Frag} {H0 : Base} {ρ τ ω : Type} {R : ρ → V → Hp → Prop} {Γ Γ2 : Ctx} {t u : TS} {Γ' : τ → Ctx} {I : ω → Fl ρ τ} {ta tb te ti : TE} {ts : TA} {tt : TT} {wi : TI} {g : TG} {md m1 m2 : Md} {d d1 d2 d3 : PyData} {ds : List PyData} {vs : List Nat}
theorem rows_snoc {S H : Hp} : ∀ {ls : List Addr} {dss : List (List PyData)} {l : Addr} {ws : List V} {ds : List PyData}, Rows K S H ls dss → H l = some (.lst ws) → DpAll K S ws ds → Rows K S H (ls ++ [l]) (dss ++ [ds])
  | [], [], _, _, _, _, h, q => ⟨⟨_, h, q⟩, trivial⟩
  | _ :: _, _ :: _, _, _, _, ⟨a, r⟩, h, q => ⟨a, rows_snoc r h q⟩
  | [], _ :: _, _, _, _, h, _, _ => h.elim
  | _ :: _, [], _, _, _, h, _, _ => h.elim
theorem rows_len {S H : Hp} : ∀ {ls : List Addr} {dss : List (List PyData)}, Rows K S H ls dss → ls.length = dss.length
  | [], [], _ => rfl
  | _ :: _, _ :: _, ⟨_, r⟩ => by rw [List.length_cons, List.length_cons, rows_len r]
  | [], _ :: _, h => h.elim
  | _ :: _, [], h => h.elim
/-- [f(x) for x in xs if p(x)], each f(x) a new list of its own -/
theorem p_lc {α β : Type} [ToD α] [ToD β] {xs : List α} {ys : List (List β)} {p : α → Option Bool} {f : α → Option (List β)} {Γ2 : α → Ctx} (hi : EvI K H0 Γ wi m1 (xs.map toD)) (hv : ∀ i ∈ vs, Γ[i]? = some none)
    (hg : ∀ x, Tg K H0 g m1 (toD x) vs Γ (Γ2 x)) (hl : ∀ x, Γ.length = (Γ2 x).length) (hs : ∀ x (i : Nat) (c : Cell), Γ[i]? = some (some c) → (Γ2 x)[i]? = some (some c))
    (ht : ∀ x b, p x = some b → EvT K H0 (Γ2 x) tt b) (he : ∀ x y, f x = some y → EvO K H0 (Γ2 x) te m2 (y.map toD)) (hm : m2 ≠ .h) (h : cmpO p f xs = some ys) : EvP K H0 Γ (tLc wi g tt te vs) m2 (ys.map (·.map toD)) := fun A N W O H σ Q a k =>
  hi _ a fun A1 N1 H1 J G Y a1 s1 s2 s3 w hz hG hY => by
    intro D hD
    have hDA : A1 D = none := a1.ah.free hD
    have hDW : ¬ W D := a1.noW hD
    have hDO : ∀ i, D ∉ O i := fun i z => hDW (a1.sub i D z)
    have n0 : (0 : Nat) ≤ sizeLine := Nat.zero_le _
    have a2 : AtB K H0 A1 N1 (fun b => W b ∨ b = D ∨ b ∈ ([] : List Addr)) O (upd H1 D (.lst [])) (wipe σ vs) Γ := by
      have a0 := ((a1.allocO (o := .lst []) hD (a1.hl.upd_lst n0)).reserve hDA (by rw [upd_same]; exact fun z => by cases z)).wiped (vs := vs) rfl (fun _ _ e => e) hv
      exact { a0 with own := fun b w => by
                        rcases w with w | w | w
                        · exact a0.own b (.inl w)
                        · exact a0.own b (.inr w)
                        · cases w
                      sub := fun i l h => .inl (a1.sub i l h) }
    refine lc_it w (fun i H => ∃ A N done rest ls, AtB K H0 A N (fun b => W b ∨ b = D ∨ b ∈ ls) O H (wipe σ vs) Γ ∧ Same A1 A ∧ Same N1 N ∧ Same H1 H ∧ H D = some (.lst (ls.map V.ref)) ∧ Rows K (m2.sel A N H) H ls ((done : List (List β)).map (·.map toD)) ∧ (∀ b ∈ ls, H1 b = none ∧ ¬ W b ∧ b ≠ D) ∧ ls.Nodup ∧ cmpO p f (xs.drop i) = some rest ∧ done ++ rest = ys ∧ done.length ≤ i)
      ⟨A1, N1, [], ys, [], a2, Same.refl _, Same.refl _, same_upd hD, upd_same, trivial, (fun b h => by cases h), .nil, by rw [List.drop_zero]; exact h, rfl, Nat.le_refl _⟩ (fun i H _ hP => ?_) (fun i x H H' hi' hP hYx => ?_) (fun H hP => ?_)
    · obtain ⟨A, N, done, rest, ls, a3, u1, _⟩ := hP
      exact hG H (u1.trans a3.ah)
    · obtain ⟨A, N, done, rest, ls, a3, u1, u2, u3, hDl, hq, hf, hnd, hr, hd, hn⟩ := hP
      obtain ⟨A4, N4, d, a4, v1, v2, v3, hdd, qx⟩ := hY i A N _ O H _ Γ x H' a3 u1 u2 hi' hYx
      rw [List.getElem?_map] at hdd
      obtain ⟨xi, hxi, rfl⟩ := Option.map_eq_some_iff.mp hdd
      rw [List.drop_eq_getElem?_toList_append, hxi] at hr
      have hr' : cmpO p f (xi :: xs.drop (i + 1)) = some rest := hr
      simp only [cmpO] at hr'
      obtain ⟨b, hb, hr'⟩ := bind_some_iff hr'
      refine hg xi x _ a4 qx fun σ' a5 hw' => ?_
      rw [wipe_wipe] at hw'
      refine ⟨hw', ht xi b hb _ a5 fun A6 N6 H6 a6 x1 x2 x3 => ?_⟩
      have hDl6 : H6 D = some (.lst (ls.map V.ref)) := x3 _ _ (v3 _ _ hDl)
      have hq6 : Rows K (m2.sel A6 N6 H6) H6 ls (done.map (·.map toD)) := hq.mono (Md.sel_mono (v1.trans x1) (v2.trans x2) (v3.trans x3)) (v3.trans x3)
      have back : ∀ {A N H}, AtB K H0 A N (fun b => W b ∨ b = D ∨ b ∈ ls) O H σ' (Γ2 xi) → AtB K H0 A N (fun b => W b ∨ b = D ∨ b ∈ ls) O H (wipe σ vs) Γ := fun a => by
        have := a.wiped (vs := vs) (hl xi) (hs xi) hv
        rwa [hw'] at this
      cases b with
      | false =>
        rw [if_neg Bool.false_ne_true] at hr' ⊢
        exact ⟨A6, N6, done, rest, ls, back a6, (u1.trans v1).trans x1, (u2.trans v2).trans x2, (u3.trans v3).trans x3, hDl6, hq6, hf, hnd, hr', hd, by omega⟩
      | true =>
        rw [if_pos rfl] at hr' ⊢
        obtain ⟨y, hy, hr'⟩ := bind_some_iff hr'
        obtain ⟨rest', hr2, e⟩ := bind_some_iff hr'
        cases e
        refine he xi y hy _ a6 fun A7 N7 H7 l ws a7 z1 z2 z3 c1 c2 c3 c4 q7 => ?_
        have hDl7 := z3 _ _ hDl6
        have hq7 : Rows K (m2.sel A7 N7 H7) H7 ls (done.map (·.map toD)) := hq6.mono (Md.sel_mono z1 z2 z3) z3
        have hlen : (ls.map V.ref).length < sizeLine := by
          have e1 := rows_len hq7
          rw [List.length_map] at e1
          rw [List.length_map]
          omega
        have hlD : l ≠ D := fun z => c3 (.inr (.inl z))
        have hlW : ¬ W l := fun z => c3 (.inl z)
        have hl7 : l ∉ ls := fun z => c3 (.inr (.inr z))
        have a8 : AtB K H0 A7 N7 (fun b => W b ∨ b = D ∨ b ∈ ls ++ [l]) O H7 (wipe σ vs) Γ :=
          { back a7 with
            own := fun b w => by
              rcases w with w | w | w
              · exact a7.own b (.inl w)
              · exact a7.own b (.inr (.inl w))
              · rcases List.mem_append.mp w with w | w
                · exact a7.own b (.inr (.inr w))
                · rw [List.mem_singleton.mp w]; exact ⟨c2, fun z => by rw [c4] at z; cases z⟩
            sub := fun i m h => .inl (a1.sub i m h) }
        have hH1l : H1 l = none := ((((u3.trans v3).trans x3)).free c1)
        refine ⟨ls.map V.ref, hDl7, hlen, A7, N7, done ++ [y], rest', ls ++ [l], ?_, ((u1.trans v1).trans x1).trans z1, ((u2.trans v2).trans x2).trans z2, same_updR (((u3.trans v3).trans x3).trans z3) hD, ?_, ?_, ?_, ?_, hr2, by rw [List.append_assoc]; exact hd, by rw [List.length_append]; show done.length + 1 ≤ i + 1; omega⟩
        · exact write_D a8 (.inr (.inl rfl)) hDO (by rw [List.length_append]; exact hlen)
        · rw [upd_same, List.map_append]; rfl
        · have r := (rows_snoc hq7 c4 q7).at (H' := upd H7 D (.lst (ls.map V.ref ++ [V.ref l]))) fun b hb => upd_ne (by
            rcases List.mem_append.mp hb with h | h
            · exact (hf b h).2.2
            · rw [List.mem_singleton.mp h]; exact hlD)
          rw [List.map_append]
          cases m2
          · exact absurd rfl hm
          · exact r
          · exact r
        · intro b hb
          rcases List.mem_append.mp hb with h | h
          · exact hf b h
          · rw [List.mem_singleton.mp h]; exact ⟨hH1l, hlW, hlD⟩
        · exact List.nodup_append.mpr ⟨hnd, List.nodup_cons.mpr ⟨by simp, .nil⟩, fun b hb c hc => by rw [List.mem_singleton.mp hc]; exact fun z => hl7 (z ▸ hb)⟩
    · obtain ⟨A, N, done, rest, ls, a3, u1, u2, u3, hDl, hq, hf, hnd, hr, hd, hn⟩ := hP
      rw [List.length_map, List.drop_length] at hr
      have e : rest = [] := (Option.some.inj hr).symm
      subst e
      rw [List.append_nil] at hd
      subst hd
      have a4 : AtB K H0 A N W O H (wipe σ vs) Γ := a3.unreserve (fun _ h => .inl h) a1.sub
      have a5 : AtB K H0 A N W O H σ Γ := { a4 with
        len := a.len
        cs := fun i c e => by
          obtain ⟨x, e1, q⟩ := a4.cs i c e
          exact ⟨x, (wipe_some e1).1, q⟩ }
      refine k A N H D ls a5 (s1.trans u1) (s2.trans u2) (s3.trans u3) (fun b hb => ?_) (List.nodup_cons.mpr ⟨fun z => (hf D z).2.2 rfl, hnd⟩) hDl hq
      rcases List.mem_cons.mp hb with rfl | hb
      · exact ⟨s3.free hD, (a3.own b (.inr (.inl rfl))).1, hDW⟩
      · exact ⟨s3.free (hf b hb).1, (a3.own b (.inr (.inr hb))).1, (hf b hb).2.1⟩
theorem p_lc1 {α β : Type} [ToD α] [ToD β] {i : Nat} {xs : List α} {ys : List (List β)} {p : α → Option Bool} {f : α → Option (List β)} (hi : EvI K H0 Γ wi m1 (xs.map toD)) (hm1 : m1 ≠ .h)
    (ht : ∀ x b, p x = some b → EvT K H0 (Γ.set i (some (.v m1 (toD x)))) tt b) (he : ∀ x y, f x = some y → EvO K H0 (Γ.set i (some (.v m1 (toD x)))) te m2 (y.map toD)) (h : cmpO p f xs = some ys) (hm : m2 ≠ .h) (hv : Γ[i]? = some none := by rfl) : EvP K H0 Γ (tLc wi (gName i) tt te [i]) m2 (ys.map (·.map toD)) :=
  p_lc (Γ2 := fun x => Γ.set i (some (.v m1 (toD x)))) hi (fun j hj => by rw [List.mem_singleton.mp hj]; exact hv) (fun x => g_name hm1 (lt_of_get hv)) (fun x => by rw [List.length_set]) (fun x j c e => set_keep hv j c e) ht he hm h
theorem p_map1 {α β : Type} [ToD α] [ToD β] {i : Nat} {xs : List α} {ys : List (List β)} {f : α → Option (List β)} (hi : EvI K H0 Γ wi m1 (xs.map toD)) (hm1 : m1 ≠ .h)
    (he : ∀ x y, f x = some y → EvO K H0 (Γ.set i (some (.v m1 (toD x)))) te m2 (y.map toD)) (h : mapO f xs = some ys) (hm : m2 ≠ .h) (hv : Γ[i]? = some none := by rfl) : EvP K H0 Γ (tLc wi (gName i) tYes te [i]) m2 (ys.map (·.map toD)) :=
  p_lc1 (p := fun _ => some true) hi hm1 (fun x b e => by cases e; exact t_yes) he (by rw [← mapO_cmp]; exact h) hm hv
/-- rows of one's own, kept as things that never change -/
theorem AtB.freezeR {md : Md} {H' : Hp} {W : Addr → Prop} {O : Nat → List Addr} {σ : St} (hm : md ≠ .h) : ∀ (ls : List Addr) (dss : List (List PyData)) (A N : Hp), AtB K H0 A N W O H' σ Γ → Rows K (md.sel A N H') H' ls dss → (∀ k ∈ ls, A k = none ∧ ¬ W k) → ls.Nodup →
        ∃ A2 N2, AtB K H0 A2 N2 W O H' σ Γ ∧ Same A A2 ∧ Same N N2 ∧ DpAll K (md.sel A2 N2 H') (ls.map V.ref) (dss.map PyData.list) ∧ ∀ b, b ∉ ls → A b = none → A2 b = none := by
      intro ls
      induction ls with
      | nil =>
        intro dss A N a hr _ _
        cases dss with
        | nil => exact ⟨A, N, a, Same.refl _, Same.refl _, .nil, fun b _ h => h⟩
        | cons _ _ => exact hr.elim
      | cons l ls ih =>
        intro dss A N a hr hk nd
        cases dss with
        | nil => exact hr.elim
        | cons ds dss =>
          obtain ⟨⟨vs, e, q⟩, r⟩ := hr
          obtain ⟨d1, d2⟩ := List.nodup_cons.mp nd
          obtain ⟨k1, k2⟩ := hk l List.mem_cons_self
          have a2 := a.freeze k1 k2 e
          have e1 : Same A (upd A l (.lst vs)) := same_upd k1
          have e2 : Same N (upd N l (.lst vs)) := same_upd (a.na.free k1)
          obtain ⟨A2, N2, a3, f1, f2, f3, f4⟩ := ih dss _ _ a2 (r.mono (Md.sel_mono e1 e2 (Same.refl _)) (Same.refl _)) (fun k hk' => ⟨by
            rw [upd_ne (show k ≠ l from fun z => d1 (z ▸ hk'))]; exact (hk k (List.mem_cons_of_mem _ hk')).1, (hk k (List.mem_cons_of_mem _ hk')).2⟩) d2
          refine ⟨A2, N2, a3, e1.trans f1, e2.trans f2, .cons ?_ f3, fun b hb hA => ?_⟩
          · refine .lst (.inl (.inl ?_)) (dpAll_mono (Md.sel_mono (e1.trans f1) (e2.trans f2) (Same.refl _)) q)
            cases md
            · exact absurd rfl hm
            · exact f1 _ _ upd_same
            · exact f2 _ _ upd_same
          · have hbl : b ≠ l := fun z => hb (z ▸ List.mem_cons_self)
            exact f4 b (fun z => hb (List.mem_cons_of_mem _ z)) (by rw [upd_ne hbl]; exact hA)
theorem evP_ev {α : Type} [ToD α] {xss : List (List α)} (e : EvP K H0 Γ te md (xss.map (·.map toD))) (hm : md ≠ .h) : Ev K H0 Γ te md (toD xss) := fun A N W O H σ Q a k =>
  e Q a fun A' N' H' l ls a' sA sN sH h1 hnd h4 q => by
    have ed : toD xss = PyData.list ((xss.map (·.map toD)).map PyData.list) := by
      show PyData.list (xss.map toD) = _
      rw [List.map_map]; rfl
    rw [ed] at k
    obtain ⟨n1, n2⟩ := List.nodup_cons.mp hnd
    obtain ⟨A2, N2, a2, f1, f2, f3, f4⟩ := AtB.freezeR hm ls _ A' N' a' q (fun k hk => (h1 k (List.mem_cons_of_mem _ hk)).2) n2
    obtain ⟨g1, g2, g3⟩ := h1 l List.mem_cons_self
    have hl2 := f4 l n1 g2
    have a3 := a2.freeze hl2 g3 h4
    have e1 : Same A2 (upd A2 l (.lst (ls.map V.ref))) := same_upd hl2
    have e2 : Same N2 (upd N2 l (.lst (ls.map V.ref))) := same_upd (a2.na.free hl2)
    refine k _ _ H' _ a3 ((sA.trans f1).trans e1) ((sN.trans f2).trans e2) sH ?_
    cases md
    · exact absurd rfl hm
    · exact .lst (.inl (.inl upd_same)) (dpAll_mono e1 f3)
    · exact .lst (.inl (.inl upd_same)) (dpAll_mono e2 f3)
/-- rows of one's own become plain data -/
theorem b_freezeP {i : Nat} {dss : List (List PyData)} {m : Option ω} (h : Γ[i]? = some (some (.p md dss))) (hΓ : Γ.set i (some (.v md (.list (dss.map PyData.list)))) = Γ2) (rest : Blk K H0 R Γ2 t Γ' I m) : Blk K H0 R Γ t Γ' I m := fun w hw D A N W O H σ a kn kr => by
  subst hΓ
  obtain ⟨x, ex, hm, l, ls, rfl, eO, el, q⟩ := a.cs i _ h
  have hlO : ∀ b, b ∈ O i ↔ b ∈ l :: ls := fun b => by rw [eO]
  have hnd : (l :: ls).Nodup := eO ▸ a.nd i
  obtain ⟨n1, n2⟩ := List.nodup_cons.mp hnd
  have hA : ∀ b ∈ l :: ls, A b = none := fun b hb => (a.own b (a.sub i b ((hlO b).mpr hb))).1
  have a0 : AtB K H0 A N (fun b => W b ∧ b ∉ l :: ls) (fun j => if j = i then [] else O j) H σ (Γ.set i none) :=
    { a with
      own := fun b w => a.own b w.1
      sub := fun j k hk => by
        by_cases z : j = i
        · rw [if_pos z] at hk; cases hk
        · rw [if_neg z] at hk
          exact ⟨a.sub j k hk, fun e => z (a.dj j i k hk ((hlO k).mpr e))⟩
      dj := fun j k b h1 h2 => by
        by_cases z : j = i
        · rw [if_pos z] at h1; cases h1
        · by_cases z2 : k = i
          · rw [if_pos z2] at h2; cases h2
          · rw [if_neg z] at h1; rw [if_neg z2] at h2; exact a.dj j k b h1 h2
      nd := fun j => by
        by_cases z : j = i
        · rw [if_pos z]; exact .nil
        · rw [if_neg z]; exact a.nd j
      len := by rw [List.length_set]; exact a.len
      cs := fun j c e => by
        by_cases z : j = i
        · subst z; rw [List.getElem?_set_self (lt_of_get h)] at e; cases e
        · rw [List.getElem?_set_ne (Ne.symm z)] at e
          rw [if_neg z]
          exact a.cs j c e }
  obtain ⟨A2, N2, a2, f1, f2, f3, f4⟩ := AtB.freezeR hm ls _ A N a0 q (fun k hk => ⟨hA k (List.mem_cons_of_mem _ hk), fun z => z.2 (List.mem_cons_of_mem _ hk)⟩) n2
  have hl2 := f4 l n1 (hA l List.mem_cons_self)
  have a1 := a2.freeze hl2 (fun z => z.2 List.mem_cons_self) el
  have e1 : Same A2 (upd A2 l (.lst (ls.map V.ref))) := same_upd hl2
  have e2 : Same N2 (upd N2 l (.lst (ls.map V.ref))) := same_upd (a2.na.free hl2)
  have hi := lt_of_get h
  have q' : Dp K (md.sel (upd A2 l (.lst (ls.map V.ref))) (upd N2 l (.lst (ls.map V.ref))) H) (.ref l) (.list (dss.map PyData.list)) := by
    cases md
    · exact absurd rfl hm
    · exact .lst (.inl (.inl upd_same)) (dpAll_mono e1 f3)
    · exact .lst (.inl (.inl upd_same)) (dpAll_mono e2 f3)
  have a4 : AtB K H0 (upd A2 l (.lst (ls.map V.ref))) (upd N2 l (.lst (ls.map V.ref))) (fun b => W b ∧ b ∉ l :: ls) (fun j => if j = i then [] else O j) H σ (Γ.set i (some (.v md (.list (dss.map PyData.list))))) :=
    { a1 with
      len := by rw [List.length_set]; exact a.len
      cs := fun j c e => by
        by_cases z : j = i
        · subst z
          rw [List.getElem?_set_self hi] at e; cases e
          exact ⟨_, ex, hm, q'⟩
        · rw [List.getElem?_set_ne (Ne.symm z)] at e
          exact a1.cs j c (by rw [List.getElem?_set_ne (Ne.symm z)]; exact e) }
  exact rest w hw D a4 (fun st e A' N' W' O' H' σ' a' x1 x2 => kn st e A' N' W' O' H' σ' a' ((f1.trans e1).trans x1) ((f2.trans e2).trans x2)) kr
theorem list_toD2 {α : Type} [ToD α] (xss : List (List α)) : PyData.list ((xss.map (·.map toD)).map PyData.list) = toD xss := by
  show _ = PyData.list (xss.map toD)
  rw [List.map_map]; rfl
theorem b_freezePT {α : Type} [ToD α] {i : Nat} {xss : List (List α)} {m : Option ω} (h : Γ[i]? = some (some (.p md (xss.map (·.map toD))))) (hΓ : Γ.set i (some (.v md (toD xss))) = Γ2) (rest : Blk K H0 R Γ2 t Γ' I m) : Blk K H0 R Γ t Γ' I m :=
  b_freezeP h ((list_toD2 xss).symm ▸ hΓ) rest
theorem e_lenT2 {α β : Type} [ToD α] [ToD β] {p : α × β} (ha : Ev K H0 Γ ta .h (toD p)) : Ev K H0 Γ (tCB (rLenS K) (tCons ta tNil)) md (toD (2 : Int)) := e_lenT (ds := [toD p.1, toD p.2]) ha
theorem e_lenT3 {α β γ : Type} [ToD α] [ToD β] [ToD γ] {p : Tri α β γ} (ha : Ev K H0 Γ ta .h (toD p)) : Ev K H0 Γ (tCB (rLenS K) (tCons ta tNil)) md (toD (3 : Int)) := e_lenT (ds := [toD p.a, toD p.b, toD p.c]) ha
theorem rows_get {S H : Hp} : ∀ {ls : List Addr} {dss : List (List PyData)} {i : Nat} {ds : List PyData}, Rows K S H ls dss → dss[i]? = some ds → ∃ l vs, ls[i]? = some l ∧ H l = some (.lst vs) ∧ DpAll K S vs ds
  | [], [], _, _, _, h => by simp at h
  | l :: ls, d :: dss, 0, ds, ⟨⟨vs, e, q⟩, r⟩, h => by
    have h' := Option.some.inj h
    subst h'
    exact ⟨l, vs, rfl, e, q⟩
  | l :: ls, d :: dss, i + 1, ds, ⟨_, r⟩, h => by
    obtain ⟨m, vs, h1, h2, h3⟩ := rows_get (i := i) r (by simpa using h)
    exact ⟨m, vs, by simpa using h1, h2, h3⟩
  | [], _ :: _, _, _, h, _ => h.elim
  | _ :: _, [], _, _, h, _ => h.elim
theorem rows_set {S H : Hp} {ws : List V} {es : List PyData} (q : DpAll K S ws es) : ∀ {ls : List Addr} {dss : List (List PyData)} {i : Nat} {l : Addr}, Rows K S H ls dss → ls.Nodup → ls[i]? = some l → Rows K S (upd H l (.lst ws)) ls (dss.set i es)
  | [], [], _, _, _, _, h => by simp at h
  | m :: ls, d :: dss, 0, l, ⟨_, r⟩, nd, h => by
    have h' := Option.some.inj h
    subst h'
    obtain ⟨d1, _⟩ := List.nodup_cons.mp nd
    exact ⟨⟨ws, upd_same, q⟩, r.at fun k hk => upd_ne fun z => d1 (z ▸ hk)⟩
  | m :: ls, d :: dss, i + 1, l, ⟨⟨vs, e, q'⟩, r⟩, nd, h => by
    obtain ⟨d1, d2⟩ := List.nodup_cons.mp nd
    have h' : ls[i]? = some l := by simpa using h
    have hne : m ≠ l := fun z => d1 (z ▸ List.mem_of_getElem? h')
    exact ⟨⟨vs, by rw [upd_ne hne]; exact e, q'⟩, rows_set (i := i) q r d2 h'⟩
  | [], _ :: _, _, _, h, _, _ => h.elim
  | _ :: _, [], _, _, h, _, _ => h.elim
def app2O {α : Type} (xss : List (List α)) (i : Int) (a : α) : Option (List (List α)) := (ixN xss.length i).bind fun k => xss[k]?.bind fun row => if row.length < lim then some (xss.set k (row ++ [a])) else none
/-- xs[i].append(e) -/
theorem b_append2 {α : Type} [ToD α] {xss yss : List (List α)} {y : α} {n : Int} {i : Nat} {m : Option ω} (h : Γ[i]? = some (some (.p md (xss.map (·.map toD))))) (hn : Ev K H0 Γ ti .h (toD n)) (he : Ev K H0 Γ te md (toD y)) (hy : app2O xss n y = some yss) (hΓ : Γ.set i (some (.p md (yss.map (·.map toD)))) = Γ2) (rest : Blk K H0 R Γ2 u Γ' I m) :
    Blk K H0 R Γ (tSeq (tDrop (tBM K "list" rAppend (tOp (rIxL K) (tVar i) ti) (tCons te tNil))) u) Γ' I m := fun w hw D A N W O H σ a kn kr => by
  subst hΓ
  obtain ⟨x0, ex0, hm, l, ls, rfl, eO, el, q⟩ := a.cs i _ h
  refine ⟨_, ex0, hn _ a fun A1 N1 H1 v1 a1 s1 s2 s3 q1 => ?_⟩
  obtain ⟨k, hk, hy⟩ := bind_some_iff hy
  obtain ⟨row, hrow, hy⟩ := bind_some_iff hy
  split at hy
  · rename_i hz
    cases hy
    have hr1 : (xss.map (·.map toD))[k]? = some (row.map toD) := by rw [List.getElem?_map, hrow]; rfl
    have hi := lt_of_get h
    -- ahead of the item
    have q1' : Rows K (md.sel A1 N1 H1) H1 ls (xss.map (·.map toD)) := q.mono (Md.sel_mono s1 s2 s3) s3
    have el1 := s3 _ _ el
    obtain ⟨b, ws, hb, hbw, hbq⟩ := rows_get q1' hr1
    have lenls : (ls.map V.ref).length = xss.length := by rw [List.length_map, rows_len q1', List.length_map]
    refine ⟨l, ls.map V.ref, n, .ref b, rfl, dp_int q1, .inl (.inl el1), ?_, tyL hbw, ?_⟩
    · unfold atI
      rw [lenls, hk]
      show (ls.map V.ref)[k]? = _
      rw [List.getElem?_map, hb]; rfl
    · refine he _ a1 fun A2 N2 H2 v2 a2 t1 t2 t3 q2 => ?_
      have hbw2 := t3 _ _ hbw
      have hlen : ws.length < sizeLine := by rw [dpAll_len hbq, List.length_map, lim_eq]; exact hz
      refine ⟨b, ws, v2, rfl, rfl, hbw2, hlen, ?_⟩
      have hbl : b ∈ l :: ls := List.mem_cons_of_mem _ (List.mem_of_getElem? hb)
      have hWb : W b := a2.sub i b (by rw [eO]; exact hbl)
      have nd := a2.nd i
      rw [eO] at nd
      obtain ⟨nd1, nd2⟩ := List.nodup_cons.mp nd
      have a0 : AtB K H0 A2 N2 W O H2 σ (Γ.set i none) := a2.weak (by rw [List.length_set]) fun j c e => by
        by_cases z : j = i
        · subst z; rw [List.getElem?_set_self hi] at e; cases e
        · rw [List.getElem?_set_ne (Ne.symm z)] at e; exact e
      have hz2 : (ws ++ [v2]).length ≤ sizeLine := by rw [List.length_append]; exact hlen
      have a3 := a0.write (vs := ws ++ [v2]) hWb hz2 fun j c e hj => by
        have z : j = i := a2.dj j i b hj (by rw [eO]; exact hbl)
        subst z; rw [List.getElem?_set_self hi] at e; cases e
      have q2' : Rows K (md.sel A2 N2 H2) H2 ls (xss.map (·.map toD)) := q1'.mono (Md.sel_mono t1 t2 t3) t3
      have hq3 : DpAll K (md.sel A2 N2 H2) (ws ++ [v2]) ((row ++ [y]).map toD) := by
        rw [List.map_append]; exact dpAll_app (dpAll_mono (Md.sel_mono t1 t2 t3) hbq) (.cons q2 .nil)
      have q3 := rows_set hq3 q2' nd2 hb
      have hlb : l ≠ b := fun z => nd1 (z ▸ List.mem_of_getElem? hb)
      have a4 : AtB K H0 A2 N2 W O (upd H2 b (.lst (ws ++ [v2]))) σ (Γ.set i (some (.p md ((xss.set k (row ++ [y])).map (·.map toD))))) :=
        { a3 with
          len := by rw [List.length_set]; exact a.len
          cs := fun j c e => by
            by_cases z : j = i
            · subst z
              rw [List.getElem?_set_self hi] at e; cases e
              refine ⟨_, ex0, hm, l, ls, rfl, eO, by rw [upd_ne hlb]; exact t3 _ _ el1, ?_⟩
              rw [List.map_set]
              cases md
              · exact absurd rfl hm
              · exact q3
              · exact q3
            · rw [List.getElem?_set_ne (Ne.symm z)] at e
              exact a3.cs j c (by rw [List.getElem?_set_ne (Ne.symm z)]; exact e) }
      exact rest w hw D a4 (fun st' e' A'' N'' W'' O'' H'' σ'' a'' y1 y2 => kn st' e' A'' N'' W'' O'' H'' σ'' a'' ((s1.trans t1).trans y1) ((s2.trans t2).trans y2)) kr
  · cases hy
theorem o_revL {α : Type} [ToD α] {xs : List α} (ha : Ev K H0 Γ ta md (toD xs)) : EvO K H0 Γ (tRevL K ta) md (xs.reverse.map toD) := fun A N W O H σ Q a k => o_lstRev ha Q a k
theorem o_revLF {α : Type} [ToD α] [FlatT α] {xs : List α} (ha : Ev K H0 Γ ta .h (toD xs)) : EvO K H0 Γ (tRevL K ta) md (xs.reverse.map toD) := evO_flat (o_revL ha) (flat_all FlatT.fl _)
/-- xs.index(e) -/
def idxO {α : Type} [DecidableEq α] : List α → α → Option Int
  | [], _ => none
  | x :: xs, a => if x = a then some 0 else (idxO xs a).bind fun i => some (i + 1)
theorem idxO_spec {α : Type} [DecidableEq α] {a : α} : ∀ {xs : List α} {i : Int}, idxO xs a = some i → ∃ j : Nat, i = (j : Int) ∧ xs[j]? = some a ∧ ∀ (m : Nat) z, m < j → xs[m]? = some z → z ≠ a
  | [], _, h => by cases h
  | x :: xs, i, h => by
    unfold idxO at h
    split at h
    · rename_i e
      cases h
      exact ⟨0, rfl, by rw [e]; rfl, fun m z hm => by omega⟩
    · rename_i e
      obtain ⟨k, hk, h⟩ := bind_some_iff h
      cases h
      obtain ⟨j, rfl, h1, h2⟩ := idxO_spec hk
      refine ⟨j + 1, by omega, by simpa using h1, fun m z hm hz => ?_⟩
      cases m with
      | zero =>
        have : x = z := by simpa using hz
        exact this ▸ e
      | succ m => exact h2 m z (by omega) (by simpa using hz)
theorem e_index {α : Type} [ToD α] [DecidableEq α] [LawD α] {xs : List α} {a : α} {i : Int} (ha : Ev K H0 Γ ta .h (toD xs)) (hb : Ev K H0 Γ te .h (toD a)) (h : idxO xs a = some i) (hd : ToD.dep α + 1 ≤ 64 := by decide) : Ev K H0 Γ (tBM K "list" (rIndexD K) ta (tCons te tNil)) md (toD i) := fun A N W O H σ Q at' k =>
  ha _ at' fun A1 N1 H1 v a1 s1 s2 s3 q1 => by
    obtain ⟨p, vs, rfl, hS, hA⟩ := dp_list q1
    refine ⟨.inl ⟨rfl, vs, hS⟩, hb _ a1 fun A2 N2 H2 w a2 t1 t2 t3 q2 => ?_⟩
    obtain ⟨j, rfl, h1, h2⟩ := idxO_spec h
    refine ⟨p, w, toD a, xs.map toD, j, toD a, rfl, rfl, dp_mono t3 q1, q2, shaped_of (α := List α) hd xs, shaped_of (by omega) a, by rw [List.getElem?_map, h1]; rfl, by rw [LawD.eqv]; simp, fun m z' hm hz => ?_, ?_⟩
    · rw [List.getElem?_map] at hz
      obtain ⟨z, hz', rfl⟩ := Option.map_eq_some_iff.mp hz
      rw [LawD.eqv]
      exact decide_eq_false (h2 m z hm hz')
    · exact k A2 N2 H2 _ a2 (s1.trans t1) (s2.trans t2) (s3.trans t3) (.int _)
end
end Mir

set_option maxHeartbeats 4000000
namespace Mir
open PySem PySem.Spec L2 PyProof.Rows
set_option autoImplicit false
/-! ## set(a list of whole numbers) -/
section
variable {P : Program} {w : World} {A : Around} {E : Value → Shared → Prop} {s : Shared}
/-- the new set's object -/
abbrev newSet (w : World) : Obj := { cls := .type "set", dict := none, data := .set #[] 0 (.fresh 0 0 (!w.params.followText "set-order")) }
/-- what the filling leaves -/
def SetDone (w : World) (s : Shared) (ns : List Int) (s₂ : Shared) : Prop :=
  ∃ h' tk c, s₂ = { s with heap := h', toks := tk } ∧ SetR w h' s.heap.objs.size (fun j => decide (j ∈ ns)) c ∧ ∀ b o, s.heap.get? b = some o → h'.get? b = some o
set_option maxHeartbeats 3200000 in
theorem set_fill {l : Addr} {items : Array Value} (ns : List Int) (hh : A.handled = none) (hl : s.heap.IsList l items) (hit : IntsAre items.toList ns) (hb : ns.length + 1 < scanBound) (hT : Shared.TypeIs { s with heap := s.heap.push (newSet w) } (.ref s.heap.objs.size) "set") :
    codeAny (model P w) A (.call (.builtin "set.__init__") ⟨[.ref s.heap.objs.size, .ref l], []⟩) (wants (fun r s₂ => r = .none ∧ SetDone w s ns s₂) E) { s with heap := s.heap.push (newSet w) } := by
  have hsz : items.size = ns.length := by
    have q := IntsAre.length hit
    rwa [Array.length_toList] at q
  have hlS : l < s.heap.objs.size := by obtain ⟨o, e, _⟩ := hl; exact Heap.lt_size e
  have hl1 : (s.heap.push (newSet w)).IsList l items := hl.push _
  have z1 : (s.heap.push (newSet w)).objs.size = s.heap.objs.size + 1 := Heap.size_push ..
  have hS : (s.heap.push (newSet w)).get? s.heap.objs.size = some (newSet w) := Heap.get?_push_size _ rfl
  refine codeAny_call_builtin F.called_set.init.plain F.entry_set_init (check_set_init_1 hT ?_)
  have hsls := F.sub_list_set
  have hslf := F.sub_list_frozenset
  have hne : (Value.type "list" == Value.type "dict") = false := by decide
  obtain ⟨ol, hol, hcl, nl, hdl⟩ := id hl1
  obtain ⟨ocls, odict, odata, oslots⟩ := ol
  simp only at hcl hdl
  subst hcl; subst hdl
  unfold Builtin.«set.__init__» noKeywords Builtin.Frozenset.updateFrom
  generalize hPI : pyIter = PI
  wp_walk
  subst hPI
  refine wpAny_pyIter_list hl1 ?_
  refine wpAny_bind (wpAny_runValue ?_)
  have nI : l ≠ (s.heap.push (newSet w)).objs.size := by rw [Heap.size_push]; exact Nat.ne_of_lt (Nat.lt_succ_of_lt hlS)
  have nS : s.heap.objs.size ∉ [(s.heap.push (newSet w)).objs.size, l] := by
    rw [Heap.size_push]; simp only [List.mem_cons, List.not_mem_nil, or_false, not_or]; exact ⟨Nat.ne_of_lt (Nat.lt_succ_self _), Nat.ne_of_gt hlS⟩
  have hS2 : ((s.heap.push (newSet w)).push { cls := .type "list_iterator", data := .fields #[.ref l, .int 0 0] }).get? s.heap.objs.size = some (newSet w) := Heap.get?_push_of_some _ hS
  refine set_update_ints ((Walks.list (show A.in1.in1.handled = none by simp [hh]) _ l nI items).toS) s.heap.objs.size nS ns hsz hb ?hv (items.size - 0) 0 _ (by omega) (Nat.zero_le _) ?hst ?h0 ?hR
  case hst => exact ⟨⟨_, Heap.get?_push_size _ rfl, rfl, rfl⟩, hl1.push _⟩
  case h0 => exact ⟨0, Nat.le_refl 0, setR_new_at (w := w) (ns := ns) hS2⟩
  case hv =>
    intro i v hv
    have hi : i < ns.length := by rw [← hsz]; exact (Array.getElem?_eq_some_iff.mp hv).1
    obtain ⟨t, e⟩ := PyProof.Rows.IntsAre.int_at hit i v (by rw [Array.getElem?_toList]; exact hv)
    refine ⟨ns[i], t, List.getElem?_eq_getElem hi, ?_⟩
    rw [e, List.getD_eq_getElem?_getD, List.getElem?_eq_getElem hi] <;> rfl
  case hR =>
    intro s' c hm hc hR
    obtain ⟨h', g2, d', tk', os'⟩ := s'
    obtain rfl : g2 = s.gens := hm.gens
    obtain rfl : d' = s.drawn := hm.drawn
    obtain rfl : os' = s.os := hm.os
    show wpAny _ _ _ _ _ _
    refine wpAny_pure ?_
    show wpAny _ _ (ret Value.none) _ _ _
    refine wpAny_pure ⟨rfl, h', tk', c, rfl, hR, fun b o e => ?_⟩
    have hb0 : b < s.heap.objs.size := Heap.lt_size e
    exact hm.heap b o (by rw [Heap.size_push]; simp only [List.mem_cons, List.not_mem_nil, or_false, not_or]; exact ⟨Nat.ne_of_lt hb0, Nat.ne_of_lt (Nat.lt_succ_of_lt hb0)⟩) (Heap.get?_push_of_some _ (Heap.get?_push_of_some _ e))
set_option maxHeartbeats 3200000 in
theorem call_set_lst {l : Addr} {items : Array Value} (ns : List Int) {Q : Value → Shared → Prop} (hh : A.handled = none) (hl : s.heap.IsList l items) (hit : IntsAre items.toList ns) (hb : ns.length + 1 < scanBound)
    (h : ∀ s₂, SetDone w s ns s₂ → Q (.ref s.heap.objs.size) s₂) : wpAny (model P w) A (call (.type "set") [.ref l]) Q E s := by
  obtain ⟨c, tl, hmro⟩ := F.called_set.mro
  have hmade := F.called_set.made
  have hsub := F.called_set.sub
  refine wpAny_call (codeAny_of_tree ?_)
  show wpAny _ _ (callAny (.type "set") _) _ _ _
  refine wpAny_pure ⟨Code.quiet_builtin _ (by decide +kernel), codeAny_builtin F.entry_type_call ?_⟩
  rw [Around.under_plain (weight_type_call_type "set" [.ref l] []) rfl]
  have h1 := F.called_set.notType
  have h2 := F.called_set.canCreate
  have hct := F.typeCall_set_1 (.ref l)
  repeat (any_goals (first | assumption | wp_step))
  refine codeAny_mono (code_set_led1 (.ref l) (E := E) (Q₁ := fun obj s₁ => obj = .ref s.heap.objs.size ∧ s₁ = { s with heap := s.heap.push (newSet w) }) ⟨rfl, rfl⟩) fun r s₁ hr => ?_
  cases r with
  | error e => exact hr
  | ok fl =>
    cases fl with
    | ret obj =>
      obtain ⟨rfl, rfl⟩ := hr
      have hT : Shared.TypeIs { s with heap := s.heap.push (newSet w) } (.ref s.heap.objs.size) "set" := ⟨_, Heap.get?_push_size _ rfl, rfl⟩
      have hli := F.called_set.init.lookup
      have hbi := F.called_set.init.bind (.ref s.heap.objs.size)
      repeat (any_goals (first | assumption | wp_step))
      refine codeAny_mono (set_fill (E := E) ns (by simpa using hh) hl hit hb hT) fun r₂ s₂ hr₂ => ?_
      cases r₂ with
      | error e => exact hr₂
      | ok fl₂ =>
        cases fl₂ with
        | ret r =>
          obtain ⟨rfl, hd⟩ := hr₂
          repeat (any_goals (first | assumption | wp_step))
          exact h _ hd
        | _ => exact hr₂.elim
    | _ => exact hr.elim
end
/-- the elements, each once -/
def nub : List Int → List Int
  | [] => []
  | x :: xs => if x ∈ xs then nub xs else x :: nub xs
theorem mem_nub {k : Int} : ∀ {xs : List Int}, k ∈ nub xs ↔ k ∈ xs
  | [] => Iff.rfl
  | x :: xs => by
    unfold nub
    split
    · rename_i h
      rw [mem_nub, List.mem_cons]
      constructor
      · exact .inr
      · rintro (rfl | h')
        · exact h
        · exact h'
    · rw [List.mem_cons, List.mem_cons, mem_nub]
theorem nub_nodup : ∀ xs : List Int, (nub xs).Nodup
  | [] => .nil
  | x :: xs => by
    unfold nub
    split
    · exact nub_nodup xs
    · rename_i h
      exact List.nodup_cons.mpr ⟨fun z => h (mem_nub.mp z), nub_nodup xs⟩
theorem nub_perm {xs ys : List Int} (hn : ys.Nodup) (h : ∀ k, k ∈ ys ↔ k ∈ xs) : ys.Perm (nub xs) := (List.perm_ext_iff_of_nodup hn (nub_nodup xs)).mpr fun k => by rw [h, mem_nub]
theorem nub_le : ∀ xs : List Int, (nub xs).length ≤ xs.length
  | [] => Nat.le_refl _
  | x :: xs => by
    have := nub_le xs
    unfold nub
    split
    · rw [List.length_cons]; omega
    · rw [List.length_cons, List.length_cons]; omega
section
variable {X : Cx}
def rSetL (K : PySem.W.Frag) (w : World) : List V → Hp → VK → Prop := fun xs H Q => ∃ (l : Addr) (ns : List Int), xs = [.ref l] ∧ SqL K H l (ns.map V.int) ∧ ns.length + 1 < 4096 ∧
  ∀ p, H p = none → Q (.ref p) (upd H p (SetO w p (fun j => decide (j ∈ ns)) (nub ns).length))
theorem cr_setL (hc : X.calm = true) : CallR X (.type "set") (rSetL X.K X.w) := by
  intro pins s σ H xs us Q I r h
  obtain ⟨l, ns, rfl, hs, hb, q⟩ := h
  obtain ⟨its, rv, pl, hz⟩ := I.list hs
  rw [Vals.ref1 r]
  refine call_set_lst ns (I.ok.hd hc) pl.isList (by simpa using rv.ints) hb fun s₂ hd => ?_
  obtain ⟨h', tk, c, rfl, hR, hk⟩ := hd
  have e : c = (nub ns).length := by
    obtain ⟨o, es, ep, t, ho, hx, hd, hg, hn, hm, hz, hf, hc', _⟩ := hR
    rw [← hc', ← (nub_perm (xs := ns) hn fun k => by rw [← hm k]; simp).length_eq, List.length_map, Array.length_toList]
  subst e
  exact ⟨.ref _, _, I.laid (t' := tk) hk (Nat.le_refl _) (setO_new hR), rfl, q _ (I.hok.fresh (Nat.le_refl _))⟩
def rLenSet (w : World) : List V → Hp → VK → Prop := fun xs H Q => ∃ (a : Addr) (S : Int → Bool) (n : Nat), xs = [.ref a] ∧ H a = some (SetO w a S n) ∧ Q (.int (n : Int)) H
theorem cr_lenSet : CallR X (.builtin "len") (rLenSet X.w) := by
  intro pins s σ H xs us Q I r h
  obtain ⟨a, S, n, rfl, ha, q⟩ := h
  rw [Vals.ref1 r]
  obtain ⟨o, es, ep, t, ho, hx, hd, _, _, _, hz, hf, hn, _⟩ := setO_get I ha
  exact call_len_set ho hx hd hf (by unfold scanBound at hz; omega) ⟨.int n, H, I.tok _, ⟨_, by rw [hn]⟩, q⟩
end
section
variable {K : PySem.W.Frag} {w : World} {H0 : Base} {Γ : Ctx} {ta te : TE} {md : Md} {d : PyData} {ds : List PyData}
theorem HLen.upd_ext {H : Hp} {a : Addr} {φ : Heap → Prop} (h : HLen H) : HLen (upd H a (.ext φ)) := fun b ys r => by
  by_cases e : b = a
  · subst e
    rcases r with r | ⟨o, r⟩
    · rw [upd_same] at r; cases r
    · rw [upd_same] at r; cases r
  · refine h b ys ?_
    rcases r with r | ⟨o, r⟩
    · rw [upd_ne e] at r; exact .inl r
    · rw [upd_ne e] at r; exact .inr ⟨o, r⟩
def srtSetO (ns : List Int) : Option (List Int) := if ns.length + 1 < 4096 ∧ (nub ns).length < 64 then some (srt (nub ns)) else none
def lenSetO (ns : List Int) : Option Int := if ns.length + 1 < 4096 then some ((nub ns).length : Int) else none
theorem o_sortedSet {ns ms : List Int} (ha : Ev K H0 Γ te .h (ToD.toD ns)) (h : srtSetO ns = some ms) : EvO K H0 Γ (tCB (rSortedSet w) (tCons (tCB (rSetL K w) (tCons te tNil)) tNil)) md (ms.map ToD.toD) := fun A N W O H σ Q a k => by
  unfold srtSetO at h
  split at h
  · rename_i hb
    cases h
    refine ha _ a fun A1 N1 H1 v a1 s1 s2 s3 q1 => ?_
    obtain ⟨l, rfl, hS⟩ := dp_ints q1
    refine ⟨l, ns, rfl, hS, hb.1, fun p hp => ⟨p, _, _, rfl, upd_same, hb.2, fun ms b hs hm hl hb' => ?_⟩⟩
    have e : ms = srt (nub ns) := sorted_unique ((nub_perm (hs.imp fun h => Int.ne_of_lt h) fun k => by rw [hm]; simp).trans (srt_perm _).symm) (hs.imp fun h => Int.le_of_lt h) (srt_sorted _)
    subst e
    have a2 := a1.allocO (p := p) (o := SetO w p (fun j => decide (j ∈ ns)) (nub ns).length) hp (a1.hl.upd_ext)
    have hz : ((srt (nub ns)).map V.int).length ≤ sizeLine := by rw [List.length_map, srt_len, sizeLine_eq]; omega
    have hl2 := a2.hl.upd_lst (a := b) hz
    have s5 : Same (upd H1 p (SetO w p (fun j => decide (j ∈ ns)) (nub ns).length)) _ := same_upd (o := .lst ((srt (nub ns)).map V.int)) hb'
    exact k A1 N1 _ b _ (a2.allocO hb' hl2) s1 s2 ((s3.trans (same_upd hp)).trans s5) (s3.free ((same_upd hp).free hb')) (a1.ah.free ((same_upd hp).free hb')) (a2.noW hb') upd_same ints_to
  · cases h
theorem e_lenSet {ns : List Int} {n : Int} (ha : Ev K H0 Γ te .h (ToD.toD ns)) (h : lenSetO ns = some n) : Ev K H0 Γ (tCB (rLenSet w) (tCons (tCB (rSetL K w) (tCons te tNil)) tNil)) md (ToD.toD n) := fun A N W O H σ Q a k => by
  unfold lenSetO at h
  split at h
  · rename_i hb
    cases h
    refine ha _ a fun A1 N1 H1 v a1 s1 s2 s3 q1 => ?_
    obtain ⟨l, rfl, hS⟩ := dp_ints q1
    refine ⟨l, ns, rfl, hS, hb, fun p hp => ⟨p, _, _, rfl, upd_same, ?_⟩⟩
    have a2 := a1.allocO (p := p) (o := SetO w p (fun j => decide (j ∈ ns)) (nub ns).length) hp (a1.hl.upd_ext)
    exact k A1 N1 _ _ a2 s1 s2 (s3.trans (same_upd hp)) (.int _)
  · cases h
end
end Mir

namespace Mir
open PySem PySem.Spec L2
open ToD (toD)
set_option autoImplicit false
/-! ## 14. rows of one's own: changed, kept, walked -/
section
variable {K : PySem.W.Frag} {H0 : Base} {ρ τ ω : Type} {R : ρ → V → Hp → Prop} {Γ Γ2 : Ctx} {t u tb : TS} {Γ' : τ → Ctx} {I : ω → Fl ρ τ} {ta te ti : TE} {ts : TA} {tt : TT} {wi : TI} {g : TG} {md m1 m2 : Md} {d d1 d2 d3 : PyData} {ds : List PyData} {dss : List (List PyData)} {vs : List Nat}
/-- rows of one's own as an own list of things that never change -/
theorem evP_evO (e : EvP K H0 Γ te md dss) (hm : md ≠ .h) : EvO K H0 Γ te md (dss.map PyData.list) := fun A N W O H σ Q a k =>
  e Q a fun A' N' H' l ls a' sA sN sH h1 hnd h4 q => by
    obtain ⟨n1, n2⟩ := List.nodup_cons.mp hnd
    obtain ⟨A2, N2, a2, f1, f2, f3, f4⟩ := AtB.freezeR hm ls _ A' N' a' q (fun k hk => (h1 k (List.mem_cons_of_mem _ hk)).2) n2
    obtain ⟨g1, g2, g3⟩ := h1 l List.mem_cons_self
    exact k A2 N2 H' l _ a2 (sA.trans f1) (sN.trans f2) sH g1 (f4 l n1 g2) g3 h4 f3
theorem evP_evOT {α : Type} [ToD α] {xss : List (List α)} (e : EvP K H0 Γ te md (xss.map (·.map toD))) (hm : md ≠ .h) : EvO K H0 Γ te md (xss.map toD) := by
  have q := evP_evO e hm
  rw [List.map_map] at q
  exact q
/-- one row is changed -/
theorem AtB.mutRow {i k : Nat} {ds' : List PyData} {A N : Hp} {W : Addr → Prop} {O : Nat → List Addr} {H : Hp} {σ : St} (a : AtB K H0 A N W O H σ Γ) (h : Γ[i]? = some (some (.p md dss))) (hk : dss[k]? = some ds) :
    ∃ (l : Addr) (ls : List Addr) (b : Addr) (ws : List V), σ[i]? = some (some (.ref l)) ∧ H l = some (.lst (ls.map V.ref)) ∧ ls[k]? = some b ∧ H b = some (.lst ws) ∧ DpAll K (md.sel A N H) ws ds ∧
      ∀ ws', ws'.length ≤ sizeLine → DpAll K (md.sel A N H) ws' ds' → AtB K H0 A N W O (upd H b (.lst ws')) σ (Γ.set i (some (.p md (dss.set k ds')))) := by
  obtain ⟨x0, ex0, hm, l, ls, rfl, eO, el, q⟩ := a.cs i _ h
  have hi := lt_of_get h
  obtain ⟨b, ws, hb, hbw, hbq⟩ := rows_get q hk
  have hbl : b ∈ l :: ls := List.mem_cons_of_mem _ (List.mem_of_getElem? hb)
  have hWb : W b := a.sub i b (by rw [eO]; exact hbl)
  have nd := a.nd i
  rw [eO] at nd
  obtain ⟨nd1, nd2⟩ := List.nodup_cons.mp nd
  refine ⟨l, ls, b, ws, ex0, el, hb, hbw, hbq, fun ws' hz q' => ?_⟩
  have a0 : AtB K H0 A N W O H σ (Γ.set i none) := a.weak (by rw [List.length_set]) fun j c e => by
    by_cases z : j = i
    · subst z; rw [List.getElem?_set_self hi] at e; cases e
    · rw [List.getElem?_set_ne (Ne.symm z)] at e; exact e
  have a3 := a0.write (vs := ws') hWb hz fun j c e hj => by
    have z : j = i := a.dj j i b hj (by rw [eO]; exact hbl)
    subst z; rw [List.getElem?_set_self hi] at e; cases e
  have hlb : l ≠ b := fun z => nd1 (z ▸ List.mem_of_getElem? hb)
  have q3 := rows_set (H := H) (i := k) q' q nd2 hb
  exact { a3 with
    len := by rw [List.length_set]; exact a.len
    cs := fun j c e => by
      by_cases z : j = i
      · subst z
        rw [List.getElem?_set_self hi] at e; cases e
        refine ⟨_, ex0, hm, l, ls, rfl, eO, by rw [upd_ne hlb]; exact el, ?_⟩
        cases md
        · exact absurd rfl hm
        · exact q3
        · exact q3
      · rw [List.getElem?_set_ne (Ne.symm z)] at e
        exact a3.cs j c (by rw [List.getElem?_set_ne (Ne.symm z)]; exact e) }
/-- a slot of which nothing is known is stored -/
theorem AtB.setn {j : Nat} {x : V} {A N : Hp} {W : Addr → Prop} {O : Nat → List Addr} {H : Hp} {σ : St} (a : AtB K H0 A N W O H σ Γ) (h : Γ[j]? = some none) : AtB K H0 A N W O H (σ.set j (some x)) Γ :=
  { a with
    len := by rw [List.length_set]; exact a.len
    cs := fun i c e => by
      have z : i ≠ j := fun z => by subst z; rw [h] at e; cases e
      obtain ⟨y, e1, q⟩ := a.cs i c e
      exact ⟨y, by rw [List.getElem?_set_ne (Ne.symm z)]; exact e1, q⟩ }
/-- what a change does to a row that stands at slot j -/
def RowMut (K : PySem.W.Frag) (H0 : Base) {α : Type} [ToD α] (md : Md) (Γp : List (List α) → Ctx) (j : Nat) (tb : TS) (f : List α → Option (List α)) : Prop :=
  ∀ (yss : List (List α)) (row row' : List α) (D : Ends) ⦃A N : Hp⦄ ⦃W : Addr → Prop⦄ ⦃O : Nat → List Addr⦄ ⦃H : Hp⦄ ⦃σ : St⦄ (b : Addr) (ws : List V), AtB K H0 A N W O H σ (Γp yss) → σ[j]? = some (some (.ref b)) → H b = some (.lst ws) → DpAll K (md.sel A N H) ws (row.map toD) → f row = some row' →
    (∀ A' N' H' ws', AtB K H0 A' N' W O H' σ (Γp yss) → Same A A' → Same N N' → Same H H' → ws'.length ≤ sizeLine → DpAll K (md.sel A' N' H') ws' (row'.map toD) → D.nx σ (upd H' b (.lst ws'))) → tb D σ H
theorem rm_append {α : Type} [ToD α] {Γp : List (List α) → Ctx} {j : Nat} {y : α} (he : ∀ yss, Ev K H0 (Γp yss) te md (toD y)) : RowMut K H0 md Γp j (tSeq (tDrop (tBM K "list" rAppend (tVar j) (tCons te tNil))) tNext) (fun row => appO row y) := fun yss row row' D A N W O H σ b ws a ej hb q hf k => by
  have hf : (if row.length < lim then some (row ++ [y]) else none) = some row' := hf
  split at hf
  · rename_i hz
    cases hf
    refine ⟨_, ej, tyL hb, he yss _ a fun A1 N1 H1 v a1 s1 s2 s3 q1 => ?_⟩
    have hz2 : ws.length < sizeLine := by rw [dpAll_len q, List.length_map, lim_eq]; exact hz
    refine ⟨b, ws, v, rfl, rfl, s3 _ _ hb, hz2, k A1 N1 H1 _ a1 s1 s2 s3 (by rw [List.length_append]; exact hz2) ?_⟩
    rw [List.map_append]
    exact dpAll_app (dpAll_mono (Md.sel_mono s1 s2 s3) q) (.cons q1 .nil)
  · cases hf
theorem rm_clear {α : Type} [ToD α] {Γp : List (List α) → Ctx} {j : Nat} : RowMut K H0 md Γp j (tSeq (tDrop (tBM0 K "list" rClear (tVar j))) tNext) (fun _ => some []) := fun yss row row' D A N W O H σ b ws a ej hb q hf k => by
  cases hf
  exact ⟨_, ej, tyL hb, b, ws, rfl, rfl, hb, k A N H [] a (Same.refl _) (Same.refl _) (Same.refl _) (Nat.zero_le _) .nil⟩
theorem mapO_len {α β : Type} {f : α → Option β} : ∀ {xs : List α} {ys : List β}, mapO f xs = some ys → ys.length = xs.length
  | [], _, h => by cases h; rfl
  | x :: xs, ys, h => by
    simp only [mapO] at h
    obtain ⟨y, _, h⟩ := bind_some_iff h
    obtain ⟨zs, e, h⟩ := bind_some_iff h
    cases h
    rw [List.length_cons, List.length_cons, mapO_len e]
theorem mapO_at {α β : Type} {f : α → Option β} : ∀ {xs : List α} {ys : List β} {i : Nat} {x : α}, mapO f xs = some ys → xs[i]? = some x → ∃ y, f x = some y ∧ ys[i]? = some y
  | [], _, i, x, _, h => by simp at h
  | a :: xs, ys, i, x, h, hx => by
    simp only [mapO] at h
    obtain ⟨y, e1, h⟩ := bind_some_iff h
    obtain ⟨zs, e, h⟩ := bind_some_iff h
    cases h
    cases i with
    | zero =>
      have : a = x := by simpa using hx
      subst this
      exact ⟨y, e1, rfl⟩
    | succ i =>
      obtain ⟨z, z1, z2⟩ := mapO_at (i := i) e (by simpa using hx)
      exact ⟨z, z1, by simpa using z2⟩
/-- for row in xs: a change of the row, xs rows of one's own -/
theorem b_forRows {α : Type} [ToD α] {xss yss : List (List α)} {Γp : List (List α) → Ctx} {i j : Nat} {f : List α → Option (List α)} {m : Option ω} (hf : mapO f xss = some yss) (h0 : Wk Γ (Γp xss)) (hi : ∀ zss, (Γp zss)[i]? = some (some (.p md (zss.map (·.map toD))))) (hset : ∀ zss wss : List (List α), (Γp zss).set i (some (.p md (wss.map (·.map toD)))) = Γp wss) (hj : ∀ zss, (Γp zss)[j]? = some none)
    (hb : RowMut K H0 md Γp j tb f) (rest : Blk K H0 R (Γp yss) u Γ' I m) : Blk K H0 R Γ (tSeq (tFor (iList K (tVar i)) (gName j) tb) u) Γ' I m := fun w hw D A N W O H σ a0 kn kr => by
  have a := a0.wk h0
  obtain ⟨x0, ex0, hm, l, ls, rfl, eO, el, q⟩ := a.cs i _ (hi xss)
  have hls : ls.length = xss.length := by rw [rows_len q, List.length_map]
  have hlen : (ls.map V.ref).length = xss.length := by rw [List.length_map]; exact hls
  have hy := mapO_len hf
  refine ⟨_, ex0, l, rfl, ⟨_, .inl (.inl el)⟩, ?_⟩
  refine for_it (walk_list (K := K) (a := l) (xs := ls.map V.ref)) (fun n σ' H' => ∃ A' N', AtB K H0 A' N' W O H' σ' (Γp (yss.take n ++ xss.drop n)) ∧ Same A A' ∧ Same N N' ∧ σ'[i]? = some (some (.ref l)) ∧ H' l = some (.lst (ls.map V.ref)))
    ⟨A, N, by rw [List.take_zero, List.drop_zero, List.nil_append]; exact a, Same.refl _, Same.refl _, ex0, el⟩ (fun n σ' H' _ hP => ?_) (fun n x σ' H' H'' hn hP hYx => ?_) (fun σ' H' hP => ?_)
  · obtain ⟨A', N', a', s1, s2, e1, e2⟩ := hP
    exact .inl (.inl e2)
  · obtain ⟨A', N', a', s1, s2, e1, e2⟩ := hP
    obtain ⟨rfl, ex⟩ := hYx
    rw [hlen] at hn
    have hx : xss[n]? = some xss[n] := List.getElem?_eq_getElem hn
    obtain ⟨row', hr, hr'⟩ := mapO_at hf hx
    have hk : (yss.take n ++ xss.drop n)[n]? = some xss[n] := by
      rw [List.getElem?_append_right (by rw [List.length_take]; omega), List.length_take, List.getElem?_drop, show n + (n - min n yss.length) = n by omega, hx]
    have hk2 : ((yss.take n ++ xss.drop n).map (·.map toD))[n]? = some (xss[n].map toD) := by rw [List.getElem?_map, hk]; rfl
    have hij : i ≠ j := fun z => by have := hi xss; rw [z, hj] at this; cases this
    show tb _ (σ'.set j (some x)) H''
    have a1 := a'.setn (x := x) (hj _)
    obtain ⟨l', ls', b, ws, e3, e4, e5, e6, e7, nx⟩ := a1.mutRow (ds' := row'.map toD) (hi _) hk2
    have ei : (σ'.set j (some x))[i]? = some (some (.ref l)) := by rw [List.getElem?_set_ne (Ne.symm hij)]; exact e1
    have el' : l' = l := by rw [ei] at e3; cases e3; rfl
    subst el'
    have els : ls'.map V.ref = ls.map V.ref := by rw [e2] at e4; exact (HO.lst.inj (Option.some.inj e4)).symm
    have exb : x = .ref b := by
      have z : (ls'.map V.ref)[n]? = some (.ref b) := by rw [List.getElem?_map, e5]; rfl
      rw [els, ex] at z
      cases z; rfl
    subst exb
    refine hb _ _ _ _ b ws a1 (by rw [List.getElem?_set_self (by rw [← a'.len]; exact lt_of_get (hj _))]) e6 e7 hr (fun A2 N2 H2 ws' a2 t1 t2 t3 hz q' => ?_)
    obtain ⟨l2, ls2, b2, ws2, f3, f4, f5, f6, f7, nx2⟩ := a2.mutRow (ds' := row'.map toD) (hi _) hk2
    have el2 : l2 = l' := by rw [ei] at f3; cases f3; rfl
    subst el2
    have els2 : ls2.map V.ref = ls'.map V.ref := by rw [t3 _ _ e4] at f4; exact (HO.lst.inj (Option.some.inj f4)).symm
    have eb : b2 = b := by
      have z : (ls2.map V.ref)[n]? = some (.ref b2) := by rw [List.getElem?_map, f5]; rfl
      rw [els2, List.getElem?_map, e5] at z
      cases z; rfl
    subst eb
    have a3 := nx2 ws' hz q'
    have eset : ((yss.take n ++ xss.drop n).map (·.map toD)).set n (row'.map toD) = (yss.take (n + 1) ++ xss.drop (n + 1)).map (·.map toD) := by
      rw [show (row'.map toD) = (fun z : List α => z.map toD) row' from rfl, ← List.map_set]
      congr 1
      rw [List.set_append_right _ _ (by rw [List.length_take]; omega), List.length_take, show n - min n yss.length = 0 by omega]
      rw [List.drop_eq_getElem_cons hn, List.set_cons_zero, List.take_add_one, hr']
      simp
    rw [eset, hset] at a3
    refine ⟨A2, N2, a3, s1.trans t1, s2.trans t2, ei, ?_⟩
    obtain ⟨x9, ex9, _, l9, ls9, rfl, _, el9, _⟩ := a3.cs i _ (hi _)
    have : l9 = l2 := by rw [ei] at ex9; cases ex9; rfl
    subst this
    have hb9 : l9 ≠ b2 := by
      have nd := a2.nd i
      obtain ⟨x8, ex8, _, l8, ls8, rfl, eO8, el8, _⟩ := a2.cs i _ (hi _)
      have : l8 = l9 := by rw [ei] at ex8; cases ex8; rfl
      subst this
      rw [eO8] at nd
      intro z
      have : ls8.map V.ref = ls2.map V.ref := by rw [f4] at el8; exact (HO.lst.inj (Option.some.inj el8)).symm
      have z2 : (ls8.map V.ref)[n]? = some (.ref b2) := by rw [this, List.getElem?_map, f5]; rfl
      rw [List.getElem?_map] at z2
      obtain ⟨c, hc, hc'⟩ := Option.map_eq_some_iff.mp z2
      cases hc'
      exact (List.nodup_cons.mp nd).1 (z ▸ List.mem_of_getElem? hc)
    rw [upd_ne hb9, f4, els2, els]
  · obtain ⟨A', N', a', s1, s2, e1, e2⟩ := hP
    rw [hlen, List.drop_length, List.append_nil, List.take_of_length_le (by omega)] at a'
    exact rest w hw D a' (fun st' e' A'' N'' W'' O'' H'' σ'' a'' y1 y2 => kn st' e' A'' N'' W'' O'' H'' σ'' a'' (s1.trans y1) (s2.trans y2)) kr
/-- xs.clear(), xs rows of one's own -/
theorem b_clearP {α : Type} [ToD α] {i : Nat} {k : List (List α) → Option ω} {Γ2 : List (List α) → Ctx} (h : Γ[i]? = some (some (.p md dss))) (hΓ : ∀ ys : List (List α), Γ.set i (some (.o md (ys.map toD))) = Γ2 ys) (rest : ∀ ys, ys = [] → Blk K H0 R (Γ2 ys) u Γ' I (k ys)) : Blk K H0 R Γ (tSeq (tDrop (tBM0 K "list" rClear (tVar i))) u) Γ' I (lt [] k) := by
  rw [lt_def]
  refine fun w hw D A N W O H σ a kn kr => ?_
  obtain ⟨x0, ex0, hm, l, ls, rfl, eO, el, q⟩ := a.cs i _ h
  have hi := lt_of_get h
  have hlO : l ∈ O i := by rw [eO]; exact List.mem_cons_self
  refine ⟨_, ex0, tyL el, l, _, rfl, rfl, el, ?_⟩
  have a0 : AtB K H0 A N W O H σ (Γ.set i none) := a.weak (by rw [List.length_set]) fun j c e => by
    by_cases z : j = i
    · subst z; rw [List.getElem?_set_self hi] at e; cases e
    · rw [List.getElem?_set_ne (Ne.symm z)] at e; exact e
  have a3 := a0.write (vs := []) (a.sub i l hlO) (Nat.zero_le _) fun j c e hj => by
    have z : j = i := a.dj j i l hj hlO
    subst z; rw [List.getElem?_set_self hi] at e; cases e
  have a4 : AtB K H0 A N W (fun j => if j = i then [l] else O j) (upd H l (.lst [])) σ (Γ.set i (some (.o md []))) :=
    { a3 with
      sub := fun j k hk => by
        by_cases z : j = i
        · rw [if_pos z] at hk; rw [List.mem_singleton.mp hk]; exact a.sub i l hlO
        · rw [if_neg z] at hk; exact a3.sub j k hk
      dj := fun j k b h1 h2 => by
        by_cases z : j = i
        · by_cases z2 : k = i
          · rw [z, z2]
          · rw [if_pos z] at h1; rw [if_neg z2] at h2
            rw [List.mem_singleton.mp h1] at h2
            exact absurd (a.dj k i l h2 hlO) z2
        · by_cases z2 : k = i
          · rw [if_neg z] at h1; rw [if_pos z2] at h2
            rw [List.mem_singleton.mp h2] at h1
            exact absurd (a.dj j i l h1 hlO) z
          · rw [if_neg z] at h1; rw [if_neg z2] at h2; exact a.dj j k b h1 h2
      nd := fun j => by
        by_cases z : j = i
        · rw [if_pos z]; exact List.nodup_cons.mpr ⟨by simp, .nil⟩
        · rw [if_neg z]; exact a.nd j
      len := by rw [List.length_set]; exact a.len
      cs := fun j c e => by
        by_cases z : j = i
        · subst z
          rw [List.getElem?_set_self hi] at e; cases e
          exact ⟨_, ex0, hm, l, [], rfl, if_pos rfl, upd_same, .nil⟩
        · rw [List.getElem?_set_ne (Ne.symm z)] at e
          rw [if_neg z]
          exact a3.cs j c (by rw [List.getElem?_set_ne (Ne.symm z)]; exact e) }
  have e2 := hΓ []
  rw [List.map_nil] at e2
  rw [e2] at a4
  exact rest [] rfl w hw D a4 kn kr
/-! ### what is one's own, read through as if it never changed -/
open Classical in
theorem AtB.thaw {A N : Hp} {W : Addr → Prop} {O : Nat → List Addr} {H : Hp} {σ : St} {A' N' : Hp} {W' : Addr → Prop} {O' : Nat → List Addr} {H' : Hp} {A0 : Hp} (L : List Addr) (a : AtB K H0 A N W O H σ Γ) (a' : AtB K H0 A' N' W' O' H' σ Γ2) (hL : ∀ b ∈ L, W b) (h1 : Same A A') (h2 : Same N N') (h3 : Same H H') (hw : ∀ b, W b → b ∉ L → W' b) :
    AtB K H0 (fun b => if b ∈ L then none else A' b) (fun b => if b ∈ L then none else N' b) W O H' σ Γ ∧ Same A (fun b => if b ∈ L then none else A' b) ∧ Same N (fun b => if b ∈ L then none else N' b) := by
  have nA : ∀ b o, A b = some o → b ∉ L := fun b o e hb => by rw [(a.own b (hL b hb)).1] at e; cases e
  have sA : Same A (fun b => if b ∈ L then none else A' b) := fun b o e => by
    show (if b ∈ L then none else A' b) = _
    rw [if_neg (nA b o e)]; exact h1 b o e
  have sN : Same N (fun b => if b ∈ L then none else N' b) := fun b o e => by
    show (if b ∈ L then none else N' b) = _
    rw [if_neg (nA b o (a.na b o e))]; exact h2 b o e
  refine ⟨a.ext sA sN h3 (fun b o e => ?_) (fun b o e => ?_) (fun b o e => ?_) (fun b w => ?_) a'.hl, sA, sN⟩
  · have e' : (if b ∈ L then none else N' b) = some o := e
    show (if b ∈ L then none else A' b) = some o
    split at e'
    · cases e'
    · rename_i hb; rw [if_neg hb]; exact a'.na b o e'
  · have e' : (if b ∈ L then none else A' b) = some o := e
    split at e'
    · cases e'
    · exact a'.ah b o e'
  · have e' : (if b ∈ L then none else N' b) = some o := e
    split at e'
    · cases e'
    · exact a'.fr b o e'
  · show (if b ∈ L then none else A' b) = none
    split
    · rfl
    · rename_i hb; exact (a'.own b (hw b w hb)).1
/-- Γ2 is Γ with one's own things as things that never change -/
def Frz (K : PySem.W.Frag) (H0 : Base) (Γ Γ2 : Ctx) : Prop := ∀ ⦃A N : Hp⦄ ⦃W : Addr → Prop⦄ ⦃O : Nat → List Addr⦄ ⦃H : Hp⦄ ⦃σ : St⦄, AtB K H0 A N W O H σ Γ →
  ∃ (L : List Addr) (A2 N2 : Hp) (W2 : Addr → Prop) (O2 : Nat → List Addr), AtB K H0 A2 N2 W2 O2 H σ Γ2 ∧ Same A A2 ∧ Same N N2 ∧ (∀ b ∈ L, W b) ∧ (∀ b, W b → b ∉ L → W2 b)
theorem frz_o {i : Nat} (h : Γ[i]? = some (some (.o md ds))) (hΓ : Γ.set i (some (.v md (.list ds))) = Γ2) : Frz K H0 Γ Γ2 := fun A N W O H σ a => by
  subst hΓ
  obtain ⟨x, ex, hm, l, vs, rfl, eO, el, q⟩ := a.cs i _ h
  have hl : l ∈ O i := by rw [eO]; exact List.mem_cons_self
  have hw' := a.sub i l hl
  have hA : A l = none := (a.own l hw').1
  have a0 : AtB K H0 A N (fun b => W b ∧ b ≠ l) (fun j => if j = i then [] else O j) H σ (Γ.set i none) :=
    { a with
      own := fun b w => a.own b w.1
      sub := fun j k hk => by
        by_cases z : j = i
        · rw [if_pos z] at hk; cases hk
        · rw [if_neg z] at hk
          exact ⟨a.sub j k hk, fun e => z (a.dj j i k hk (e ▸ hl))⟩
      dj := fun j k b h1 h2 => by
        by_cases z : j = i
        · rw [if_pos z] at h1; cases h1
        · by_cases z2 : k = i
          · rw [if_pos z2] at h2; cases h2
          · rw [if_neg z] at h1; rw [if_neg z2] at h2; exact a.dj j k b h1 h2
      nd := fun j => by
        by_cases z : j = i
        · rw [if_pos z]; exact .nil
        · rw [if_neg z]; exact a.nd j
      len := by rw [List.length_set]; exact a.len
      cs := fun j c e => by
        by_cases z : j = i
        · subst z; rw [List.getElem?_set_self (lt_of_get h)] at e; cases e
        · rw [List.getElem?_set_ne (Ne.symm z)] at e
          rw [if_neg z]
          exact a.cs j c e }
  have a1 := a0.freeze hA (fun z => z.2 rfl) el
  have e1 : Same A (upd A l (.lst vs)) := same_upd hA
  have e2 : Same N (upd N l (.lst vs)) := same_upd (a.na.free hA)
  have hi := lt_of_get h
  have q' : Dp K (md.sel (upd A l (.lst vs)) (upd N l (.lst vs)) H) (.ref l) (.list ds) := by
    cases md
    · exact absurd rfl hm
    · exact .lst (.inl (.inl upd_same)) (dpAll_mono e1 q)
    · exact .lst (.inl (.inl upd_same)) (dpAll_mono e2 q)
  refine ⟨[l], _, _, _, _, { a1 with
      len := by rw [List.length_set]; exact a.len
      cs := fun j c e => by
        by_cases z : j = i
        · subst z
          rw [List.getElem?_set_self hi] at e; cases e
          exact ⟨_, ex, hm, q'⟩
        · rw [List.getElem?_set_ne (Ne.symm z)] at e
          exact a1.cs j c (by rw [List.getElem?_set_ne (Ne.symm z)]; exact e) }, e1, e2, fun b hb => by rw [List.mem_singleton.mp hb]; exact hw', fun b w hb => ⟨w, fun z => hb (by rw [z]; exact List.mem_singleton.mpr rfl)⟩⟩
theorem frz_p {i : Nat} (h : Γ[i]? = some (some (.p md dss))) (hΓ : Γ.set i (some (.v md (.list (dss.map PyData.list)))) = Γ2) : Frz K H0 Γ Γ2 := fun A N W O H σ a => by
  subst hΓ
  obtain ⟨x, ex, hm, l, ls, rfl, eO, el, q⟩ := a.cs i _ h
  have hlO : ∀ b, b ∈ O i ↔ b ∈ l :: ls := fun b => by rw [eO]
  have hnd : (l :: ls).Nodup := eO ▸ a.nd i
  obtain ⟨n1, n2⟩ := List.nodup_cons.mp hnd
  have hA : ∀ b ∈ l :: ls, A b = none := fun b hb => (a.own b (a.sub i b ((hlO b).mpr hb))).1
  have a0 : AtB K H0 A N (fun b => W b ∧ b ∉ l :: ls) (fun j => if j = i then [] else O j) H σ (Γ.set i none) :=
    { a with
      own := fun b w => a.own b w.1
      sub := fun j k hk => by
        by_cases z : j = i
        · rw [if_pos z] at hk; cases hk
        · rw [if_neg z] at hk
          exact ⟨a.sub j k hk, fun e => z (a.dj j i k hk ((hlO k).mpr e))⟩
      dj := fun j k b h1 h2 => by
        by_cases z : j = i
        · rw [if_pos z] at h1; cases h1
        · by_cases z2 : k = i
          · rw [if_pos z2] at h2; cases h2
          · rw [if_neg z] at h1; rw [if_neg z2] at h2; exact a.dj j k b h1 h2
      nd := fun j => by
        by_cases z : j = i
        · rw [if_pos z]; exact .nil
        · rw [if_neg z]; exact a.nd j
      len := by rw [List.length_set]; exact a.len
      cs := fun j c e => by
        by_cases z : j = i
        · subst z; rw [List.getElem?_set_self (lt_of_get h)] at e; cases e
        · rw [List.getElem?_set_ne (Ne.symm z)] at e
          rw [if_neg z]
          exact a.cs j c e }
  obtain ⟨A2, N2, a2, f1, f2, f3, f4⟩ := AtB.freezeR hm ls _ A N a0 q (fun k hk => ⟨hA k (List.mem_cons_of_mem _ hk), fun z => z.2 (List.mem_cons_of_mem _ hk)⟩) n2
  have hl2 := f4 l n1 (hA l List.mem_cons_self)
  have a1 := a2.freeze hl2 (fun z => z.2 List.mem_cons_self) el
  have e1 : Same A2 (upd A2 l (.lst (ls.map V.ref))) := same_upd hl2
  have e2 : Same N2 (upd N2 l (.lst (ls.map V.ref))) := same_upd (a2.na.free hl2)
  have hi := lt_of_get h
  have q' : Dp K (md.sel (upd A2 l (.lst (ls.map V.ref))) (upd N2 l (.lst (ls.map V.ref))) H) (.ref l) (.list (dss.map PyData.list)) := by
    cases md
    · exact absurd rfl hm
    · exact .lst (.inl (.inl upd_same)) (dpAll_mono e1 f3)
    · exact .lst (.inl (.inl upd_same)) (dpAll_mono e2 f3)
  exact ⟨l :: ls, _, _, _, _, { a1 with
      len := by rw [List.length_set]; exact a.len
      cs := fun j c e => by
        by_cases z : j = i
        · subst z
          rw [List.getElem?_set_self hi] at e; cases e
          exact ⟨_, ex, hm, q'⟩
        · rw [List.getElem?_set_ne (Ne.symm z)] at e
          exact a1.cs j c (by rw [List.getElem?_set_ne (Ne.symm z)]; exact e) }, f1.trans e1, f2.trans e2, fun b hb => a.sub i b ((hlO b).mpr hb), fun b w hb => ⟨w, hb⟩⟩
theorem frz_pT {α : Type} [ToD α] {i : Nat} {xss : List (List α)} (h : Γ[i]? = some (some (.p md (xss.map (·.map toD))))) (hΓ : Γ.set i (some (.v md (toD xss))) = Γ2) : Frz K H0 Γ Γ2 := frz_p h ((list_toD2 xss).symm ▸ hΓ)
theorem o_unf (hf : Frz K H0 Γ Γ2) (e : EvO K H0 Γ2 te m1 ds) (h : ds.all flatD = true) : EvO K H0 Γ te md ds := fun A N W O H σ Q a k => by
  obtain ⟨L, A2, N2, W2, O2, a2, f1, f2, f3, f4⟩ := hf a
  refine e Q a2 fun A' N' H' l vs a' sA sN sH h1 h2 h3 h4 q => ?_
  obtain ⟨b1, b2, b3⟩ := AtB.thaw (A0 := A) L a a' f3 (f1.trans sA) (f2.trans sN) sH f4
  exact k _ _ H' l vs b1 b2 b3 sH h1 (by show (if l ∈ L then none else A' l) = none; split; rfl; exact h2) (a.noW h1) h4 (flatAll h q)
theorem rows_flat {S S' H : Hp} : ∀ {ls : List Addr} {dss : List (List PyData)}, (dss.all fun ds => ds.all flatD) = true → Rows K S H ls dss → Rows K S' H ls dss
  | [], [], _, _ => trivial
  | _ :: _, _ :: _, h, ⟨⟨vs, e, q⟩, r⟩ => by
    rw [List.all_cons, Bool.and_eq_true] at h
    exact ⟨⟨vs, e, flatAll h.1 q⟩, rows_flat h.2 r⟩
  | [], _ :: _, _, h => h.elim
  | _ :: _, [], _, h => h.elim
theorem p_unf (hf : Frz K H0 Γ Γ2) (e : EvP K H0 Γ2 te m1 dss) (h : (dss.all fun ds => ds.all flatD) = true) : EvP K H0 Γ te md dss := fun A N W O H σ Q a k => by
  obtain ⟨L, A2, N2, W2, O2, a2, f1, f2, f3, f4⟩ := hf a
  refine e Q a2 fun A' N' H' l ls a' sA sN sH h1 hnd h4 q => ?_
  obtain ⟨b1, b2, b3⟩ := AtB.thaw (A0 := A) L a a' f3 (f1.trans sA) (f2.trans sN) sH f4
  exact k _ _ H' l ls b1 b2 b3 sH (fun b hb => ⟨(h1 b hb).1, by show (if b ∈ L then none else A' b) = none; split; rfl; exact (h1 b hb).2.1, a.noW (h1 b hb).1⟩) hnd h4 (rows_flat h q)
theorem o_unfT {α : Type} [ToD α] [FlatT α] {xs : List α} (hf : Frz K H0 Γ Γ2) (e : EvO K H0 Γ2 te m1 (xs.map toD)) : EvO K H0 Γ te md (xs.map toD) := o_unf hf e (flat_all FlatT.fl _)
theorem p_unfT {α : Type} [ToD α] [FlatT α] {xss : List (List α)} (hf : Frz K H0 Γ Γ2) (e : EvP K H0 Γ2 te m1 (xss.map (·.map toD))) : EvP K H0 Γ te md (xss.map (·.map toD)) := p_unf hf e (by
  rw [List.all_map, List.all_eq_true]
  intro x _
  exact flat_all FlatT.fl _)
theorem p_flat {α : Type} [ToD α] [FlatT α] {xss : List (List α)} (e : EvP K H0 Γ te m1 (xss.map (·.map toD))) : EvP K H0 Γ te md (xss.map (·.map toD)) := fun A N W O H σ Q a k =>
  e Q a fun A' N' H' l ls a' sA sN sH h1 hnd h4 q => k A' N' H' l ls a' sA sN sH h1 hnd h4 (rows_flat (by
    rw [List.all_map, List.all_eq_true]
    intro x _
    exact flat_all FlatT.fl _) q)
end
end Mir

namespace Mir
open PySem PySem.Spec L2
open ToD (toD)
set_option autoImplicit false
/-! ## 15. tuples of any length, lists of unlike things -/
class ToDs (α : Type) where
  toDs : α → List PyData
  deps : Nat
open ToDs (toDs)
instance insNil : ToDs Unit := ⟨fun _ => [], 0⟩
instance insCons {α β : Type} [ToD α] [ToDs β] : ToDs (α × β) := ⟨fun p => toD p.1 :: toDs p.2, max (ToD.dep α) (ToDs.deps β)⟩
class LawDs (α : Type) [ToDs α] [DecidableEq α] : Prop where
  eqvs : ∀ x y : α, PyData.eqvAll (toDs x) (toDs y) = decide (x = y)
  lays : ∀ x : α, PyData.canLayAll0 (toDs x) = true
  depths : ∀ x : α, PyData.depthAll (toDs x) ≤ ToDs.deps α
instance lasNil : LawDs Unit := ⟨fun _ _ => by simp [toDs, PyData.eqvAll], fun _ => by simp [toDs, PyData.canLayAll0], fun _ => by simp [toDs, PyData.depthAll]⟩
instance lasCons {α β : Type} [ToD α] [DecidableEq α] [LawD α] [ToDs β] [DecidableEq β] [LawDs β] : LawDs (α × β) where
  eqvs p q := by
    obtain ⟨a, b⟩ := p; obtain ⟨c, d⟩ := q
    simp only [toDs, PyData.eqvAll, LawD.eqv, LawDs.eqvs]
    by_cases h : a = c <;> by_cases h' : b = d <;> simp [h, h']
  lays p := by simp [toDs, PyData.canLayAll0, LawD.lay, LawDs.lays]
  depths p := by
    have h1 := LawD.depth p.1
    have h2 := LawDs.depths p.2
    simp only [toDs, PyData.depthAll, ToDs.deps]; omega
structure Tup (α : Type) where
  v : α
  deriving DecidableEq
structure Hl (α : Type) where
  v : α
  deriving DecidableEq
instance insTup {α : Type} [ToDs α] : ToD (Tup α) := ⟨fun p => .tuple (toDs p.v), ToDs.deps α + 1⟩
instance insHl {α : Type} [ToDs α] : ToD (Hl α) := ⟨fun p => .list (toDs p.v), ToDs.deps α + 1⟩
theorem toD_tup {α : Type} [ToDs α] (p : Tup α) : toD p = .tuple (toDs p.v) := rfl
theorem toD_hl {α : Type} [ToDs α] (p : Hl α) : toD p = .list (toDs p.v) := rfl
instance lawTup {α : Type} [ToDs α] [DecidableEq α] [LawDs α] : LawD (Tup α) where
  eqv p q := by
    obtain ⟨a⟩ := p; obtain ⟨b⟩ := q
    simp only [toD_tup, PyData.eqv, LawDs.eqvs]
    by_cases h : a = b <;> simp [h]
  lay p := by simp [toD_tup, PyData.canLay0, LawDs.lays]
  depth p := by
    have h1 := LawDs.depths p.v
    simp only [toD_tup, PyData.depth, ToD.dep]; omega
instance lawHl {α : Type} [ToDs α] [DecidableEq α] [LawDs α] : LawD (Hl α) where
  eqv p q := by
    obtain ⟨a⟩ := p; obtain ⟨b⟩ := q
    simp only [toD_hl, PyData.eqv, LawDs.eqvs]
    by_cases h : a = b <;> simp [h]
  lay p := by simp [toD_hl, PyData.canLay0, LawDs.lays]
  depth p := by
    have h1 := LawDs.depths p.v
    simp only [toD_hl, PyData.depth, ToD.dep]; omega
instance nnTup {α : Type} [ToDs α] : NotNone (Tup α) := ⟨fun _ => by simp [toD], fun _ => by simp [toD, PyData.eqv], fun _ => by simp [toD, PyData.eqv]⟩
instance nnHl {α : Type} [ToDs α] : NotNone (Hl α) := ⟨fun _ => by simp [toD], fun _ => by simp [toD, PyData.eqv], fun _ => by simp [toD, PyData.eqv]⟩
section
variable {K : PySem.W.Frag} {H0 : Base} {ρ τ ω : Type} {R : ρ → V → Hp → Prop} {Γ Γ2 : Ctx} {t u tb : TS} {Γ' : τ → Ctx} {I : ω → Fl ρ τ} {ta te ti tb : TE} {ts : TA} {tt : TT} {wi : TI} {g : TG} {md m1 m2 : Md} {d d1 d2 d3 : PyData} {ds : List PyData} {dss : List (List PyData)} {vs : List Nat}
theorem e_tupN {α : Type} [ToDs α] {p : α} (hz : (toDs p).length ≤ sizeLine) (hs : EvA K H0 Γ ts md (toDs p)) : Ev K H0 Γ (tTup ts) md (toD (Tup.mk p)) := e_tup hs hz
theorem e_tupI {α β : Type} [ToDs α] [ToD β] {p : Tup α} {b : β} {i : Int} (ha : Ev K H0 Γ te md (toD p)) (hb : Ev K H0 Γ ti .h (toD i)) (h : atI (toDs p.v) i = some (toD b)) : Ev K H0 Γ (tOp (rIxT K) te ti) md (toD b) := e_idxT ha hb h
theorem e_idxL {i : Int} (ha : Ev K H0 Γ ta md (.list ds)) (hb : Ev K H0 Γ ti .h (toD i)) (h : atI ds i = some d) : Ev K H0 Γ (tOp (rIxL K) ta ti) md d :=
  ev_op2 ha hb fun A N W O H σ x y Q at' q1 q2 k => by
    obtain ⟨p, vs, rfl, hS, hA⟩ := dp_list q1
    obtain ⟨v, hv, hd⟩ := dpAll_atI hA h
    exact ⟨p, vs, i, v, rfl, dp_int q2, at'.sel_h.seq hS, hv, k A N H v at' (Same.refl _) (Same.refl _) (Same.refl _) hd⟩
theorem e_hl {α : Type} [ToDs α] {p : α} (hz : (toDs p).length ≤ sizeLine) (hs : EvA K H0 Γ ts md (toDs p)) : Ev K H0 Γ (tLst ts) md (toD (Hl.mk p)) := evO_ev (o_lst hs hz)
theorem e_hlI {α β : Type} [ToDs α] [ToD β] {p : Hl α} {b : β} {i : Int} (ha : Ev K H0 Γ te md (toD p)) (hb : Ev K H0 Γ ti .h (toD i)) (h : atI (toDs p.v) i = some (toD b)) : Ev K H0 Γ (tOp (rIxL K) te ti) md (toD b) := e_idxL ha hb h
theorem e_lenTup {α : Type} [ToDs α] {p : Tup α} {n : Int} (ha : Ev K H0 Γ ta .h (toD p)) (h : ((toDs p.v).length : Int) = n) : Ev K H0 Γ (tCB (rLenS K) (tCons ta tNil)) md (toD n) := h ▸ e_lenT (ds := toDs p.v) ha
def isIn {α : Type} [DecidableEq α] (x : α) (xs : List α) : Bool := decide (x ∈ xs)
theorem isIn_iff {α : Type} [DecidableEq α] {x : α} {xs : List α} : isIn x xs = true ↔ x ∈ xs := by unfold isIn; exact decide_eq_true_iff
theorem isIn_no {α : Type} [DecidableEq α] {x : α} {xs : List α} : isIn x xs = false ↔ x ∉ xs := by unfold isIn; exact decide_eq_false_iff_not
theorem e_inB {α : Type} [ToD α] [DecidableEq α] [LawD α] {x : α} {xs : List α} (ha : Ev K H0 Γ ta .h (toD x)) (hb : Ev K H0 Γ te .h (toD xs)) (h : ToD.dep α + 1 ≤ 64 := by decide) : Ev K H0 Γ (tOp (rInD K) ta te) md (toD (isIn x xs)) := e_in ha hb h
theorem e_notinB {α : Type} [ToD α] [DecidableEq α] [LawD α] {x : α} {xs : List α} (ha : Ev K H0 Γ ta .h (toD x)) (hb : Ev K H0 Γ te .h (toD xs)) (h : ToD.dep α + 1 ≤ 64 := by decide) : Ev K H0 Γ (tOp (rNotInD K) ta te) md (toD (!isIn x xs)) := e_notin ha hb h
theorem e_chainI {g1 g2 : Int → Int → Bool} {x y z : Int} {tc : TE} (ha : Ev K H0 Γ ta .h (toD x)) (hb : Ev K H0 Γ te .h (toD y)) (hc : Ev K H0 Γ tc .h (toD z)) : Ev K H0 Γ (tChain (rI0 fun i j => .bl (g1 i j)) (rI0 fun i j => .bl (g2 i j)) ta te tc) md (toD (g1 x y && g2 y z)) := fun A N W O H σ Q a k =>
  ha _ a fun A1 N1 H1 v a1 s1 s2 s3 q1 => hb _ a1 fun A2 N2 H2 u a2 t1 t2 t3 q2 => by
    rw [dp_int q1, dp_int q2]
    refine ⟨x, y, rfl, rfl, g1 x y, rfl, ?_⟩
    cases e : g1 x y with
    | false =>
      rw [if_neg (by decide)]
      exact k A2 N2 H2 _ a2 (s1.trans t1) (s2.trans t2) (s3.trans t3) (by rw [e]; exact .bl _)
    | true =>
      rw [if_pos rfl]
      refine hc _ a2 fun A3 N3 H3 w a3 u1 u2 u3 q3 => ?_
      rw [dp_int q3]
      exact ⟨y, z, rfl, rfl, k A3 N3 H3 _ a3 ((s1.trans t1).trans u1) ((s2.trans t2).trans u2) ((s3.trans t3).trans u3) (by rw [e, Bool.true_and]; exact .bl _)⟩
theorem b_retPF {α : Type} [ToD α] {r : List (List α)} {Γ' : τ → Ctx} (he : EvP K H0 Γ te .n (r.map (·.map toD))) : Blk K H0 (RetP K H0) Γ (tSeq (tRet te) u) Γ' idF (retF r) := fun w hw D A N W O H σ a kn kr => by
  cases hw
  exact he _ a fun A1 N1 H1 l ls a1 s1 s2 s3 h1 hnd h4 q => kr r rfl _ H1 ⟨a1.h0h, a1.hl, N1, l, ls, rfl, a1.fr, a1.na.trans a1.ah, fun k hk => ⟨a1.h0.free (h1 k hk).2.1, a1.na.free (h1 k hk).2.1⟩, hnd, h4, q⟩
theorem b_retPvF {α : Type} [ToD α] {i : Nat} {r : List (List α)} {Γ' : τ → Ctx} (h : Γ[i]? = some (some (.p .n (r.map (·.map toD)))) := by rfl) : Blk K H0 (RetP K H0) Γ (tSeq (tRet (tVar i)) u) Γ' idF (retF r) := fun w hw D A N W O H σ a kn kr => by
  cases hw
  obtain ⟨v, e, q⟩ := a.retPv h
  exact ⟨v, e, kr r rfl v H q⟩
theorem b_retPSvF {α : Type} [ToD α] {i : Nat} {r : List (List α)} {Γ' : τ → Ctx} (h : Γ[i]? = some (some (.p .n (r.map (·.map toD)))) := by rfl) : Blk K H0 (RetS K H0) Γ (tSeq (tRet (tVar i)) u) Γ' idF (retF r) := fun w hw D A N W O H σ a kn kr => by
  cases hw
  obtain ⟨v, e, q⟩ := a.retPv h
  exact ⟨v, e, kr r rfl v H q.s⟩
end
end Mir

namespace Mir
open PySem PySem.Spec L2
open ToD (toD)
set_option autoImplicit false
/-! ## 16. what is handed back may be a part of what stood -/
def FnB (K : PySem.W.Frag) (pre : List PyData → PyData → Prop) : Sp := fun vs H Q _ => ∃ ds r, DpAll K H vs ds ∧ pre ds r ∧
  ∀ v H', Same H H' → HLen H' → Dp K H' v r → Q v H'
def RetB (K : PySem.W.Frag) (H0 : Base) {α : Type} [ToD α] (r : α) (v : V) (H : Hp) : Prop := Same H0 H ∧ HLen H ∧ Dp K H v (toD r)
section
variable {K : PySem.W.Frag} {H0 : Base} {ρ τ ω : Type} {R : ρ → V → Hp → Prop} {Γ Γ2 : Ctx} {t u tb : TS} {Γ' : τ → Ctx} {I : ω → Fl ρ τ} {ta te ti : TE} {ts : TA} {tt : TT} {wi : TI} {g : TG} {md m1 m2 : Md} {d d1 d2 d3 : PyData} {ds : List PyData} {dss : List (List PyData)} {vs : List Nat}
theorem b_retB {α : Type} [ToD α] {r : α} {Γ' : τ → Ctx} (he : Ev K H0 Γ te .h (toD r)) : Blk K H0 (RetB K H0) Γ (tSeq (tRet te) u) Γ' Fl.ret (some r) := fun w hw D A N W O H σ a kn kr => by
  cases hw
  exact he _ a fun A1 N1 H1 v a1 s1 s2 s3 q => kr r rfl v H1 ⟨a1.h0h, a1.hl, q⟩
theorem b_retBF {α : Type} [ToD α] {r : α} {Γ' : τ → Ctx} (he : Ev K H0 Γ te .h (toD r)) : Blk K H0 (RetB K H0) Γ (tSeq (tRet te) u) Γ' idF (retF r) := fun w hw D A N W O H σ a kn kr => by
  cases hw
  exact he _ a fun A1 N1 H1 v a1 s1 s2 s3 q => kr r rfl v H1 ⟨a1.h0h, a1.hl, q⟩
theorem e_callB {pre : List PyData → PyData → Prop} {E : XK} {r : PyData} (hs : EvA K H0 Γ ts .h ds) (hp : pre ds r) : Ev K H0 Γ (tCall (FnB K pre) [] E ts) .h r := fun A N W O H σ Q a k =>
  hs _ a fun A1 N1 H1 vs a1 s1 s2 s3 q1 => by
    refine ⟨ds, r, by rw [List.append_nil]; exact q1, hp, fun v H' sH hl qv => ?_⟩
    obtain ⟨a2, u1, u2, u3, u4⟩ := a1.called (M := fun _ => none) sH (fun b o e => by cases e) (fun b o e => by cases e) hl
    exact k _ _ H' v a2 (s1.trans u1) (s2.trans u2) (s3.trans sH) qv
/-! what is handed back may be made of what was handed in -/
theorem AtB.calledK {A N : Hp} {W : Addr → Prop} {O : Nat → List Addr} {H : Hp} {σ : St} {M H' : Hp} (a : AtB K H0 A N W O H σ Γ) (hm : md ≠ .h) (sH : Same H H') (fr : ∀ b o, M b = some o → H b = none ∨ md.sel A N H b = some o) (sM : Same M H') (hl : HLen H') :
    ∃ A2 N2, AtB K H0 A2 N2 W O H' σ Γ ∧ Same A A2 ∧ Same N N2 ∧ Same M (md.sel A2 N2 H') ∧ ∀ b, A b = none → M b = none → A2 b = none := by
  have fA : ∀ b o, M b = some o → H b = none ∨ A b = some o := fun b o e => (fr b o e).imp id fun z => a.sel_s hm b o z
  have sMA : Same M (uni A M) := fun b o e => by
    unfold uni
    rcases fA b o e with z | z
    · rw [a.ah.free z]; exact e
    · rw [z]
  have sAH : Same (uni A M) H' := uni_into (a.ah.trans sH) sM
  have own : ∀ b, W b → uni A M b = none := fun b w => by
    refine uni_none (a.own b w).1 ?_
    cases q : M b with
    | none => rfl
    | some o =>
      rcases fA b o q with z | z
      · exact absurd z (a.own b w).2
      · rw [(a.own b w).1] at z; cases z
  cases md with
  | h => exact absurd rfl hm
  | s =>
    refine ⟨uni A M, N, a.ext uni_l (Same.refl _) sH (a.na.trans uni_l) sAH a.fr own hl, uni_l, Same.refl _, sMA, fun b h1 h2 => uni_none h1 h2⟩
  | n =>
    have sMN : Same M (uni N M) := fun b o e => by
      unfold uni
      rcases fr b o e with z | z
      · rw [a.na.free (a.ah.free z)]; exact e
      · have z' : N b = some o := z
        rw [z']
    have sNA : Same (uni N M) (uni A M) := uni_into (a.na.trans uni_l) sMA
    refine ⟨uni A M, uni N M, a.ext uni_l uni_l sH sNA sAH (fun b o e => ?_) own hl, uni_l, uni_l, sMN, fun b h1 h2 => uni_none h1 h2⟩
    unfold uni at e
    cases q : N b with
    | some u => rw [q] at e; cases e; exact a.fr b _ q
    | none =>
      rw [q] at e
      rcases fr b o e with z | z
      · exact .inl (a.h0h.free z)
      · have z' : N b = some o := z
        rw [q] at z'; cases z'
def FnSk (K : PySem.W.Frag) (pre : List PyData → PyData → Prop) : Sp := fun vs H Q _ => ∃ (S : Hp) (ds : List PyData) (r : PyData), Same S H ∧ DpAll K S vs ds ∧ pre ds r ∧
  ∀ v M H', Same H H' → (∀ b o, M b = some o → H b = none ∨ S b = some o) → Same M H' → HLen H' → Dp K M v r → Q v H'
def FnOk (K : PySem.W.Frag) (pre : List PyData → List PyData → Prop) : Sp := fun vs H Q _ => ∃ (S : Hp) (ds rs : List PyData), Same S H ∧ DpAll K S vs ds ∧ pre ds rs ∧
  ∀ l ws M H', Same H H' → (∀ b o, M b = some o → H b = none ∨ S b = some o) → Same M H' → HLen H' → H l = none → M l = none → H' l = some (.lst ws) → DpAll K M ws rs → Q (.ref l) H'
theorem e_callK {pre : List PyData → PyData → Prop} {E : XK} {r : PyData} (hm : md ≠ .h) (hs : EvA K H0 Γ ts md ds) (hp : pre ds r) : Ev K H0 Γ (tCall (FnSk K pre) [] E ts) md r := fun A N W O H σ Q a k =>
  hs _ a fun A1 N1 H1 vs a1 s1 s2 s3 q1 => by
    refine ⟨md.sel A1 N1 H1, ds, r, a1.sel_h, by rw [List.append_nil]; exact q1, hp, fun v M H' sH fr sM hl qv => ?_⟩
    obtain ⟨A2, N2, a2, u1, u2, u3, _⟩ := a1.calledK hm sH fr sM hl
    exact k _ _ H' v a2 (s1.trans u1) (s2.trans u2) (s3.trans sH) (dp_mono u3 qv)
theorem e_callKh {pre : List PyData → PyData → Prop} {E : XK} {r : PyData} (hs : EvA K H0 Γ ts .h ds) (hp : pre ds r) : Ev K H0 Γ (tCall (FnSk K pre) [] E ts) .h r := fun A N W O H σ Q a k =>
  hs _ a fun A1 N1 H1 vs a1 s1 s2 s3 q1 => by
    refine ⟨H1, ds, r, Same.refl _, by rw [List.append_nil]; exact q1, hp, fun v M H' sH fr sM hl qv => ?_⟩
    obtain ⟨a2, u1, u2, u3, u4⟩ := a1.called (M := fun _ => none) sH (fun b o e => by cases e) (fun b o e => by cases e) hl
    exact k _ _ H' v a2 (s1.trans u1) (s2.trans u2) (s3.trans sH) (dp_mono sM qv)
theorem o_callK {pre : List PyData → List PyData → Prop} {E : XK} {rs : List PyData} (hm : md ≠ .h) (hs : EvA K H0 Γ ts md ds) (hp : pre ds rs) : EvO K H0 Γ (tCall (FnOk K pre) [] E ts) md rs := fun A N W O H σ Q a k =>
  hs _ a fun A1 N1 H1 vs a1 s1 s2 s3 q1 => by
    refine ⟨md.sel A1 N1 H1, ds, rs, a1.sel_h, by rw [List.append_nil]; exact q1, hp, fun l ws M H' sH fr sM hl hn hN hw qv => ?_⟩
    obtain ⟨A2, N2, a2, u1, u2, u3, u4⟩ := a1.calledK hm sH fr sM hl
    exact k _ _ H' l ws a2 (s1.trans u1) (s2.trans u2) (s3.trans sH) (s3.free hn) (u4 l (a1.ah.free hn) hN) (a1.noW hn) hw (dpAll_mono u3 qv)
/-- nothing of one's own is known -/
def isV : Option Cell → Bool
  | none => true
  | some (.v _ _) => true
  | _ => false
theorem AtB.hold {A N : Hp} {W : Addr → Prop} {O : Nat → List Addr} {H : Hp} {σ : St} (a : AtB K H0 A N W O H σ Γ) (h : Γ.all isV = true) : AtB K H0 H N (fun _ => False) (fun _ => []) H σ Γ where
  na := a.na.trans a.ah
  ah := Same.refl _
  h0 := a.h0.trans a.ah
  fr := a.fr
  own := fun b w => w.elim
  sub := fun i l hl => by cases hl
  dj := fun i j l hl _ => by cases hl
  nd := fun i => .nil
  hl := a.hl
  len := a.len
  cs := fun i c e => by
    obtain ⟨x, ex, q⟩ := a.cs i c e
    refine ⟨x, ex, ?_⟩
    have hv := List.all_eq_true.mp h _ (List.mem_of_getElem? e)
    cases c with
    | v md d =>
      obtain ⟨h1, q⟩ := q
      refine ⟨h1, ?_⟩
      cases md
      · exact absurd rfl h1
      · exact dp_mono a.ah q
      · exact q
    | o _ _ => cases hv
    | p _ _ => cases hv
theorem b_hold {i : Nat} {m : Option ω} (he : Ev K H0 Γ te .h d) (h : Γ.all isV = true) (hi : i < Γ.length) (hΓ : Γ.set i (some (.v .s d)) = Γ2) (rest : Blk K H0 R Γ2 u Γ' I m) : Blk K H0 R Γ (tSeq (tAsg te (gName i)) u) Γ' I m := fun w hw D A N W O H σ a kn kr =>
  he _ a fun A1 N1 H1 v a1 s1 s2 s3 q => by
    subst hΓ
    have a2 := (a1.hold h).setv (i := i) (x := v) (md := .s) hi (by intro z; cases z) q
    exact rest w hw D a2 (fun st' e' A'' N'' W'' O'' H'' σ'' a'' y1 y2 => kn st' e' A'' N'' W'' O'' H'' σ'' a'' ((s1.trans a1.ah).trans y1) (s2.trans y2)) kr
theorem b_holdL {α : Type} [ToD α] {i : Nat} {e : α} {k : α → Option ω} {Γ2 : α → Ctx} (he : Ev K H0 Γ te .h (toD e)) (h : Γ.all isV = true) (hi : i < Γ.length) (hΓ : ∀ x : α, Γ.set i (some (.v .s (toD x))) = Γ2 x) (rest : ∀ x, x = e → Blk K H0 R (Γ2 x) u Γ' I (k x)) : Blk K H0 R Γ (tSeq (tAsg te (gName i)) u) Γ' I (lt e k) := by
  rw [lt_def]; exact b_hold he h hi (hΓ e) (rest e rfl)
end
section
variable {K : PySem.W.Frag} {τ : Type} {Γ : Ctx} {t : TS} {Γ' : τ → Ctx} {H : Hp} {vs : List V} {ds : List PyData} {N : List Str} {Q : VK}
theorem body_B {α : Type} [ToD α] {m : Option α} {r : α} (hl : HLen H) (hd : DpAll K H vs ds) (hm : m = some r) (hn : ds.length ≤ N.length) (hΓ : entryC ds N.length = Γ) (hb : Blk K (bs H) (RetB K (bs H)) Γ t Γ' Fl.ret m)
    (k : ∀ v H', Same H H' → HLen H' → Dp K H' v (toD r) → Q v H') : t { nx := fun _ H' => Q .non H', rt := Q } (L2.start N vs) H := by
  subst hΓ
  exact hb r hm _ (entry hl hd hn) (fun st e => by cases e) fun r' e v H' q => by
    cases e
    obtain ⟨h0, h1, h2⟩ := q
    exact k v H' h0 h1 h2
/-- where a def begins that keeps what it was handed -/
abbrev bk (H S : Hp) : Base := ⟨H, S⟩
def entryN (ds : List PyData) (n : Nat) : Ctx := ds.map (fun d => some (.v .n d)) ++ List.replicate (n - ds.length) none
theorem entryK {S : Hp} (hl : HLen H) (sS : Same S H) (hd : DpAll K S vs ds) (hn : ds.length ≤ N.length) : AtB K (bk H S) H S (fun _ => False) (fun _ => []) H (L2.start N vs) (entryN ds N.length) where
  na := sS
  ah := Same.refl _
  h0 := Same.refl _
  fr := fun b o e => .inr e
  own := fun b w => w.elim
  sub := fun i l h => by cases h
  dj := fun i j l h => by cases h
  nd := fun i => .nil
  hl := hl
  len := by
    have e := dpAll_len hd
    unfold entryN L2.start
    simp only [List.length_append, List.length_map, List.length_replicate, e]
  cs := fun i c e => by
    have el := dpAll_len hd
    unfold entryN at e
    by_cases hi : i < ds.length
    · rw [List.getElem?_append_left (by rw [List.length_map]; exact hi), List.getElem?_map, List.getElem?_eq_getElem hi] at e
      have e' : (Cell.v Md.n ds[i]) = c := Option.some.inj (Option.some.inj e)
      subst e'
      obtain ⟨v, hv, q⟩ := dpAll_get' hd (List.getElem?_eq_getElem hi)
      refine ⟨v, ?_, (fun z => by cases z), q⟩
      unfold L2.start
      rw [List.getElem?_append_left (by rw [List.length_map, el]; exact hi), List.getElem?_map, hv]; rfl
    · rw [List.getElem?_append_right (by rw [List.length_map]; omega), List.getElem?_replicate] at e
      split at e <;> cases e
theorem body_Sk {S : Hp} {α : Type} [ToD α] {m : Option α} {r : α} (hl : HLen H) (sS : Same S H) (hd : DpAll K S vs ds) (hm : m = some r) (hn : ds.length ≤ N.length) (hΓ : entryN ds N.length = Γ) (hb : Blk K (bk H S) (RetS K (bk H S)) Γ t Γ' Fl.ret m)
    (k : ∀ v M H', Same H H' → (∀ b o, M b = some o → H b = none ∨ S b = some o) → Same M H' → HLen H' → Dp K M v (toD r) → Q v H') : t { nx := fun _ H' => Q .non H', rt := Q } (L2.start N vs) H := by
  subst hΓ
  exact hb r hm _ (entryK hl sS hd hn) (fun st e => by cases e) fun r' e v H' q => by
    cases e
    obtain ⟨h0, h1, M, h2, h3, h4⟩ := q
    exact k v M H' h0 h2 h3 h1 h4
theorem body_Ok {S : Hp} {α : Type} [ToD α] {m : Option (List α)} {r : List α} (hl : HLen H) (sS : Same S H) (hd : DpAll K S vs ds) (hm : m = some r) (hn : ds.length ≤ N.length) (hΓ : entryN ds N.length = Γ) (hb : Blk K (bk H S) (RetO K (bk H S)) Γ t Γ' Fl.ret m)
    (k : ∀ l ws M H', Same H H' → (∀ b o, M b = some o → H b = none ∨ S b = some o) → Same M H' → HLen H' → H l = none → M l = none → H' l = some (.lst ws) → DpAll K M ws (r.map toD) → Q (.ref l) H') : t { nx := fun _ H' => Q .non H', rt := Q } (L2.start N vs) H := by
  subst hΓ
  exact hb r hm _ (entryK hl sS hd hn) (fun st e => by cases e) fun r' e v H' q => by
    cases e
    obtain ⟨h0, h1, M, l, ws, rfl, h2, h3, h4, h5, h6, h7⟩ := q
    exact k l ws M H' h0 h2 h3 h1 h4 h5 h6 h7
end
end Mir

namespace Mir
open PySem PySem.Spec L2
open ToD (toD)
set_option autoImplicit false
/-! ## 17. some of one's own rows -/
section
variable {K : PySem.W.Frag} {H0 : Base} {Γ Γ2 : Ctx} {te : TE} {tt : TT} {md m1 m2 : Md}
theorem rows_at {S H : Hp} : ∀ {ls : List Addr} {dss : List (List PyData)} {i : Nat} {l : Addr}, Rows K S H ls dss → ls[i]? = some l → ∃ ds vs, dss[i]? = some ds ∧ H l = some (.lst vs) ∧ DpAll K S vs ds
  | [], [], _, _, _, h => by simp at h
  | m :: ls, d :: dss, 0, l, ⟨⟨vs, e, q⟩, r⟩, h => by
    have h' : m = l := Option.some.inj h
    subst h'
    exact ⟨d, vs, rfl, e, q⟩
  | m :: ls, d :: dss, i + 1, l, ⟨_, r⟩, h => by
    obtain ⟨ds, vs, h1, h2⟩ := rows_at (i := i) r (by simpa using h)
    exact ⟨ds, vs, by simpa using h1, h2⟩
  | [], _ :: _, _, _, h, _ => h.elim
  | _ :: _, [], _, _, h, _ => h.elim
/-- [x for x in E if p(x)], E rows of one's own: some of these rows -/
theorem p_filter {α : Type} [ToD α] {xss yss : List (List α)} {p : List α → Option Bool} {j : Nat} (he : EvP K H0 Γ te md (xss.map (·.map toD))) (hm : md ≠ .h) (ht : ∀ x b, p x = some b → EvT K H0 (Γ.set j (some (.v md (toD x)))) tt b) (h : cmpO p (fun x => some x) xss = some yss) (hv : Γ[j]? = some none := by rfl) :
    EvP K H0 Γ (tLc (iList K te) (gName j) tt (tVar j) [j]) md (yss.map (·.map toD)) := fun A N W O H σ Q a k =>
  he _ a fun A1 N1 H1 l ls a1 s1 s2 s3 f1 hnd hl q => by
    obtain ⟨n1, n2⟩ := List.nodup_cons.mp hnd
    have hne : ∀ b ∈ ls, H1 b ≠ none := fun b hb => by
      obtain ⟨i, hi⟩ := List.mem_iff_getElem?.mp hb
      obtain ⟨_, vs, _, e, _⟩ := rows_at q hi
      rw [e]; exact fun z => by cases z
    -- the rows, reserved
    have aR : AtB K H0 A1 N1 (fun b => W b ∨ b ∈ ls) O H1 σ Γ := { a1 with
      own := fun b w => by
        rcases w with w | w
        · exact a1.own b w
        · exact ⟨(f1 b (List.mem_cons_of_mem _ w)).2.1, hne b w⟩
      sub := fun i m hm => .inl (a1.sub i m hm) }
    obtain ⟨A2, N2, a2, g1, g2, g3, g4⟩ := AtB.freezeR hm ls _ A1 N1 a1 q (fun b hb => (f1 b (List.mem_cons_of_mem _ hb)).2) n2
    have hls : ls.length = xss.length := by rw [rows_len q, List.length_map]
    have hj := lt_of_get hv
    refine ⟨l, rfl, ⟨_, .inl (.inl hl)⟩, ?_⟩
    intro D hD
    have hDA : A2 D = none := a2.ah.free hD
    have hDW : ¬ W D := a2.noW hD
    have hDO : ∀ i, D ∉ O i := fun i z => hDW (a2.sub i D z)
    have hDl : D ≠ l := fun z => by rw [z, hl] at hD; cases hD
    have hDls : D ∉ ls := fun z => hne D z hD
    have wk := walk_list (K := K) (a := l) (xs := ls.map V.ref)
    have n0 : (0 : Nat) ≤ sizeLine := Nat.zero_le _
    have vj : ∀ i ∈ [j], Γ[i]? = some none := fun i hi => by rw [List.mem_singleton.mp hi]; exact hv
    have a3 : AtB K H0 A2 N2 (fun b => W b ∨ b = D) O (upd H1 D (.lst [])) (wipe σ [j]) Γ := by
      have a0 := ((a2.allocO (o := .lst []) hD (a2.hl.upd_lst n0)).reserve hDA (by rw [upd_same]; exact fun z => by cases z)).wiped (vs := [j]) rfl (fun _ _ e => e) vj
      exact { a0 with sub := fun i l h => .inl (a2.sub i l h) }
    have hlen : (ls.map V.ref).length = xss.length := by rw [List.length_map]; exact hls
    refine lc_it wk (fun i H => ∃ A N bs done rest, AtB K H0 A N (fun b => W b ∨ b = D) O H (wipe σ [j]) Γ ∧ Same A2 A ∧ Same N2 N ∧ Same H1 H ∧ H D = some (.lst ((bs : List Addr).map V.ref)) ∧ bs.Sublist (ls.take i) ∧ Rows K (md.sel A1 N1 H1) H1 bs ((done : List (List α)).map (·.map toD)) ∧ cmpO p (fun x => some x) (xss.drop i) = some rest ∧ done ++ rest = yss)
      ⟨A2, N2, [], [], yss, a3, Same.refl _, Same.refl _, same_upd hD, upd_same, List.nil_sublist _, trivial, by rw [List.drop_zero]; exact h, rfl⟩ (fun i H _ hP => ?_) (fun i x H H' hi' hP hYx => ?_) (fun H hP => ?_)
    · obtain ⟨A, N, bs, done, rest, a4, u1, u2, u3, _⟩ := hP
      exact .inl (.inl (u3 _ _ hl))
    · obtain ⟨A, N, bs, done, rest, a4, u1, u2, u3, hDl4, hsub, hq, hr, hd⟩ := hP
      obtain ⟨rfl, ex⟩ := hYx
      rw [hlen] at hi'
      have hxi : xss[i]? = some xss[i] := List.getElem?_eq_getElem hi'
      have hli : i < ls.length := by rw [hls]; exact hi'
      have hlb : ls[i]? = some ls[i] := List.getElem?_eq_getElem hli
      have exb : x = .ref ls[i] := by
        rw [List.getElem?_map, hlb] at ex
        cases ex; rfl
      subst exb
      rw [List.drop_eq_getElem?_toList_append, hxi] at hr
      have hr' : cmpO p (fun x => some x) (xss[i] :: xss.drop (i + 1)) = some rest := hr
      simp only [cmpO] at hr'
      obtain ⟨b, hb, hr'⟩ := bind_some_iff hr'
      have qx : Dp K (md.sel A N H') (.ref ls[i]) (toD xss[i]) := by
        have g3' := dpAll_mono (Md.sel_mono u1 u2 u3) g3
        obtain ⟨v, hv1, hv2⟩ := dpAll_get' g3' (i := i) (d := toD xss[i]) (by rw [List.getElem?_map, List.getElem?_map, hxi]; rfl)
        rw [List.getElem?_map, hlb] at hv1
        cases hv1
        exact hv2
      have a5 := a4.setv (i := j) (x := .ref ls[i]) (md := md) hj hm qx
      have ew : wipe ((wipe σ [j]).set j (some (.ref ls[i]))) [j] = wipe σ [j] := by
        show ((wipe σ []).set j none |>.set j (some (.ref ls[i]))).set j none = (wipe σ []).set j none
        rw [List.set_set, List.set_set]
      show wipe ((wipe σ [j]).set j (some (.ref ls[i]))) [j] = wipe σ [j] ∧ _
      refine ⟨ew, ht xss[i] b hb _ a5 fun A6 N6 H6 a6 x1 x2 x3 => ?_⟩
      have back : ∀ {A N H}, AtB K H0 A N (fun b => W b ∨ b = D) O H ((wipe σ [j]).set j (some (.ref ls[i]))) (Γ.set j (some (.v md (toD xss[i])))) → AtB K H0 A N (fun b => W b ∨ b = D) O H (wipe σ [j]) Γ := fun a => by
        have := a.wiped (Γ := Γ) (vs := [j]) (by rw [List.length_set]) (fun i c e => set_keep hv i c e) vj
        rwa [ew] at this
      have hDl6 : H6 D = some (.lst (bs.map V.ref)) := x3 _ _ hDl4
      have hsub' : bs.Sublist (ls.take (i + 1)) := by
        rw [List.take_add_one]
        exact hsub.trans (List.sublist_append_left _ _)
      cases b with
      | false =>
        rw [if_neg Bool.false_ne_true] at hr' ⊢
        exact ⟨A6, N6, bs, done, rest, back a6, u1.trans x1, u2.trans x2, u3.trans x3, hDl6, hsub', hq, hr', hd⟩
      | true =>
        rw [if_pos rfl] at hr' ⊢
        obtain ⟨y, hy, hr'⟩ := bind_some_iff hr'
        obtain ⟨rest', hr2, e⟩ := bind_some_iff hr'
        cases hy
        cases e
        have hjw : j < (wipe σ [j]).length := by rw [← a4.len]; exact hj
        refine ⟨.ref ls[i], List.getElem?_set_self hjw, ?_⟩
        have hlt : (bs.map V.ref).length < sizeLine := by
          have e1 := hsub.length_le
          rw [List.length_take] at e1
          have e2 := a1.hl l _ (.inl hl)
          rw [List.length_map] at e2 ⊢
          omega
        obtain ⟨ds, vs, r1, r2, r3⟩ := rows_at q hlb
        rw [List.getElem?_map, hxi] at r1
        cases r1
        refine ⟨bs.map V.ref, hDl6, hlt, A6, N6, bs ++ [ls[i]], done ++ [xss[i]], rest', ?_, u1.trans x1, u2.trans x2, same_updR (u3.trans x3) hD, ?_, ?_, ?_, hr2, by rw [List.append_assoc]; exact hd⟩
        · exact write_D (back a6) (.inr rfl) hDO (by rw [List.length_append]; exact hlt)
        · rw [upd_same, List.map_append]; rfl
        · rw [List.take_add_one, hlb]
          exact hsub.append (List.Sublist.refl _)
        · rw [List.map_append]
          exact rows_snoc hq r2 r3
    · obtain ⟨A, N, bs, done, rest, a4, u1, u2, u3, hDl4, hsub, hq, hr, hd⟩ := hP
      rw [hlen, List.drop_length] at hr
      have e : rest = [] := (Option.some.inj hr).symm
      subst e
      rw [List.append_nil] at hd
      subst hd
      rw [hlen, ← hls, List.take_length] at hsub
      have a5 : AtB K H0 A N (fun b => W b ∨ b = D) O H σ Γ := { a4 with
        len := a.len
        cs := fun i c e => by
          obtain ⟨x, e1, q⟩ := a4.cs i c e
          exact ⟨x, (wipe_some e1).1, q⟩ }
      obtain ⟨b1, b2, b3⟩ := AtB.thaw (A0 := A) ls aR a5 (fun b hb => .inr hb) (g1.trans u1) (g2.trans u2) u3 (fun b w hb => .inl (w.resolve_right hb))
      have b1' : AtB K H0 _ _ W O H σ Γ := b1.unreserve (fun _ w => .inl w) a1.sub
      have memL : ∀ b ∈ bs, b ∈ ls := fun b hb => hsub.subset hb
      refine k _ _ H D bs b1' (s1.trans b2) (s2.trans b3) (s3.trans u3) (fun b hb => ?_) (List.nodup_cons.mpr ⟨fun z => hDls (memL D z), List.Nodup.sublist hsub n2⟩) hDl4 ?_
      · rcases List.mem_cons.mp hb with rfl | hb
        · refine ⟨s3.free hD, ?_, hDW⟩
          show (if b ∈ ls then none else A b) = none
          rw [if_neg hDls]
          exact (a5.own b (.inr rfl)).1
        · obtain ⟨c1, c2, c3⟩ := f1 b (List.mem_cons_of_mem _ (memL b hb))
          refine ⟨c1, ?_, c3⟩
          show (if b ∈ ls then none else A b) = none
          rw [if_pos (memL b hb)]
      · exact hq.mono (Md.sel_mono b2 b3 u3) u3
end
end Mir

namespace Mir
open L2
set_option autoImplicit false
/-! ## 12. the mirrors' own laws -/
theorem iteO_true {α : Type} (a b : Option α) : iteO true a b = a := rfl
theorem iteO_false {α : Type} (a b : Option α) : iteO false a b = b := rfl
theorem iteO_dec {α : Type} {p : Prop} [Decidable p] (a b : Option α) : iteO (decide p) a b = if p then a else b := by
  by_cases h : p <;> simp [h, iteO]
theorem iteO_not {α : Type} (x : Bool) (a b : Option α) : iteO (!x) a b = iteO x b a := by cases x <;> rfl
theorem forO_nil {α τ : Type} (f : τ → α → Option τ) (st : τ) : forO f [] st = some st := rfl
theorem forO_cons {α τ : Type} (f : τ → α → Option τ) (x : α) (xs : List α) (st : τ) : forO f (x :: xs) st = (f st x).bind fun st' => forO f xs st' := rfl
theorem forO_app {α τ : Type} (f : τ → α → Option τ) : ∀ (xs ys : List α) (st : τ), forO f (xs ++ ys) st = (forO f xs st).bind fun st' => forO f ys st'
  | [], ys, st => rfl
  | x :: xs, ys, st => by
    rw [List.cons_append, forO_cons, forO_cons]
    cases f st x with
    | none => rfl
    | some st' => simp only [Option.bind_some]; exact forO_app f xs ys st'
/-- an invariant over what has been walked -/
theorem forO_ind {α τ : Type} {f : τ → α → Option τ} (P : List α → τ → Prop) : ∀ (xs done : List α) (st : τ), P done st → (∀ d x r st, done ++ xs = d ++ x :: r → P d st → ∃ st', f st x = some st' ∧ P (d ++ [x]) st') → ∃ fin, forO f xs st = some fin ∧ P (done ++ xs) fin
  | [], done, st, h, _ => ⟨st, rfl, by rw [List.append_nil]; exact h⟩
  | x :: xs, done, st, h, hs => by
    obtain ⟨st', e, h'⟩ := hs done x xs st rfl h
    obtain ⟨fin, e2, h2⟩ := forO_ind P xs (done ++ [x]) st' h' (fun d y r st q => hs d y r st (by rw [← q, List.append_assoc]; rfl))
    exact ⟨fin, by rw [forO_cons, e]; exact e2, by rw [List.append_assoc] at h2; exact h2⟩
theorem forO_inv {α τ : Type} {f : τ → α → Option τ} (P : List α → τ → Prop) (xs : List α) (st : τ) (h0 : P [] st) (hs : ∀ d x r st, xs = d ++ x :: r → P d st → ∃ st', f st x = some st' ∧ P (d ++ [x]) st') : ∃ fin, forO f xs st = some fin ∧ P xs fin :=
  forO_ind P xs [] st h0 hs
/-- all turns go on -/
theorem forF_all {α ρ τ : Type} {f : τ → α → Option (Fl ρ τ)} (P : τ → Prop) : ∀ (xs : List α) (st : τ), P st → (∀ x ∈ xs, ∀ st, P st → ∃ st', f st x = some (.nxt st') ∧ P st') → ∃ fin, forF f xs st = some (.nxt fin) ∧ P fin
  | [], st, h, _ => ⟨st, rfl, h⟩
  | x :: xs, st, h, hs => by
    obtain ⟨st', e, h'⟩ := hs x List.mem_cons_self st h
    obtain ⟨fin, e2, h2⟩ := forF_all P xs st' h' (fun y hy => hs y (List.mem_cons_of_mem _ hy))
    exact ⟨fin, by simp only [forF, e, Option.bind_some, flF]; exact e2, h2⟩
theorem forF_unit {α ρ : Type} {f : Unit → α → Option (Fl ρ Unit)} (xs : List α) (hs : ∀ x ∈ xs, f () x = some (.nxt ())) : forF f xs () = some (.nxt ()) := by
  obtain ⟨fin, e, _⟩ := forF_all (f := f) (fun _ => True) xs () trivial (fun x hx st _ => ⟨(), hs x hx, trivial⟩)
  exact e
theorem mapO_ok {α β : Type} {f : α → Option β} {g : α → β} : ∀ {xs : List α}, (∀ x ∈ xs, f x = some (g x)) → mapO f xs = some (xs.map g)
  | [], _ => rfl
  | x :: xs, h => by
    simp only [mapO, h x List.mem_cons_self, Option.bind_some, mapO_ok (fun y hy => h y (List.mem_cons_of_mem _ hy)), List.map_cons]
theorem cmpO_ok {α β : Type} {p : α → Option Bool} {q : α → Bool} {f : α → Option β} {g : α → β} : ∀ {xs : List α}, (∀ x ∈ xs, p x = some (q x)) → (∀ x ∈ xs, q x = true → f x = some (g x)) → cmpO p f xs = some ((xs.filter q).map g)
  | [], _, _ => rfl
  | x :: xs, hp, hf => by
    have ih := cmpO_ok (fun y hy => hp y (List.mem_cons_of_mem _ hy)) (fun y hy => hf y (List.mem_cons_of_mem _ hy))
    simp only [cmpO, hp x List.mem_cons_self, Option.bind_some, ih]
    cases e : q x with
    | false => simp [e]
    | true => simp [e, hf x List.mem_cons_self e]
theorem mulO_ok {x y : Int} (a b : Nat) (hx : x.natAbs < 2 ^ a) (hy : y.natAbs < 2 ^ b) (ha : 0 < a) (hb : 0 < b) (h : a + b ≤ 1000000) : mulO x y = some (x * y) := by
  have h1 : x.natAbs.log2 < a := by
    by_cases z : x.natAbs = 0
    · rw [z]; simpa using ha
    · exact (Nat.log2_lt z).mpr hx
  have h2 : y.natAbs.log2 < b := by
    by_cases z : y.natAbs = 0
    · rw [z]; simpa using hb
    · exact (Nat.log2_lt z).mpr hy
  unfold mulO
  rw [if_pos (by omega)]
/-- numbers of up to sixty figures and their products -/
def Lo (n : Int) : Prop := n.natAbs < 2 ^ 200
theorem lo_of {n : Int} (h : -1000000000000000000000000000000000000000000000000000000000000 ≤ n) (h' : n ≤ 1000000000000000000000000000000000000000000000000000000000000) : Lo n := by
  have e : (1606938044258990275541962092341162602522202993782792835301376 : Nat) = 2 ^ 200 := by decide
  unfold Lo
  rw [← e]
  omega
theorem mulO_lo {x y : Int} (hx : Lo x) (hy : Lo y) : mulO x y = some (x * y) := mulO_ok 200 200 hx hy (by decide) (by decide) (by decide)
theorem modO_pos {x y : Int} (h : 0 < y) : modO x y = some (x % y) := by
  unfold modO
  rw [if_pos (by omega), Int.fmod_eq_emod_of_nonneg x (by omega)]
theorem divO_pos {x y : Int} (a : Nat) (h : 0 < y) (hy : y.natAbs < 2 ^ a) (ha : a ≤ 9000) : divO x y = some (x / y) := by
  unfold divO
  have h2 : y.natAbs.log2 < a := (Nat.log2_lt (by omega)).mpr hy
  rw [if_pos ⟨by omega, by omega⟩, Int.fdiv_eq_ediv_of_nonneg x (by omega)]
theorem divO_lo {x y : Int} (h : 0 < y) (hy : Lo y) : divO x y = some (x / y) := divO_pos 200 h hy (by decide)
theorem appO_ok {α : Type} {xs : List α} {a : α} (h : xs.length < 16777216) : appO xs a = some (xs ++ [a]) := if_pos h
theorem catO_ok {α : Type} {xs ys : List α} (h : xs.length + ys.length ≤ 16777216) : catO xs ys = some (xs ++ ys) := if_pos h
theorem rngO_ok {n : Int} (h0 : 0 ≤ n) (h : n ≤ 16777216) : rngO 0 n = some (rng 0 n) := if_pos ⟨by omega, by omega, by omega, by omega, by omega⟩
theorem rngO_ok2 {lo n : Int} (h0 : 0 ≤ lo) (h1 : lo ≤ 16777216) (h2 : 0 ≤ n) (h : n ≤ 16777216) : rngO lo n = some (rng lo n) := if_pos ⟨by omega, by omega, by omega, by omega, by omega⟩
theorem mem_rng {lo hi x : Int} : x ∈ rng lo hi ↔ lo ≤ x ∧ x < hi := by
  unfold rng
  rw [List.mem_map]
  constructor
  · rintro ⟨i, hi', rfl⟩
    have := List.mem_range.mp hi'
    omega
  · intro h
    exact ⟨(x - lo).toNat, List.mem_range.mpr (by omega), by omega⟩
theorem atI_natO {α : Type} (xs : List α) (n : Nat) : atI xs (n : Int) = xs[n]? := by
  cases h : xs[n]? with
  | some v => exact atI_nat h
  | none =>
    have hn : xs.length ≤ n := List.getElem?_eq_none_iff.mp h
    unfold atI ixN
    rw [if_pos (by omega), if_neg (by omega)]; rfl
theorem atI_ok {α : Type} {xs : List α} {i : Int} (h0 : 0 ≤ i) (h : i < xs.length) : atI xs i = some (xs[i.toNat]'(by omega)) := by
  have e := atI_natO xs i.toNat
  rw [show ((i.toNat : Nat) : Int) = i by omega] at e
  rw [e, List.getElem?_eq_getElem (by omega)]
theorem atI_get? {α : Type} {xs : List α} {i : Int} (h0 : 0 ≤ i) : atI xs i = xs[i.toNat]? := by
  have e := atI_natO xs i.toNat
  rwa [show ((i.toNat : Nat) : Int) = i by omega] at e
theorem rng_at {lo hi x : Int} {d r : List Int} (h : rng lo hi = d ++ x :: r) : x = lo + (d.length : Int) ∧ lo ≤ x ∧ x < hi := by
  have e : (rng lo hi)[d.length]? = some x := by rw [h]; simp
  have hl : d.length < (hi - lo).toNat := by
    have := (List.getElem?_eq_some_iff.mp e).1
    rwa [rng_len] at this
  rw [rng_get hl] at e
  have := Option.some.inj e
  omega
theorem cut_to {α : Type} (xs : List α) (n : Nat) : cut xs none (some (n : Int)) = xs.take n := by
  unfold cut
  rw [HT.sIx_none, HT.sIx_nat, List.drop_zero, Nat.sub_zero]
  rcases Nat.le_total n xs.length with h | h
  · rw [Nat.min_eq_left h]
  · rw [Nat.min_eq_right h, List.take_of_length_le (Nat.le_refl _), List.take_of_length_le h]
theorem cut_from {α : Type} (xs : List α) (n : Nat) : cut xs (some (n : Int)) none = xs.drop n := by
  unfold cut
  rw [HT.sIx_none, HT.sIx_nat]
  rcases Nat.le_total n xs.length with h | h
  · rw [Nat.min_eq_left h]
    exact List.take_of_length_le (by rw [List.length_drop]; omega)
  · rw [Nat.min_eq_right h, List.drop_of_length_le (Nat.le_refl _), List.drop_of_length_le h]; simp
theorem isNone_false {α : Type} {x : Option α} (h : x.isNone = false) : ∃ a, x = some a := by cases x with
  | none => cases h
  | some a => exact ⟨a, rfl⟩
end Mir

namespace Mir
open PySem PySem.Spec L2
open ToD (toD)
set_option autoImplicit false
/-! ## mathematics of shares: pairs of whole numbers in lowest terms are rationals -/
theorem whileO_false {τ : Type} {c : τ → Option Bool} {f : τ → Option τ} {st : τ} (h : c st = some false) : whileO c f st = some st := whileO_of (n := 1) (by simp [whN, h])
theorem whileO_true {τ : Type} {c : τ → Option Bool} {f : τ → Option τ} {st st' r : τ} (h : c st = some true) (h2 : f st = some st') (h3 : whileO c f st' = some r) : whileO c f st = some r := by
  obtain ⟨n, e⟩ := whileO_to h3
  exact whileO_of (n := n + 1) (by simp [whN, h, h2, e])
theorem whileF_false {ρ τ : Type} {c : τ → Option Bool} {f : τ → Option (Fl ρ τ)} {st : τ} (h : c st = some false) : whileF c f st = some (.nxt st) := whileF_of (n := 1) (by simp [whNF, h])
theorem whileF_ret {ρ τ : Type} {c : τ → Option Bool} {f : τ → Option (Fl ρ τ)} {st : τ} {r : ρ} (h : c st = some true) (h2 : f st = some (.ret r)) : whileF c f st = some (.ret r) := whileF_of (n := 1) (by simp [whNF, h, h2, flF])
theorem whileF_true {ρ τ : Type} {c : τ → Option Bool} {f : τ → Option (Fl ρ τ)} {st st' : τ} {r : Fl ρ τ} (h : c st = some true) (h2 : f st = some (.nxt st')) (h3 : whileF c f st' = some r) : whileF c f st = some r := by
  obtain ⟨n, e⟩ := whileF_to h3
  exact whileF_of (n := n + 1) (by simp [whNF, h, h2, e, flF])
theorem gcd_loop {c : Int × Int → Option Bool} {f : Int × Int → Option (Int × Int)} (hc : ∀ a b : Nat, c ((a : Int), (b : Int)) = some (decide (b ≠ 0))) (hf : ∀ a b : Nat, b ≠ 0 → f ((a : Int), (b : Int)) = some ((b : Int), ((a % b : Nat) : Int))) (b : Nat) : ∀ a : Nat, whileO c f ((a : Int), (b : Int)) = some ((Nat.gcd a b : Int), 0) := by
  induction b using Nat.strongRecOn with
  | _ b ih =>
    intro a
    by_cases h : b = 0
    · subst h
      rw [whileO_false (by rw [hc]; rfl)]
      simp
    · refine whileO_true (by rw [hc]; simp [h]) (hf a b h) ?_
      rw [ih (a % b) (Nat.mod_lt a (by omega)) b]
      rw [Nat.gcd_comm a b, Nat.gcd_rec b a, Nat.gcd_comm]
/-- a rational as the pair of its top and its bottom -/
def qp (r : Rat) : Int × Int := (r.num, (r.den : Int))
theorem qp1 (r : Rat) : (qp r).1 = r.num := rfl
theorem qp2 (r : Rat) : (qp r).2 = (r.den : Int) := rfl
theorem qp_inj {r s : Rat} (h : qp r = qp s) : r = s := Rat.ext (congrArg Prod.fst h) (Int.ofNat.inj (congrArg Prod.snd h))
theorem qp_divInt {t b : Int} (h : 0 < b) : qp (Rat.divInt t b) = (t / (Int.gcd t b : Int), b / (Int.gcd t b : Int)) := by
  obtain ⟨n, rfl⟩ := Int.eq_ofNat_of_zero_le (by omega : 0 ≤ b)
  have hn : n ≠ 0 := by omega
  have e : Rat.divInt t (n : Int) = mkRat t n := rfl
  rw [e, Rat.mkRat_def, dif_neg hn, Rat.normalize_eq]
  rfl
theorem qp_divInt_neg {t b : Int} (h : b < 0) : qp (Rat.divInt t b) = (t / (0 - (Int.gcd t b : Int)), b / (0 - (Int.gcd t b : Int))) := by
  have e : Rat.divInt t b = Rat.divInt (-t) (-b) := by
    rw [Rat.divInt_eq_divInt_iff (by omega) (by omega)]; simp [Int.mul_neg, Int.neg_mul]
  rw [e, qp_divInt (by omega), Int.zero_sub]
  have g : Int.gcd (-t) (-b) = Int.gcd t b := by unfold Int.gcd; rw [Int.natAbs_neg, Int.natAbs_neg]
  rw [g]
  have h1 : (Int.gcd t b : Int) ∣ t := Int.gcd_dvd_left t b
  have h2 : (Int.gcd t b : Int) ∣ b := Int.gcd_dvd_right t b
  rw [Int.ediv_neg, Int.ediv_neg, Int.neg_ediv_of_dvd h1, Int.neg_ediv_of_dvd h2]
/-- small enough: below 2 ^ n -/
def Qz (n : Nat) (r : Rat) : Prop := r.num.natAbs < 2 ^ n ∧ r.den < 2 ^ n
theorem Qz.mono {n m : Nat} {r : Rat} (h : Qz n r) (hm : n ≤ m) : Qz m r := ⟨Nat.lt_of_lt_of_le h.1 (Nat.pow_le_pow_right (by decide) hm), Nat.lt_of_lt_of_le h.2 (Nat.pow_le_pow_right (by decide) hm)⟩
theorem qp_le {t b : Int} (h : 0 < b) : (Rat.divInt t b).num.natAbs ≤ t.natAbs ∧ (Rat.divInt t b).den ≤ b.natAbs := by
  have e := qp_divInt (t := t) h
  have e1 : (Rat.divInt t b).num = t / (Int.gcd t b : Int) := congrArg Prod.fst e
  have e2 : ((Rat.divInt t b).den : Int) = b / (Int.gcd t b : Int) := congrArg Prod.snd e
  have g1 : (Int.gcd t b : Int) ∣ t := Int.gcd_dvd_left t b
  have g2 : (Int.gcd t b : Int) ∣ b := Int.gcd_dvd_right t b
  constructor
  · rw [e1, Int.natAbs_ediv_of_dvd g1]; exact Nat.div_le_self _ _
  · have : (Rat.divInt t b).den = (b / (Int.gcd t b : Int)).natAbs := by rw [← e2]; rfl
    rw [this, Int.natAbs_ediv_of_dvd g2]; exact Nat.div_le_self _ _
theorem divInt_neg2 (t b : Int) : Rat.divInt (-t) (-b) = Rat.divInt t b := by
  by_cases h : b = 0
  · subst h; simp
  · rw [Rat.divInt_eq_divInt_iff (by omega) (by omega)]; simp [Int.mul_neg, Int.neg_mul]
theorem qz_divInt {n : Nat} {t b : Int} (hb : b ≠ 0) (h1 : t.natAbs < 2 ^ n) (h2 : b.natAbs < 2 ^ n) : Qz n (Rat.divInt t b) := by
  rcases Int.lt_or_gt_of_ne hb with h | h
  · rw [← divInt_neg2]
    obtain ⟨a, c⟩ := qp_le (t := -t) (b := -b) (by omega)
    exact ⟨by omega, by omega⟩
  · obtain ⟨a, c⟩ := qp_le (t := t) h
    exact ⟨by omega, by omega⟩
theorem Qz.num {n : Nat} {r : Rat} (h : Qz n r) : r.num.natAbs < 2 ^ n := h.1
theorem Qz.den {n : Nat} {r : Rat} (h : Qz n r) : ((r.den : Int)).natAbs < 2 ^ n := h.2
theorem den_pos (r : Rat) : 0 < (r.den : Int) := by have := r.den_pos; omega
theorem den_ne (r : Rat) : (r.den : Int) ≠ 0 := by have := r.den_pos; omega
theorem natAbs_mul_lt {x y : Int} {a b : Nat} (hx : x.natAbs < 2 ^ a) (hy : y.natAbs < 2 ^ b) : (x * y).natAbs < 2 ^ (a + b) := by
  rw [Int.natAbs_mul, Nat.pow_add]
  exact Nat.mul_lt_mul'' hx hy
theorem natAbs_add_lt {x y : Int} {a : Nat} (hx : x.natAbs < 2 ^ a) (hy : y.natAbs < 2 ^ a) : (x + y).natAbs < 2 ^ (a + 1) := by
  have := Int.natAbs_add_le x y
  rw [Nat.pow_succ]; omega
theorem natAbs_sub_lt {x y : Int} {a : Nat} (hx : x.natAbs < 2 ^ a) (hy : y.natAbs < 2 ^ a) : (x - y).natAbs < 2 ^ (a + 1) := by
  have := Int.natAbs_sub_le x y
  rw [Nat.pow_succ]; omega
theorem add_divInt (x y : Rat) : Rat.divInt (x.num * (y.den : Int) + y.num * (x.den : Int)) ((x.den : Int) * (y.den : Int)) = x + y := by
  rw [← Rat.divInt_add_divInt _ _ (den_ne x) (den_ne y), Rat.num_divInt_den, Rat.num_divInt_den]
theorem sub_divInt (x y : Rat) : Rat.divInt (x.num * (y.den : Int) - y.num * (x.den : Int)) ((x.den : Int) * (y.den : Int)) = x - y := by
  rw [← Rat.divInt_sub_divInt _ _ (den_ne x) (den_ne y), Rat.num_divInt_den, Rat.num_divInt_den]
theorem mul_divInt (x y : Rat) : Rat.divInt (x.num * y.num) ((x.den : Int) * (y.den : Int)) = x * y := by
  rw [← Rat.divInt_mul_divInt, Rat.num_divInt_den, Rat.num_divInt_den]
theorem num_ne {y : Rat} (h : y ≠ 0) : y.num ≠ 0 := fun e => h (by rw [← Rat.num_divInt_den y, e]; simp)
theorem div_divInt (x y : Rat) : Rat.divInt (x.num * (y.den : Int)) ((x.den : Int) * y.num) = x / y := by
  rw [← Rat.divInt_mul_divInt, Rat.num_divInt_den]
  have e : (y.num : Rat) / ((y.den : Int) : Rat) = y := by rw [← Rat.divInt_eq_div, Rat.num_divInt_den]
  rw [Rat.divInt_eq_div]
  have hd : ((y.den : Int) : Rat) ≠ 0 := fun z => den_ne y (by exact_mod_cast z)
  by_cases h : (y.num : Rat) = 0
  · rw [h] at e ⊢; grind
  · conv => rhs; rw [← e]
    grind
theorem Qz.add {n : Nat} {x y : Rat} (hx : Qz n x) (hy : Qz n y) : Qz (n + n + 1) (x + y) := by
  rw [← add_divInt]
  refine qz_divInt (Int.mul_ne_zero (den_ne x) (den_ne y)) (natAbs_add_lt (natAbs_mul_lt hx.num hy.den) (natAbs_mul_lt hy.num hx.den)) (Nat.lt_of_lt_of_le (natAbs_mul_lt hx.den hy.den) (Nat.pow_le_pow_right (by decide) (by omega)))
theorem Qz.mul {n m : Nat} {x y : Rat} (hx : Qz n x) (hy : Qz m y) : Qz (n + m) (x * y) := by
  rw [← mul_divInt]
  exact qz_divInt (Int.mul_ne_zero (den_ne x) (den_ne y)) (natAbs_mul_lt hx.num hy.num) (natAbs_mul_lt hx.den hy.den)
theorem qp_cross {t b : Int} (h : b ≠ 0) {x : Rat} (e : Rat.divInt t b = x) : x.num * b = t * (x.den : Int) := by
  have := Rat.num_divInt_den x
  rw [← e] at this ⊢
  rw [Rat.divInt_eq_divInt_iff (den_ne _) h] at this
  exact this
theorem red_gcd (x : Rat) : Int.gcd x.num (x.den : Int) = 1 := x.reduced
theorem divO_neg {x y : Int} (a : Nat) (h : y < 0) (hy : y.natAbs < 2 ^ a) (ha : a ≤ 9000) (hd : y ∣ x) : divO x y = some (x / y) := by
  unfold divO
  have h2 : y.natAbs.log2 < a := (Nat.log2_lt (by omega)).mpr hy
  rw [if_pos ⟨by omega, by omega⟩, Int.fdiv_eq_ediv_of_dvd hd]
theorem qz200 {t b : Int} (hb : 0 < b) (h1 : t.natAbs < 2 ^ 200) (h2 : b.natAbs < 2 ^ 200) : Qz 200 (Rat.divInt t b) := qz_divInt (by omega) h1 h2
theorem atI_any {α : Type} {xs : List α} {i : Int} (h0 : -(xs.length : Int) ≤ i) (h : i < xs.length) : ∃ a, atI xs i = some a ∧ a ∈ xs := by
  by_cases hn : i < 0
  · have hk : (i + xs.length).toNat < xs.length := by omega
    refine ⟨xs[(i + xs.length).toNat], ?_, List.getElem_mem _⟩
    unfold atI ixN
    rw [if_neg (by omega), if_pos h0, Option.bind_some, List.getElem?_eq_getElem hk]
  · rw [atI_ok (by omega) h]
    exact ⟨_, rfl, List.getElem_mem _⟩
theorem exlist {α : Type} {P : Rat → Prop} {f : α → Option (Int × Int)} : ∀ xs : List α, (∀ x ∈ xs, ∃ r, f x = some (qp r) ∧ P r) → ∃ rs : List Rat, mapO f xs = some (rs.map qp) ∧ rs.length = xs.length ∧ ∀ r ∈ rs, P r
  | [], _ => ⟨[], rfl, rfl, fun r h => by cases h⟩
  | x :: xs, h => by
    obtain ⟨r, e, p⟩ := h x List.mem_cons_self
    obtain ⟨rs, e2, l, p2⟩ := exlist xs fun y hy => h y (List.mem_cons_of_mem _ hy)
    refine ⟨r :: rs, by simp [mapO, e, e2], by simp [l], fun y hy => ?_⟩
    rcases List.mem_cons.mp hy with rfl | hy
    · exact p
    · exact p2 y hy
end Mir

namespace Mir
open PySem PySem.Spec L2
open ToD (toD)
set_option autoImplicit false
/-! ## mathematics of loops and of worlds -/
theorem forF_app {α ρ τ : Type} (f : τ → α → Option (Fl ρ τ)) : ∀ (xs ys : List α) (st : τ), forF f (xs ++ ys) st = (forF f xs st).bind (flF fun st' => forF f ys st')
  | [], ys, st => rfl
  | x :: xs, ys, st => by
    simp only [List.cons_append, forF]
    cases f st x with
    | none => rfl
    | some r =>
      cases r with
      | ret r => rfl
      | nxt st' => simp only [Option.bind_some, flF]; exact forF_app f xs ys st'
theorem forF_ind {α ρ τ : Type} {f : τ → α → Option (Fl ρ τ)} (P : List α → τ → Prop) : ∀ (xs done : List α) (st : τ), P done st → (∀ d x r st, done ++ xs = d ++ x :: r → P d st → ∃ st', f st x = some (.nxt st') ∧ P (d ++ [x]) st') → ∃ fin, forF f xs st = some (.nxt fin) ∧ P (done ++ xs) fin
  | [], done, st, h, _ => ⟨st, rfl, by rw [List.append_nil]; exact h⟩
  | x :: xs, done, st, h, hs => by
    obtain ⟨st', e, h'⟩ := hs done x xs st rfl h
    obtain ⟨fin, e2, h2⟩ := forF_ind P xs (done ++ [x]) st' h' (fun d y r st q => hs d y r st (by rw [← q, List.append_assoc]; rfl))
    exact ⟨fin, by simp only [forF, e, Option.bind_some, flF]; exact e2, by rw [List.append_assoc] at h2; exact h2⟩
theorem forF_inv {α ρ τ : Type} {f : τ → α → Option (Fl ρ τ)} (P : List α → τ → Prop) (xs : List α) (st : τ) (h0 : P [] st) (hs : ∀ d x r st, xs = d ++ x :: r → P d st → ∃ st', f st x = some (.nxt st') ∧ P (d ++ [x]) st') : ∃ fin, forF f xs st = some (.nxt fin) ∧ P xs fin := forF_ind P xs [] st h0 hs
/-- the first that is found hands back, the others go on -/
theorem forF_any {α ρ : Type} {f : Unit → α → Option (Fl ρ Unit)} {r : ρ} (p : α → Bool) : ∀ (xs : List α), (∀ x ∈ xs, f () x = some (if p x = true then .ret r else .nxt ())) → forF f xs () = some (if xs.any p = true then .ret r else .nxt ())
  | [], _ => rfl
  | x :: xs, h => by
    have ih := forF_any p xs fun y hy => h y (List.mem_cons_of_mem _ hy)
    simp only [forF, h x List.mem_cons_self, Option.bind_some, List.any_cons]
    by_cases hp : p x = true
    · simp [flF, hp]
    · simp [flF, hp, ih]
theorem zip_self {α : Type} : ∀ {l : List α} {a b : α}, (a, b) ∈ l.zip l → a = b
  | [], _, _, h => by cases h
  | x :: l, a, b, h => by
    rw [List.zip_cons_cons] at h
    rcases List.mem_cons.mp h with h | h
    · cases h; rfl
    · exact zip_self h
theorem rng_zero (lo : Int) : rng lo lo = [] := by unfold rng; simp
theorem rng_succ {lo hi : Int} (h : lo ≤ hi) : rng lo (hi + 1) = rng lo hi ++ [hi] := by
  unfold rng
  rw [show (hi + 1 - lo).toNat = (hi - lo).toNat + 1 by omega, List.range_succ, List.map_append]
  simp; omega
theorem rng_cons {lo hi : Int} (h : lo < hi) : rng lo hi = lo :: rng (lo + 1) hi := by
  unfold rng
  rw [show (hi - lo).toNat = (hi - (lo + 1)).toNat + 1 by omega, List.range_succ_eq_map, List.map_cons, List.map_map]
  congr 1
  · simp
  · apply List.map_congr_left
    intro a _
    simp only [Function.comp_apply]; omega
theorem rng_split {lo mid hi : Int} (h1 : lo ≤ mid) (h2 : mid ≤ hi) : rng lo hi = rng lo mid ++ rng mid hi := by
  unfold rng
  rw [show (hi - lo).toNat = (mid - lo).toNat + (hi - mid).toNat by omega, List.range_add, List.map_append, List.map_map]
  congr 1
  apply List.map_congr_left
  intro a _
  simp only [Function.comp_apply]; omega
theorem rng_shift (lo : Int) (n : Int) : rng lo (lo + n) = (rng 0 n).map (lo + ·) := by
  unfold rng
  rw [show (lo + n - lo).toNat = (n - 0).toNat by omega, List.map_map]
  apply List.map_congr_left
  intro a _
  simp
theorem rng_nodup (lo hi : Int) : (rng lo hi).Nodup := by
  unfold rng
  exact List.Pairwise.map _ (fun a b h => by show lo + (a : Int) ≠ lo + (b : Int); omega) (List.nodup_range (n := (hi - lo).toNat))
theorem rng_idx {n : Int} {i : Nat} (h : (i : Int) < n) : (rng 0 n)[i]? = some (i : Int) := by
  rw [rng_get (by omega)]; simp
theorem rng_pw (lo hi : Int) : (rng lo hi).Pairwise (· < ·) := by
  unfold rng
  exact List.Pairwise.map _ (fun a b h => by show lo + (a : Int) < lo + (b : Int); omega) (List.pairwise_lt_range (n := (hi - lo).toNat))
/-- the product -/
def pr : List Int → Int
  | [] => 1
  | s :: r => s * pr r
def Pos (xs : List Int) : Prop := ∀ s ∈ xs, 1 ≤ s
theorem Pos.tail {x : Int} {xs : List Int} (h : Pos (x :: xs)) : Pos xs := fun s hs => h s (List.mem_cons_of_mem _ hs)
theorem Pos.head {x : Int} {xs : List Int} (h : Pos (x :: xs)) : 1 ≤ x := h x List.mem_cons_self
theorem Pos.rev {xs : List Int} (h : Pos xs) : Pos xs.reverse := fun s hs => h s (List.mem_reverse.mp hs)
theorem mul_pos1 {a b : Int} (h : 1 ≤ a) (h' : 1 ≤ b) : 1 ≤ a * b := by
  have := Int.mul_le_mul h h' (by omega) (by omega)
  omega
theorem pr_pos : ∀ {xs : List Int}, Pos xs → 1 ≤ pr xs
  | [], _ => Int.le_refl _
  | x :: xs, h => mul_pos1 h.head (pr_pos h.tail)
theorem pr_app : ∀ (xs ys : List Int), pr (xs ++ ys) = pr xs * pr ys
  | [], s => by simp [pr]
  | x :: xs, s => by
    show x * pr (xs ++ s) = x * pr xs * pr s
    rw [pr_app xs s, Int.mul_assoc]
theorem pr_one (s : Int) : pr [s] = s := Int.mul_one s
theorem pr_rev : ∀ xs : List Int, pr xs.reverse = pr xs
  | [] => rfl
  | x :: xs => by
    rw [List.reverse_cons, pr_app, pr_rev xs, pr_one]
    exact Int.mul_comm _ _
theorem le_mul_left {a b : Int} (h : 1 ≤ a) (h' : 0 ≤ b) : b ≤ a * b := by
  have := Int.mul_le_mul_of_nonneg_right h h'
  omega
theorem le_mul_right {a b : Int} (h : 1 ≤ b) (h' : 0 ≤ a) : a ≤ a * b := by
  have := Int.mul_le_mul_of_nonneg_left h h'
  omega
theorem mem_le_pr : ∀ {xs : List Int} {s : Int}, Pos xs → s ∈ xs → s ≤ pr xs
  | x :: xs, s, h, hm => by
    have h1 := h.head
    have h2 := pr_pos h.tail
    rcases List.mem_cons.mp hm with rfl | hm
    · exact le_mul_right h2 (by omega)
    · have := mem_le_pr h.tail hm
      have := le_mul_left h1 (show 0 ≤ pr xs by omega)
      show s ≤ x * pr xs
      omega
theorem div_lt {p s m : Int} (h0 : 0 ≤ p) (hs : 1 ≤ s) (h : p < s * m) : 0 ≤ p / s ∧ p / s < m :=
  ⟨Int.ediv_nonneg h0 (by omega), Int.ediv_lt_of_lt_mul (by omega) (by rw [Int.mul_comm]; exact h)⟩
abbrev big : Int := 1000000000000000000000000000000000000000000000000000000000000
theorem lo_big {n : Int} (h0 : 0 ≤ n) (h : n ≤ big) : Lo n := lo_of (by unfold big at h; omega) h
theorem prod_loop {f : Int → Int → Option Int} (hf : ∀ a b, f a b = (mulO a b).bind fun m => some m) : ∀ {xs : List Int} {m : Int}, Pos xs → 1 ≤ m → m * pr xs ≤ big → forO f xs m = some (m * pr xs)
  | [], m, _, _, _ => by simp [forO, pr]
  | x :: xs, m, h, h1, hb => by
    have hx := h.head
    have hq := pr_pos h.tail
    have e : m * pr (x :: xs) = m * x * pr xs := by
      show m * (x * pr xs) = _
      rw [Int.mul_assoc]
    rw [e] at hb ⊢
    have h2 := mul_pos1 h1 hx
    have h3 := le_mul_right hq (show 0 ≤ m * x by omega)
    have h4 := le_mul_right hx (show 0 ≤ m by omega)
    have h5 := le_mul_left h1 (show 0 ≤ x by omega)
    rw [forO_cons, hf, mulO_lo (lo_big (by omega) (by omega)) (lo_big (by omega) (by omega))]
    simp only [Option.bind_some]
    exact prod_loop hf h.tail h2 hb
/-! ### digits -/
def dg : List Int → Int → List Int
  | [], _ => []
  | s :: rs, p => p % s :: dg rs (p / s)
theorem dg_len : ∀ (rs : List Int) (p : Int), (dg rs p).length = rs.length
  | [], _ => rfl
  | s :: rs, p => by simp [dg, dg_len rs]
/-- the world of a place -/
def wd : List Int → Int → List Int
  | [], _ => []
  | s :: r, p => (p / pr r) % s :: wd r p
theorem wd_len : ∀ (s : List Int) (p : Int), (wd s p).length = s.length
  | [], _ => rfl
  | s :: r, p => by simp [wd, wd_len r]
theorem dg_app : ∀ (xs : List Int) (s p : Int), Pos xs → dg (xs ++ [s]) p = dg xs p ++ [(p / pr xs) % s]
  | [], s, p, _ => by simp [dg, pr]
  | x :: xs, s, p, h => by
    show p % x :: dg (xs ++ [s]) (p / x) = _
    rw [dg_app xs s (p / x) h.tail]
    show _ = p % x :: (dg xs (p / x) ++ [p / (x * pr xs) % s])
    rw [Int.ediv_ediv (x := p), if_neg (by have := h.head; omega), Int.sub_zero]
theorem dg_wd : ∀ (s : List Int) (p : Int), Pos s → (dg s.reverse p).reverse = wd s p
  | [], p, _ => rfl
  | s :: r, p, h => by
    rw [List.reverse_cons, dg_app _ _ _ h.tail.rev, List.reverse_append, dg_wd r p h.tail, pr_rev]
    rfl
theorem wd_mod : ∀ (s : List Int) (p m : Int), Pos s → pr s ∣ m → wd s (p + m) = wd s p
  | [], _, _, _, _ => rfl
  | s :: r, p, m, h, ⟨c, hc⟩ => by
    have hq := pr_pos h.tail
    have e : m = s * c * pr r := by rw [hc]; show s * pr r * c = _; rw [Int.mul_assoc, Int.mul_comm (pr r) c, Int.mul_assoc]
    show ((p + m) / pr r) % s :: wd r (p + m) = _
    rw [wd_mod r p m h.tail ⟨s * c, by rw [e, Int.mul_comm]⟩, e, Int.add_mul_ediv_right _ _ (by omega), Int.add_mul_emod_self_left]
    rfl
def allW : List Int → List (List Int)
  | [] => [[]]
  | s :: r => (rng 0 s).flatMap fun v => (allW r).map (v :: ·)
theorem rng_mul (s m : Int) (hm : 0 ≤ m) : ∀ n : Nat, (n : Int) ≤ s → rng 0 (n * m) = (rng 0 n).flatMap fun v => (rng 0 m).map (v * m + ·)
  | 0, _ => by simp [rng_zero]
  | n + 1, h => by
    have e : ((n + 1 : Nat) : Int) * m = n * m + m := by
      rw [show ((n + 1 : Nat) : Int) = (n : Int) + 1 by omega, Int.add_mul, Int.one_mul]
    have h0 : (0 : Int) ≤ n * m := Int.mul_nonneg (by omega) hm
    rw [e, rng_split h0 (show (n : Int) * m ≤ n * m + m by omega), rng_mul s m hm n (by omega), rng_shift]
    rw [show ((n + 1 : Nat) : Int) = (n : Int) + 1 by omega, rng_succ (by omega), List.flatMap_append]
    simp
theorem allW_wd : ∀ {s : List Int}, Pos s → (rng 0 (pr s)).map (wd s) = allW s
  | [], _ => by
    show (rng 0 1).map (wd []) = [[]]
    rfl
  | s :: r, h => by
    have hs := h.head
    have hq := pr_pos h.tail
    have e := rng_mul s (pr r) (by omega) s.toNat (by omega)
    rw [show ((s.toNat : Nat) : Int) = s by omega] at e
    show (rng 0 (s * pr r)).map (wd (s :: r)) = (rng 0 s).flatMap fun v => (allW r).map (v :: ·)
    rw [e, List.map_flatMap]
    rw [List.flatMap_def, List.flatMap_def]
    congr 1
    apply List.map_congr_left
    intro v hv
    obtain ⟨v0, v1⟩ := mem_rng.mp hv
    rw [← allW_wd h.tail, List.map_map, List.map_map]
    apply List.map_congr_left
    intro p hp
    obtain ⟨p0, p1⟩ := mem_rng.mp hp
    show (v * pr r + p) / pr r % s :: wd r (v * pr r + p) = v :: wd r p
    rw [Int.add_comm, wd_mod r p (v * pr r) h.tail ⟨v, Int.mul_comm _ _⟩, Int.add_mul_ediv_right _ _ (by omega), Int.ediv_eq_zero_of_lt p0 p1, Int.zero_add, Int.emod_eq_of_lt v0 v1]
def Fits : List Int → List Int → Prop
  | [], [] => True
  | s :: r, v :: w => (0 ≤ v ∧ v < s) ∧ Fits r w
  | _, _ => False
theorem fits_wd : ∀ {s : List Int} (p : Int), Pos s → Fits s (wd s p)
  | [], _, _ => trivial
  | s :: r, p, h => ⟨⟨Int.emod_nonneg _ (by have := h.head; omega), Int.emod_lt_of_pos _ (by have := h.head; omega)⟩, fits_wd p h.tail⟩
theorem mem_allW : ∀ {s w : List Int}, w ∈ allW s ↔ Fits s w
  | [], [] => by simp [allW, Fits]
  | [], v :: w => by simp [allW, Fits]
  | s :: r, [] => by simp [allW, Fits]
  | s :: r, v :: w => by
    simp only [allW, List.mem_flatMap, List.mem_map, Fits]
    constructor
    · rintro ⟨a, ha, b, hb, e⟩
      cases e
      exact ⟨mem_rng.mp ha, mem_allW.mp hb⟩
    · rintro ⟨h1, h2⟩
      exact ⟨v, mem_rng.mpr h1, w, mem_allW.mpr h2, rfl⟩
theorem Fits.len : ∀ {s w : List Int}, Fits s w → w.length = s.length
  | [], [], _ => rfl
  | _ :: _, _ :: _, h => by rw [List.length_cons, List.length_cons, Fits.len h.2]
theorem Fits.at : ∀ {s w : List Int} {i : Nat} {v : Int}, Fits s w → w[i]? = some v → ∃ t, s[i]? = some t ∧ 0 ≤ v ∧ v < t
  | [], [], _, _, _, h => by simp at h
  | s :: r, v :: w, 0, u, h, e => by
    have : v = u := by simpa using e
    subst this
    exact ⟨s, rfl, h.1⟩
  | s :: r, v :: w, i + 1, u, h, e => by
    obtain ⟨t, h1, h2⟩ := Fits.at (i := i) h.2 (by simpa using e)
    exact ⟨t, by simpa using h1, h2⟩
theorem allW_len : ∀ {s : List Int}, Pos s → ((allW s).length : Int) = pr s := fun {s} h => by
  rw [← allW_wd h, List.length_map, rng_len]
  have := pr_pos h
  omega
def rk : List Int → List Int → Int
  | _ :: r, v :: w => v * pr r + rk r w
  | _, _ => 0
theorem rk_lt : ∀ {s w : List Int}, Pos s → Fits s w → 0 ≤ rk s w ∧ rk s w < pr s
  | [], [], _, _ => ⟨Int.le_refl _, Int.one_pos⟩
  | s :: r, v :: w, h, f => by
    obtain ⟨h0, h1⟩ := rk_lt h.tail f.2
    obtain ⟨⟨v0, v1⟩, _⟩ := f
    have hq := pr_pos h.tail
    have a1 : 0 ≤ v * pr r := Int.mul_nonneg v0 (by omega)
    have a2 : (v + 1) * pr r ≤ s * pr r := Int.mul_le_mul_of_nonneg_right (by omega) (by omega)
    rw [Int.add_mul, Int.one_mul] at a2
    show 0 ≤ v * pr r + rk r w ∧ v * pr r + rk r w < s * pr r
    omega
theorem wd_rk : ∀ {s w : List Int}, Pos s → Fits s w → wd s (rk s w) = w
  | [], [], _, _ => rfl
  | s :: r, v :: w, h, f => by
    obtain ⟨h0, h1⟩ := rk_lt h.tail f.2
    have hq := pr_pos h.tail
    obtain ⟨⟨v0, v1⟩, f2⟩ := f
    show (v * pr r + rk r w) / pr r % s :: wd r (v * pr r + rk r w) = v :: w
    rw [Int.add_comm, wd_mod r _ (v * pr r) h.tail ⟨v, Int.mul_comm _ _⟩, wd_rk h.tail f2, Int.add_mul_ediv_right _ _ (by omega), Int.ediv_eq_zero_of_lt h0 h1, Int.zero_add, Int.emod_eq_of_lt v0 v1]
theorem rk_wd : ∀ {s : List Int} {p : Int}, Pos s → 0 ≤ p → p < pr s → rk s (wd s p) = p
  | [], p, _, h0, h1 => by
    have : p < 1 := h1
    show 0 = p
    omega
  | s :: r, p, h, h0, h1 => by
    have hq := pr_pos h.tail
    have h1' : p < s * pr r := h1
    have e := rk_wd h.tail (Int.emod_nonneg p (show pr r ≠ 0 by omega)) (Int.emod_lt_of_pos p (show 0 < pr r by omega))
    have em := Int.mul_ediv_add_emod p (pr r)
    have e2 : wd r p = wd r (p % pr r) := by
      have := wd_mod r (p % pr r) (pr r * (p / pr r)) h.tail ⟨_, rfl⟩
      rw [Int.add_comm, em] at this
      exact this
    obtain ⟨d0, d1⟩ := div_lt h0 hq (by rw [Int.mul_comm]; exact h1')
    show (p / pr r) % s * pr r + rk r (wd r p) = p
    rw [e2, e, Int.emod_eq_of_lt d0 d1]
    rw [Int.mul_comm]; exact em
theorem world_loop {f : Int × List Int → Int → Option (Int × List Int)} (hf : ∀ place turned size, f (place, turned) size = (modO place size).bind fun t => (appO turned t).bind fun tu => (divO place size).bind fun p => some (p, tu)) : ∀ (rs : List Int), Pos rs → pr rs ≤ big → ∀ (place : Int) (turned : List Int), turned.length + rs.length ≤ 1000 → ∃ q, forO f rs (place, turned) = some (q, turned ++ dg rs place)
  | [], _, _, place, turned, _ => ⟨place, by rw [forO_nil]; simp [dg]⟩
  | s :: rs, hz, hb, place, turned, hle => by
    have h1 := hz.head
    have hq := pr_pos hz.tail
    have h2 : s ≤ big := Int.le_trans (mem_le_pr hz List.mem_cons_self) hb
    have h3 : pr rs ≤ big := Int.le_trans (le_mul_left h1 (by omega)) hb
    rw [List.length_cons] at hle
    obtain ⟨q, e⟩ := world_loop hf rs hz.tail h3 (place / s) (turned ++ [place % s]) (by rw [List.length_append]; show turned.length + 1 + rs.length ≤ 1000; omega)
    refine ⟨q, ?_⟩
    have es : f (place, turned) s = some (place / s, turned ++ [place % s]) := by
      simp only [hf, modO_pos (show 0 < s by omega), divO_lo (show 0 < s by omega) (lo_big (by omega) h2), appO_ok (show turned.length < 16777216 by omega), Option.bind_some]
    rw [forO_cons, es]
    simp only [Option.bind_some]
    rw [e, List.append_assoc]; rfl
theorem rank_loop {f : Int → Int × Int → Option Int} (hf : ∀ place size value, f place (size, value) = (mulO place size).bind fun t => some (t + value)) : ∀ {s w : List Int} {a : Int}, Pos s → Fits s w → 0 ≤ a → (a + 1) * pr s ≤ big → forO f (s.zip w) a = some (a * pr s + rk s w)
  | [], [], a, _, _, _, _ => by simp [forO, pr, rk]
  | s :: r, v :: w, a, h, hw, ha, hb => by
    have h1 := h.head
    have hq := pr_pos h.tail
    obtain ⟨⟨v0, v1⟩, hw2⟩ := hw
    have e1 : (a + 1) * pr (s :: r) = (a * s + s) * pr r := by
      show (a + 1) * (s * pr r) = _
      rw [← Int.mul_assoc, Int.add_mul, Int.one_mul]
    have h2 : (a * s + v + 1) * pr r ≤ (a * s + s) * pr r := Int.mul_le_mul_of_nonneg_right (by omega) (by omega)
    have has : 0 ≤ a * s := Int.mul_nonneg ha (by omega)
    have h3 : a * s + s ≤ (a * s + s) * pr r := le_mul_right hq (by omega)
    have h4 : a ≤ a * s := le_mul_right h1 ha
    rw [List.zip_cons_cons, forO_cons, hf, mulO_lo (lo_big ha (by omega)) (lo_big (by omega) (by omega))]
    simp only [Option.bind_some]
    rw [rank_loop hf h.tail hw2 (by omega) (by omega)]
    congr 1
    show (a * s + v) * pr r + rk r w = a * (s * pr r) + (v * pr r + rk r w)
    rw [Int.add_mul, Int.mul_assoc, Int.add_assoc]
end Mir

namespace Mir
open PySem PySem.Spec L2
open ToD (toD)
set_option autoImplicit false
/-! ## mathematics of shapes -/
theorem insO_ok {α : Type} {xs : List α} {i : Int} {a : α} (h : xs.length < 16777216) (h0 : 0 ≤ i) (h1 : i < 9223372036854775808) : insO xs i a = some (xs.take i.toNat ++ [a] ++ xs.drop i.toNat) := if_pos ⟨h, h0, h1⟩
theorem ins_permG {α : Type} (xs : List α) (i : Nat) (a : α) : (xs.take i ++ [a] ++ xs.drop i).Perm (xs ++ [a]) := by
  have h1 : (xs.take i ++ [a] ++ xs.drop i).Perm (xs.take i ++ (xs.drop i ++ [a])) := by
    rw [List.append_assoc]
    exact List.Perm.append_left _ List.perm_append_comm
  rw [← List.append_assoc, List.take_append_drop] at h1
  exact h1
theorem app2O_ok {α : Type} {xss : List (List α)} {row : List α} {i : Int} {a : α} (h0 : 0 ≤ i) (h : xss[i.toNat]? = some row) (hl : row.length < 16777216) : app2O xss i a = some (xss.set i.toNat (row ++ [a])) := by
  have hi := (List.getElem?_eq_some_iff.mp h).1
  unfold app2O ixN
  rw [if_pos h0, if_pos (by omega), Option.bind_some, h, Option.bind_some]
  exact if_pos hl
theorem setO_ok {α : Type} {xs : List α} {i : Int} {a : α} (h0 : 0 ≤ i) (h : i < xs.length) : setO xs i a = some (xs.set i.toNat a) := by
  unfold setO ixN
  rw [if_pos h0, if_pos h]; rfl
theorem nodup_idx {α : Type} {xs : List α} {i j : Nat} {a : α} (nd : xs.Nodup) (hi : xs[i]? = some a) (hj : xs[j]? = some a) : i = j :=
  (List.getElem?_inj (List.getElem?_eq_some_iff.mp hi).1 nd).mp (hi.trans hj.symm)
theorem idxOf_at {α : Type} [DecidableEq α] {xs : List α} {i : Nat} {a : α} (nd : xs.Nodup) (hi : xs[i]? = some a) : xs.idxOf a = i := by
  have h := List.idxOf_lt_length_of_mem (List.mem_of_getElem? hi)
  refine nodup_idx nd (a := a) ?_ hi
  rw [List.getElem?_eq_getElem h, List.getElem_idxOf h]
/-- a shape of n things: rising causes, five at most, no ring -/
structure Shape (n : Int) (cs : List (List Int)) : Prop where
  len : (cs.length : Int) = n
  asc : ∀ row ∈ cs, row.Pairwise (· < ·)
  few : ∀ row ∈ cs, row.length ≤ 5
  dom : ∀ row ∈ cs, ∀ c ∈ row, 0 ≤ c ∧ c < n
  acy : ∃ rank : Int → Nat, ∀ (k : Int) (row : List Int) (c : Int), 0 ≤ k → cs[k.toNat]? = some row → c ∈ row → rank c < rank k
theorem srt_asc {xs : List Int} (h : xs.Nodup) : (srt xs).Pairwise (· < ·) := lt_of_le_nodup _ (srt_sorted xs) ((srt_perm xs).nodup_iff.mpr h)
theorem mem_srt {xs : List Int} {x : Int} : x ∈ srt xs ↔ x ∈ xs := (srt_perm xs).mem_iff
theorem asc_nodup {xs : List Int} (h : xs.Pairwise (· < ·)) : xs.Nodup := h.imp fun h => Int.ne_of_lt h
theorem nub_id : ∀ {xs : List Int}, xs.Nodup → nub xs = xs
  | [], _ => rfl
  | x :: xs, h => by
    obtain ⟨h1, h2⟩ := List.nodup_cons.mp h
    unfold nub
    rw [if_neg h1, nub_id h2]
theorem srt_id {xs : List Int} (h : xs.Pairwise (· ≤ ·)) : srt xs = xs := sorted_unique (srt_perm xs) (srt_sorted xs) h
theorem srtSet_asc {xs : List Int} (h : xs.Pairwise (· < ·)) (hl : xs.length < 64) : srtSetO xs = some xs := by
  unfold srtSetO
  rw [nub_id (asc_nodup h), if_pos ⟨by omega, hl⟩, srt_id (h.imp fun h => Int.le_of_lt h)]
theorem lenSet_nodup {xs : List Int} (h : xs.Nodup) (hl : xs.length < 4000) : lenSetO xs = some (xs.length : Int) := by
  unfold lenSetO
  rw [nub_id h, if_pos (by omega)]
/-- what the drawing of a shape keeps: the rows of the things of an order -/
structure Drawn (order : List Int) (cs : List (List Int)) (at_ : Nat) : Prop where
  len : cs.length = order.length
  row : ∀ (j : Nat) (x : Int), order[j]? = some x → ∃ row, cs[x.toNat]? = some row ∧ row.Sublist (order.take j) ∧ row.length ≤ 5 ∧ (at_ ≤ j → row = [])
theorem order_idx {n : Int} {order : List Int} (h : order.Perm (rng 0 n)) {i j : Nat} {x y : Int} (hi : order[i]? = some x) (hj : order[j]? = some y) (e : x.toNat = y.toNat) : i = j := by
  have hx := mem_rng.mp (h.mem_iff.mp (List.mem_of_getElem? hi))
  have hy := mem_rng.mp (h.mem_iff.mp (List.mem_of_getElem? hj))
  have : x = y := by omega
  subst this
  have nd : order.Nodup := h.nodup_iff.mpr (rng_nodup 0 n)
  exact nodup_idx nd hi hj
theorem order_all {n : Int} {order : List Int} (h : order.Perm (rng 0 n)) {k : Nat} (hk : (k : Int) < n) : ∃ j : Nat, order[j]? = some (k : Int) :=
  List.mem_iff_getElem?.mp (h.mem_iff.mpr (mem_rng.mpr ⟨by omega, hk⟩))
theorem order_len {n : Int} {order : List Int} (h : order.Perm (rng 0 n)) : order.length = n.toNat := by rw [h.length_eq, rng_len]; omega
theorem drawn_shape {n : Int} {order : List Int} {cs : List (List Int)} {a : Nat} (h0 : 0 ≤ n) (h : order.Perm (rng 0 n)) (d : Drawn order cs a) : Shape n (cs.map srt) := by
  have hlen := order_len h
  have hcs : cs.length = n.toNat := by rw [d.len, hlen]
  have nd : order.Nodup := h.nodup_iff.mpr (rng_nodup 0 n)
  have key : ∀ (k : Nat) (row : List Int), cs[k]? = some row → ∃ j, order[j]? = some (k : Int) ∧ row.Sublist (order.take j) ∧ row.length ≤ 5 := by
    intro k row hk
    have hk' := (List.getElem?_eq_some_iff.mp hk).1
    obtain ⟨j, hj⟩ := order_all h (k := k) (by omega)
    obtain ⟨row', e, s, l, _⟩ := d.row j _ hj
    rw [show ((k : Int)).toNat = k by omega, hk] at e
    cases e
    exact ⟨j, hj, s, l⟩
  have keyM : ∀ row ∈ cs.map srt, ∃ (k j : Nat) (r : List Int), cs[k]? = some r ∧ row = srt r ∧ order[j]? = some (k : Int) ∧ r.Sublist (order.take j) ∧ r.length ≤ 5 := by
    intro row hr
    obtain ⟨r, hm, rfl⟩ := List.mem_map.mp hr
    obtain ⟨k, hk⟩ := List.mem_iff_getElem?.mp hm
    obtain ⟨j, h1, h2, h3⟩ := key k r hk
    exact ⟨k, j, r, hk, rfl, h1, h2, h3⟩
  refine ⟨by rw [List.length_map, hcs]; omega, fun row hr => ?_, fun row hr => ?_, fun row hr c hc => ?_, ?_⟩
  · obtain ⟨k, j, r, _, rfl, _, s, _⟩ := keyM row hr
    exact srt_asc (List.Nodup.sublist (s.trans (List.take_sublist _ _)) nd)
  · obtain ⟨k, j, r, _, rfl, _, s, l⟩ := keyM row hr
    rw [srt_len]; exact l
  · obtain ⟨k, j, r, _, rfl, _, s, l⟩ := keyM row hr
    exact mem_rng.mp (h.mem_iff.mp ((s.trans (List.take_sublist _ _)).subset (mem_srt.mp hc)))
  · refine ⟨fun c => order.idxOf c, fun k row c k0 hk hc => ?_⟩
    rw [List.getElem?_map] at hk
    obtain ⟨r, hr, rfl⟩ := Option.map_eq_some_iff.mp hk
    obtain ⟨j, h1, s, _⟩ := key _ r hr
    rw [show ((k.toNat : Nat) : Int) = k by omega] at h1
    have hcj : c ∈ order.take j := s.subset (mem_srt.mp hc)
    have e1 : order.idxOf k = j := idxOf_at nd h1
    obtain ⟨i, hi⟩ := List.mem_iff_getElem?.mp hcj
    rw [List.getElem?_take] at hi
    split at hi
    · rename_i hij
      have e4 : order.idxOf c = i := idxOf_at nd hi
      show order.idxOf c < order.idxOf k
      rw [e1, e4]; exact hij
    · cases hi
def rowAt (cs : List (List Int)) (k : Int) : List Int := cs.getD k.toNat []
theorem atI_row {cs : List (List Int)} {k : Int} (h0 : 0 ≤ k) (h : k < cs.length) : atI cs k = some (rowAt cs k) := by
  rw [atI_ok h0 h]
  unfold rowAt
  rw [List.getD_eq_getElem?_getD, List.getElem?_eq_getElem (by omega)]; rfl
theorem Shape.at {n : Int} {cs : List (List Int)} (S : Shape n cs) {k : Int} (h0 : 0 ≤ k) (h : k < n) : atI cs k = some (rowAt cs k) := atI_row h0 (by rw [S.len]; exact h)
theorem rowAt_get {cs : List (List Int)} {k : Int} (h : k.toNat < cs.length) : cs[k.toNat]? = some (rowAt cs k) := by
  unfold rowAt
  rw [List.getD_eq_getElem?_getD, List.getElem?_eq_getElem h]; rfl
theorem Shape.get {n : Int} {cs : List (List Int)} (S : Shape n cs) {k : Int} (h0 : 0 ≤ k) (h : k < n) : cs[k.toNat]? = some (rowAt cs k) := rowAt_get (by have := S.len; omega)
theorem Shape.mem {n : Int} {cs : List (List Int)} (S : Shape n cs) {k : Int} (h0 : 0 ≤ k) (h : k < n) : rowAt cs k ∈ cs := List.mem_of_getElem? (S.get h0 h)
theorem Shape.dom' {n : Int} {cs : List (List Int)} (S : Shape n cs) {k c : Int} (h0 : 0 ≤ k) (h : k < n) (hc : c ∈ rowAt cs k) : 0 ≤ c ∧ c < n := S.dom _ (S.mem h0 h) c hc
theorem Shape.rank {n : Int} {cs : List (List Int)} (S : Shape n cs) : ∃ rank : Int → Nat, ∀ k c, 0 ≤ k → k < n → c ∈ rowAt cs k → rank c < rank k := by
  obtain ⟨rank, h⟩ := S.acy
  exact ⟨rank, fun k c h0 h1 hc => h k _ c h0 (S.get h0 h1) hc⟩
theorem Shape.eq {n : Int} {cs : List (List Int)} (S : Shape n cs) : cs = (rng 0 n).map (rowAt cs) := by
  apply List.ext_getElem?
  intro i
  rw [List.getElem?_map]
  have := S.len
  by_cases h : i < cs.length
  · rw [rng_idx (by omega)]
    show cs[i]? = some (rowAt cs (i : Int))
    have := rowAt_get (cs := cs) (k := (i : Int)) (by simpa using h)
    simpa using this
  · rw [List.getElem?_eq_none (by omega), List.getElem?_eq_none (by rw [rng_len]; omega)]; rfl
theorem all_true : ∀ {α : Type} (xs : List α), (xs.map fun _ => true).all id = true
  | _, [] => rfl
  | _, _ :: xs => by simp
theorem mapO_id {α : Type} (xs : List α) : mapO (fun x => some x) xs = some xs := by
  have := mapO_ok (f := fun x : α => some x) (g := fun x => x) (xs := xs) fun _ _ => rfl
  rw [this, List.map_id']
end Mir

namespace Mir
open PySem PySem.Spec L2
open ToD (toD)
set_option autoImplicit false
/-! ## mathematics of ways of arrows -/
inductive Star {α : Type} (R : α → α → Prop) : α → α → Prop
  | refl (a : α) : Star R a a
  | step {a b c : α} : Star R a b → R b c → Star R a c
theorem Star.head {α : Type} {R : α → α → Prop} {a b c : α} (h : R a b) (s : Star R b c) : Star R a c := by
  induction s with
  | refl => exact .step (.refl _) h
  | step _ r ih => exact .step ih r
theorem Star.trans {α : Type} {R : α → α → Prop} {a b c : α} (s : Star R a b) (t : Star R b c) : Star R a c := by
  induction t with
  | refl => exact s
  | step _ r ih => exact .step ih r
theorem Star.rev {α : Type} {R : α → α → Prop} {a b : α} (s : Star R a b) : Star (fun x y => R y x) b a := by
  induction s with
  | refl => exact .refl _
  | step _ r ih => exact Star.head r ih
theorem Star.closed {α : Type} {R : α → α → Prop} {P : α → Prop} {a b : α} (s : Star R a b) (h : P a) (hc : ∀ x y, P x → R x y → P y) : P b := by
  induction s with
  | refl => exact h
  | step _ r ih => exact hc _ _ ih r
theorem Star.mono {α : Type} {R R' : α → α → Prop} {a b : α} (s : Star R a b) (h : ∀ x y, R x y → R' x y) : Star R' a b := by
  induction s with
  | refl => exact .refl _
  | step _ r ih => exact .step ih (h _ _ r)
theorem nodup_len_le {α : Type} [DecidableEq α] : ∀ {xs ys : List α}, xs.Nodup → (∀ x ∈ xs, x ∈ ys) → xs.length ≤ ys.length
  | [], _, _, _ => Nat.zero_le _
  | a :: xs, ys, nd, h => by
    obtain ⟨h1, h2⟩ := List.nodup_cons.mp nd
    have ha := h a List.mem_cons_self
    have ih := nodup_len_le (ys := ys.erase a) h2 fun x hx => (List.mem_erase_of_ne (fun z : x = a => h1 (by rw [← z]; exact hx))).mpr (h x (List.mem_cons_of_mem _ hx))
    have hl := List.length_erase_of_mem ha
    have : 0 < ys.length := List.length_pos_of_mem ha
    rw [List.length_cons]; omega
/-- at most so many unlike numbers below n -/
theorem nodup_le {n : Int} {xs : List Int} (nd : xs.Nodup) (h : ∀ x ∈ xs, 0 ≤ x ∧ x < n) : (xs.length : Int) ≤ n ∨ xs = [] := by
  cases xs with
  | nil => exact .inr rfl
  | cons a r =>
    left
    have h1 : (a :: r).length ≤ (rng 0 n).length := nodup_len_le nd fun x hx => mem_rng.mpr (h x hx)
    have h0 := (h a List.mem_cons_self)
    rw [rng_len] at h1
    omega
theorem asc_ext : ∀ {xs ys : List Int}, xs.Pairwise (· < ·) → ys.Pairwise (· < ·) → (∀ k, k ∈ xs ↔ k ∈ ys) → xs = ys := fun {xs ys} hx hy h =>
  sorted_unique ((List.perm_ext_iff_of_nodup (asc_nodup hx) (asc_nodup hy)).mpr h) (hx.imp fun h => Int.le_of_lt h) (hy.imp fun h => Int.le_of_lt h)
theorem search_go {n : Nat} {next : Int → List Int} {c : (List Int × List Int) → Option Bool} {f : (List Int × List Int) → Option (List Int × List Int)} (hc : ∀ found lft : List Int, c (found, lft) = some (!decide (lft = [])))
    (hf : ∀ (found lft : List Int) (k : Int), 0 ≤ k → k < n → found.length ≤ n → lft.length ≤ 2000000 → f (found, lft ++ [k]) = some (if k ∈ found then (found, lft) else (found ++ [k], lft ++ next k)))
    (hn : n ≤ 1000) (hnext : ∀ k : Int, 0 ≤ k → k < n → (next k).length ≤ n ∧ ∀ x ∈ next k, 0 ≤ x ∧ x < n) (R : Int → Prop) (hR : ∀ k : Int, R k → ∀ x ∈ next k, R x) (some_ : List Int) :
    ∀ (m : Nat) (found lft : List Int), (n - found.length) * (n + 1) + lft.length ≤ m → found.Nodup → (∀ x ∈ found, 0 ≤ x ∧ x < n) → (∀ x ∈ lft, 0 ≤ x ∧ x < n) → lft.length ≤ 1000 + found.length * n → (∀ x ∈ found, R x) → (∀ x ∈ lft, R x) → (∀ k ∈ found, ∀ x ∈ next k, x ∈ found ∨ x ∈ lft) → (∀ x ∈ some_, x ∈ found ∨ x ∈ lft) →
      ∃ fin, whileO c f (found, lft) = some (fin, []) ∧ fin.Nodup ∧ (∀ x ∈ fin, 0 ≤ x ∧ x < n) ∧ (∀ x ∈ fin, R x) ∧ (∀ k ∈ fin, ∀ x ∈ next k, x ∈ fin) ∧ ∀ x ∈ some_, x ∈ fin := by
  intro m
  induction m with
  | zero =>
    intro found lft hm nd h1 h2 h3 h4 h5 h6 h7
    have : lft = [] := List.length_eq_zero_iff.mp (by omega)
    subst this
    exact ⟨found, whileO_false (by rw [hc]; rfl), nd, h1, h4, fun k hk x hx => (h6 k hk x hx).resolve_right (by simp), fun x hx => (h7 x hx).resolve_right (by simp)⟩
  | succ m ih =>
    intro found lft hm nd h1 h2 h3 h4 h5 h6 h7
    by_cases hl : lft = []
    · subst hl
      exact ⟨found, whileO_false (by rw [hc]; rfl), nd, h1, h4, fun k hk x hx => (h6 k hk x hx).resolve_right (by simp), fun x hx => (h7 x hx).resolve_right (by simp)⟩
    · obtain ⟨l', k, rfl⟩ : ∃ l' k, lft = l' ++ [k] := ⟨lft.dropLast, lft.getLast hl, (List.dropLast_concat_getLast hl).symm⟩
      have hk := h2 k (by simp)
      have hfl : found.length ≤ n := by
        rcases nodup_le nd h1 with h | h
        · omega
        · rw [h]; exact Nat.zero_le _
      have hmul : found.length * n ≤ 1000 * 1000 := Nat.mul_le_mul (by omega) hn
      have hst := hf found l' k hk.1 hk.2 hfl (by rw [List.length_append] at h3; simp at h3; omega)
      have hct : c (found, l' ++ [k]) = some true := by rw [hc]; simp
      by_cases hin : k ∈ found
      · rw [if_pos hin] at hst
        obtain ⟨fin, e, q⟩ := ih found l' (by rw [List.length_append] at hm; simp at hm; omega) nd h1 (fun x hx => h2 x (by simp [hx])) (by rw [List.length_append] at h3; simp at h3; omega) h4 (fun x hx => h5 x (by simp [hx]))
          (fun j hj x hx => by
            rcases h6 j hj x hx with h | h
            · exact .inl h
            · rcases List.mem_append.mp h with h | h
              · exact .inr h
              · rw [List.mem_singleton.mp h]; exact .inl hin)
          (fun x hx => by
            rcases h7 x hx with h | h
            · exact .inl h
            · rcases List.mem_append.mp h with h | h
              · exact .inr h
              · rw [List.mem_singleton.mp h]; exact .inl hin)
        exact ⟨fin, whileO_true hct hst e, q⟩
      · rw [if_neg hin] at hst
        obtain ⟨hn1, hn2⟩ := hnext k hk.1 hk.2
        have hlt : found.length < n := by
          have nd2 : (k :: found).Nodup := List.nodup_cons.mpr ⟨hin, nd⟩
          rcases nodup_le nd2 (fun x hx => by
            rcases List.mem_cons.mp hx with rfl | hx
            · exact hk
            · exact h1 x hx) with h | h
          · simp at h; omega
          · cases h
        have e1 : (n - found.length) * (n + 1) = (n - (found.length + 1)) * (n + 1) + (n + 1) := by
          rw [show n - found.length = (n - (found.length + 1)) + 1 by omega, Nat.add_mul, Nat.one_mul]
        have e2 : (found.length + 1) * n = found.length * n + n := by rw [Nat.add_mul, Nat.one_mul]
        obtain ⟨fin, e, q⟩ := ih (found ++ [k]) (l' ++ next k) (by
            rw [List.length_append] at hm ⊢
            rw [List.length_append]
            simp only [List.length_cons, List.length_nil] at hm ⊢
            rw [Nat.zero_add]
            omega) (by
            rw [List.nodup_append]
            exact ⟨nd, by simp, fun a ha b hb => by rw [List.mem_singleton.mp hb]; exact fun z => hin (z ▸ ha)⟩) (fun x hx => by
            rcases List.mem_append.mp hx with hx | hx
            · exact h1 x hx
            · rw [List.mem_singleton.mp hx]; exact hk) (fun x hx => by
            rcases List.mem_append.mp hx with hx | hx
            · exact h2 x (by simp [hx])
            · exact hn2 x hx) (by
            rw [List.length_append] at h3 ⊢
            rw [List.length_append]
            simp only [List.length_cons, List.length_nil] at h3 ⊢
            rw [Nat.zero_add, e2]
            omega) (fun x hx => by
            rcases List.mem_append.mp hx with hx | hx
            · exact h4 x hx
            · rw [List.mem_singleton.mp hx]; exact h5 k (by simp)) (fun x hx => by
            rcases List.mem_append.mp hx with hx | hx
            · exact h5 x (by simp [hx])
            · exact hR k (h5 k (by simp)) x hx)
          (fun j hj x hx => by
            rcases List.mem_append.mp hj with hj | hj
            · rcases h6 j hj x hx with h | h
              · exact .inl (by simp [h])
              · rcases List.mem_append.mp h with h | h
                · exact .inr (by simp [h])
                · rw [List.mem_singleton.mp h]; exact .inl (by simp)
            · rw [List.mem_singleton.mp hj] at hx
              exact .inr (by simp [hx]))
          (fun x hx => by
            rcases h7 x hx with h | h
            · exact .inl (by simp [h])
            · rcases List.mem_append.mp h with h | h
              · exact .inr (by simp [h])
              · rw [List.mem_singleton.mp h]; exact .inl (by simp))
        exact ⟨fin, whileO_true hct hst e, q⟩
/-- a search that takes the last of what is left -/
theorem search_ok {n : Nat} {next : Int → List Int} {c : (List Int × List Int) → Option Bool} {f : (List Int × List Int) → Option (List Int × List Int)} (hc : ∀ found lft : List Int, c (found, lft) = some (!decide (lft = [])))
    (hf : ∀ (found lft : List Int) (k : Int), 0 ≤ k → k < n → found.length ≤ n → lft.length ≤ 2000000 → f (found, lft ++ [k]) = some (if k ∈ found then (found, lft) else (found ++ [k], lft ++ next k)))
    (hn : n ≤ 1000) (hnext : ∀ k : Int, 0 ≤ k → k < n → (next k).length ≤ n ∧ ∀ x ∈ next k, 0 ≤ x ∧ x < n) {some_ : List Int} (hs : ∀ x ∈ some_, 0 ≤ x ∧ x < n) (hl : some_.length ≤ 1000) :
    ∃ fin, whileO c f ([], some_) = some (fin, []) ∧ fin.Nodup ∧ (∀ x ∈ fin, 0 ≤ x ∧ x < n) ∧ ∀ x, x ∈ fin ↔ ∃ s ∈ some_, Star (fun a b => b ∈ next a) s x := by
  obtain ⟨fin, e, nd, h1, h2, h3, h4⟩ := search_go hc hf hn hnext (fun x => ∃ s ∈ some_, Star (fun a b => b ∈ next a) s x) (fun k ⟨s, hs, r⟩ x hx => ⟨s, hs, .step r hx⟩) some_ _ [] some_ (Nat.le_refl _) List.nodup_nil (fun x h => by cases h) hs (by simpa using hl) (fun x h => by cases h) (fun x hx => ⟨x, hx, .refl _⟩) (fun x h => by cases h) (fun x hx => .inr hx)
  exact ⟨fin, e, nd, h1, fun x => ⟨h2 x, fun ⟨s, hs, r⟩ => r.closed (P := fun y => y ∈ fin) (h4 s hs) fun a b ha hb => h3 a ha b hb⟩⟩
/-! ### rounds: each adds what has something found ahead of it -/
def addR (cs : List (List Int)) (found : List Int) (k : Int) : List Int := if k ∉ found ∧ ∃ c ∈ rowAt cs k, c ∈ found then found ++ [k] else found
theorem addR_pre (cs : List (List Int)) (found : List Int) (k : Int) : found <+: addR cs found k := by
  unfold addR
  split
  · exact List.prefix_append _ _
  · exact List.prefix_refl _
def roundR (cs : List (List Int)) (ks : List Int) (found : List Int) : List Int := ks.foldl (addR cs) found
theorem roundR_pre (cs : List (List Int)) : ∀ (ks found : List Int), found <+: roundR cs ks found
  | [], found => List.prefix_refl _
  | k :: ks, found => (addR_pre cs found k).trans (roundR_pre cs ks _)
theorem roundR_same (cs : List (List Int)) : ∀ (ks found : List Int), (roundR cs ks found).length = found.length → ∀ k ∈ ks, (∃ c ∈ rowAt cs k, c ∈ found) → k ∈ found
  | k :: ks, found, h, j, hj, hc => by
    have h1 := (addR_pre cs found k).length_le
    have h2 := (roundR_pre cs ks (addR cs found k)).length_le
    have h' : (roundR cs ks (addR cs found k)).length = found.length := h
    have e : addR cs found k = found := ((addR_pre cs found k).eq_of_length (by omega)).symm
    rcases List.mem_cons.mp hj with rfl | hj
    · by_cases hin : j ∈ found
      · exact hin
      · unfold addR at e
        rw [if_pos ⟨hin, hc⟩] at e
        have := congrArg List.length e
        simp at this
    · rw [e] at h'
      exact roundR_same cs ks found h' j hj hc
def Dn (cs : List (List Int)) (n : Int) (a b : Int) : Prop := 0 ≤ b ∧ b < n ∧ a ∈ rowAt cs b
structure LowInv (cs : List (List Int)) (n : Int) (x : Int) (found : List Int) : Prop where
  nd : found.Nodup
  dom : ∀ k ∈ found, 0 ≤ k ∧ k < n
  reach : ∀ k ∈ found, Star (Dn cs n) x k
  start : x ∈ found
theorem LowInv.add {cs : List (List Int)} {n x : Int} {found : List Int} (h : LowInv cs n x found) {k : Int} (k0 : 0 ≤ k) (k1 : k < n) : LowInv cs n x (addR cs found k) := by
  unfold addR
  split
  · rename_i hk
    obtain ⟨hk, c, hc, hf⟩ := hk
    refine ⟨?_, fun j hj => ?_, fun j hj => ?_, by simp [h.start]⟩
    · rw [List.nodup_append]
      exact ⟨h.nd, by simp, fun a ha b hb => by rw [List.mem_singleton.mp hb]; exact fun z => hk (z ▸ ha)⟩
    · rcases List.mem_append.mp hj with hj | hj
      · exact h.dom j hj
      · rw [List.mem_singleton.mp hj]; exact ⟨k0, k1⟩
    · rcases List.mem_append.mp hj with hj | hj
      · exact h.reach j hj
      · rw [List.mem_singleton.mp hj]; exact .step (h.reach c hf) ⟨k0, k1, hc⟩
  · exact h
theorem LowInv.round {cs : List (List Int)} {n x : Int} : ∀ {ks found : List Int}, LowInv cs n x found → (∀ k ∈ ks, 0 ≤ k ∧ k < n) → LowInv cs n x (roundR cs ks found)
  | [], found, h, _ => h
  | k :: ks, found, h, hk => LowInv.round (ks := ks) (found := addR cs found k) (h.add (hk k List.mem_cons_self).1 (hk k List.mem_cons_self).2) fun j hj => hk j (List.mem_cons_of_mem _ hj)
def roundsR (cs : List (List Int)) (ks : List Int) : Nat → List Int → List Int
  | 0, found => found
  | t + 1, found => roundsR cs ks t (roundR cs ks found)
theorem rounds_fix (cs : List (List Int)) (ks : List Int) : ∀ (t : Nat) (found : List Int), roundR cs ks found = found → roundsR cs ks t found = found
  | 0, _, _ => rfl
  | t + 1, found, h => by
    show roundsR cs ks t (roundR cs ks found) = found
    rw [h]; exact rounds_fix cs ks t found h
theorem rounds_grow (cs : List (List Int)) (ks : List Int) : ∀ (t : Nat) (found : List Int), roundR cs ks (roundsR cs ks t found) = roundsR cs ks t found ∨ found.length + t ≤ (roundsR cs ks t found).length
  | 0, found => .inr (Nat.le_refl _)
  | t + 1, found => by
    have hp := roundR_pre cs ks found
    by_cases h : (roundR cs ks found).length = found.length
    · have e : roundR cs ks found = found := (hp.eq_of_length h.symm).symm
      rw [rounds_fix cs ks (t + 1) found e]
      exact .inl e
    · have := hp.length_le
      rcases rounds_grow cs ks t (roundR cs ks found) with h1 | h1
      · exact .inl h1
      · refine .inr ?_
        show found.length + (t + 1) ≤ (roundsR cs ks t (roundR cs ks found)).length
        omega
theorem LowInv.rounds {cs : List (List Int)} {n x : Int} {ks : List Int} (hk : ∀ k ∈ ks, 0 ≤ k ∧ k < n) : ∀ (t : Nat) {found : List Int}, LowInv cs n x found → LowInv cs n x (roundsR cs ks t found)
  | 0, _, h => h
  | t + 1, _, h => LowInv.rounds hk t (h.round hk)
/-- n rounds find all that is beneath -/
theorem rounds_ok {cs : List (List Int)} {n x : Int} (x0 : 0 ≤ x) (x1 : x < n) : let fin := roundsR cs (rng 0 n) n.toNat [x]
    fin.Nodup ∧ (∀ k ∈ fin, 0 ≤ k ∧ k < n) ∧ ∀ k, k ∈ fin ↔ Star (Dn cs n) x k := by
  intro fin
  have hk : ∀ k ∈ rng 0 n, 0 ≤ k ∧ k < n := fun k hk => mem_rng.mp hk
  have h0 : LowInv cs n x [x] := ⟨by simp, fun k hk => by rw [List.mem_singleton.mp hk]; exact ⟨x0, x1⟩, fun k hk => by rw [List.mem_singleton.mp hk]; exact .refl _, by simp⟩
  have h : LowInv cs n x fin := LowInv.rounds hk n.toNat h0
  have hle : (fin.length : Int) ≤ n := by
    rcases nodup_le h.nd h.dom with h | h
    · exact h
    · rw [h]; show ((0 : Nat) : Int) ≤ n; omega
  have fix : roundR cs (rng 0 n) fin = fin := by
    rcases rounds_grow cs (rng 0 n) n.toNat [x] with h1 | h1
    · exact h1
    · have : [x].length + n.toNat ≤ fin.length := h1
      simp at this; omega
  refine ⟨h.nd, h.dom, fun k => ⟨h.reach k, fun s => s.closed (P := fun y => y ∈ fin) h.start fun a b ha hb => ?_⟩⟩
  exact roundR_same cs (rng 0 n) fin (by rw [fix]) b (mem_rng.mpr ⟨hb.1, hb.2.1⟩) ⟨a, hb.2.2, ha⟩
theorem popO_snoc {α : Type} (xs : List α) (a : α) : popO (xs ++ [a]) = some (a, xs) := by
  unfold popO
  rw [List.length_append]
  simp
def eff (cs : List (List Int)) (k : Int) : List Int := (rng 0 cs.length).filter fun e => isIn k (rowAt cs e)
theorem mem_eff {cs : List (List Int)} {k e : Int} : e ∈ eff cs k ↔ (0 ≤ e ∧ e < cs.length) ∧ k ∈ rowAt cs e := by
  unfold eff
  rw [List.mem_filter, mem_rng, isIn_iff]
theorem eff_asc (cs : List (List Int)) (k : Int) : (eff cs k).Pairwise (· < ·) := (rng_pw 0 _).filter _
theorem eff_len (cs : List (List Int)) (k : Int) : (eff cs k).length ≤ cs.length := by
  have := List.length_filter_le (fun e => isIn k (rowAt cs e)) (rng 0 cs.length)
  rw [rng_len] at this
  unfold eff; omega
/-- up the arrows, down the arrows -/
def Up (cs : List (List Int)) (a b : Int) : Prop := b ∈ rowAt cs a
theorem star_down {n : Int} {cs : List (List Int)} (S : Shape n cs) {a b : Int} (h : Star (Up cs) b a) (h0 : 0 ≤ b) (h1 : b < n) : (0 ≤ a ∧ a < n) ∧ Star (Dn cs n) a b := by
  have hd : 0 ≤ a ∧ a < n := h.closed (P := fun x => 0 ≤ x ∧ x < n) ⟨h0, h1⟩ fun x y hx hy => S.dom' hx.1 hx.2 hy
  refine ⟨hd, ?_⟩
  have key : ∀ {b a : Int}, Star (Up cs) b a → 0 ≤ b → b < n → Star (Dn cs n) a b ∧ 0 ≤ a ∧ a < n := by
    intro b a h
    induction h with
    | refl => intro h0 h1; exact ⟨.refl _, h0, h1⟩
    | step _ r ih =>
      intro h0 h1
      obtain ⟨s, q0, q1⟩ := ih h0 h1
      exact ⟨Star.head ⟨q0, q1, r⟩ s, S.dom' q0 q1 r⟩
  exact (key h h0 h1).1
theorem star_up {n : Int} {cs : List (List Int)} {a b : Int} (h : Star (Dn cs n) a b) : Star (Up cs) b a := by
  induction h with
  | refl => exact .refl _
  | step _ r ih => exact Star.head r.2.2 ih
theorem star_eff {n : Int} {cs : List (List Int)} (hl : (cs.length : Int) = n) {a b : Int} : Star (fun x y => y ∈ eff cs x) a b ↔ Star (Dn cs n) a b :=
  ⟨fun h => h.mono fun x y hy => by
    obtain ⟨⟨h0, h1⟩, h2⟩ := mem_eff.mp hy
    exact ⟨h0, by omega, h2⟩, fun h => h.mono fun x y ⟨h0, h1, h2⟩ => mem_eff.mpr ⟨⟨h0, by omega⟩, h2⟩⟩
end Mir

namespace Mir
open PySem PySem.Spec L2
open ToD (toD)
set_option autoImplicit false
/-! ## mathematics of books -/
theorem sum_nonneg : ∀ {xs : List Int}, (∀ x ∈ xs, 0 ≤ x) → 0 ≤ xs.sum
  | [], _ => by simp
  | x :: xs, h => by
    have h1 := h x List.mem_cons_self
    have h2 := sum_nonneg fun y hy => h y (List.mem_cons_of_mem _ hy)
    rw [List.sum_cons]; omega
theorem le_sum : ∀ {xs : List Int} {x : Int}, (∀ x ∈ xs, 0 ≤ x) → x ∈ xs → x ≤ xs.sum
  | y :: xs, x, h, hx => by
    have h1 := h y List.mem_cons_self
    have h2 := sum_nonneg fun y hy => h y (List.mem_cons_of_mem _ hy)
    rw [List.sum_cons]
    rcases List.mem_cons.mp hx with rfl | hx
    · omega
    · have := le_sum (fun y hy => h y (List.mem_cons_of_mem _ hy)) hx
      omega
theorem sum_le : ∀ {xs : List Int} {b : Int}, (∀ x ∈ xs, x ≤ b) → xs.sum ≤ b * xs.length
  | [], b, _ => by simp
  | x :: xs, b, h => by
    have h1 := h x List.mem_cons_self
    have h2 := sum_le fun y hy => h y (List.mem_cons_of_mem _ hy)
    rw [List.sum_cons, List.length_cons, Int.natCast_add, Int.mul_add]
    omega
def at0 (xs : List Int) (k : Int) : Int := xs.getD k.toNat 0
theorem atI_at0 {xs : List Int} {k : Int} (h0 : 0 ≤ k) (h : k < xs.length) : atI xs k = some (at0 xs k) := by
  rw [atI_ok h0 h]
  unfold at0
  rw [List.getD_eq_getElem?_getD, List.getElem?_eq_getElem (by omega)]; rfl
theorem at0_mem {xs : List Int} {k : Int} (h0 : 0 ≤ k) (h : k < xs.length) : at0 xs k ∈ xs := by
  have : xs[k.toNat]? = some (at0 xs k) := by
    unfold at0
    rw [List.getD_eq_getElem?_getD, List.getElem?_eq_getElem (by omega)]; rfl
  exact List.mem_of_getElem? this
/-- a row of weights -/
structure GRow (size : Int) (row : List Int) : Prop where
  len : (row.length : Int) = size
  lo : ∀ w ∈ row, 0 ≤ w
  hi : ∀ w ∈ row, w < big
  pos : 0 < row.sum
/-- a book of n things -/
structure GBook (n : Int) (sizes : List Int) (causes : List (List Int)) (tables : List (List (List Int))) : Prop where
  shape : Shape n causes
  slen : (sizes.length : Int) = n
  size : ∀ s ∈ sizes, 2 ≤ s ∧ s ≤ 4
  tlen : (tables.length : Int) = n
  table : ∀ k : Int, 0 ≤ k → k < n → ∃ t, atI tables k = some t ∧ (t.length : Int) = pr ((rowAt causes k).map (at0 sizes)) ∧ ∀ row ∈ t, GRow (at0 sizes k) row
theorem GBook.at {n : Int} {sizes : List Int} {causes : List (List Int)} {tables : List (List (List Int))} (B : GBook n sizes causes tables) {k : Int} (h0 : 0 ≤ k) (h : k < n) : atI sizes k = some (at0 sizes k) ∧ 2 ≤ at0 sizes k ∧ at0 sizes k ≤ 4 := by
  have hl := B.slen
  exact ⟨atI_at0 h0 (by omega), B.size _ (at0_mem h0 (by omega))⟩
theorem pr_le : ∀ {xs : List Int} {b : Int}, (∀ x ∈ xs, 1 ≤ x ∧ x ≤ b) → 1 ≤ b → pr xs ≤ b ^ xs.length
  | [], b, _, _ => by simp [pr]
  | x :: xs, b, h, hb => by
    have h1 := h x List.mem_cons_self
    have h2 := pr_le (fun y hy => h y (List.mem_cons_of_mem _ hy)) hb
    have hp : 1 ≤ pr xs := pr_pos fun y hy => (h y (List.mem_cons_of_mem _ hy)).1
    show x * pr xs ≤ b ^ (xs.length + 1)
    rw [Int.pow_succ, Int.mul_comm]
    exact Int.mul_le_mul h2 h1.2 (by omega) (by omega)
theorem pr_le5 {xs : List Int} (h : ∀ x ∈ xs, 1 ≤ x ∧ x ≤ 4) (hl : xs.length ≤ 5) : pr xs ≤ 1024 := by
  have h1 := pr_le h (by decide)
  have h2 : (4 : Int) ^ xs.length ≤ 1024 := by
    have : xs.length = 0 ∨ xs.length = 1 ∨ xs.length = 2 ∨ xs.length = 3 ∨ xs.length = 4 ∨ xs.length = 5 := by omega
    rcases this with e | e | e | e | e | e <;> rw [e] <;> decide
  omega
/-- the values of a thing's causes in a world fit their sizes -/
theorem fits_map {sizes world : List Int} : ∀ {cs : List Int}, (∀ c ∈ cs, 0 ≤ at0 world c ∧ at0 world c < at0 sizes c) → Fits (cs.map (at0 sizes)) (cs.map (at0 world))
  | [], _ => trivial
  | c :: cs, h => ⟨h c List.mem_cons_self, fits_map fun x hx => h x (List.mem_cons_of_mem _ hx)⟩
/-- a world of a book -/
structure GWorld (n : Int) (sizes world : List Int) : Prop where
  len : (world.length : Int) = n
  val : ∀ k, 0 ≤ k → k < n → 0 ≤ at0 world k ∧ at0 world k < at0 sizes k
end Mir

namespace Mir
open PySem PySem.Spec L2
open ToD (toD)
set_option autoImplicit false
/-! ## more of books -/
theorem mapO_rel {α β : Type} {f : α → Option β} {R : α → β → Prop} : ∀ {xs : List α}, (∀ x ∈ xs, ∃ y, f x = some y ∧ R x y) → ∃ ys, mapO f xs = some ys ∧ ys.length = xs.length ∧ ∀ (i : Nat) (x : α), xs[i]? = some x → ∃ y, ys[i]? = some y ∧ R x y
  | [], _ => ⟨[], rfl, rfl, fun i x h => by simp at h⟩
  | x :: xs, h => by
    obtain ⟨y, e, r⟩ := h x List.mem_cons_self
    obtain ⟨ys, e2, l, r2⟩ := mapO_rel (xs := xs) fun z hz => h z (List.mem_cons_of_mem _ hz)
    refine ⟨y :: ys, by simp [mapO, e, e2], by simp [l], fun i z hz => ?_⟩
    cases i with
    | zero =>
      have : x = z := by simpa using hz
      subst this
      exact ⟨y, rfl, r⟩
    | succ i => simpa using r2 i z (by simpa using hz)
/-- what a map over 0, .., n - 1 finds -/
theorem mapO_rng {β : Type} {f : Int → Option β} {n : Int} {R : Int → β → Prop} (h : ∀ k, 0 ≤ k → k < n → ∃ y, f k = some y ∧ R k y) : ∃ ys, mapO f (rng 0 n) = some ys ∧ ys.length = n.toNat ∧ ∀ k, 0 ≤ k → k < n → ∃ y, atI ys k = some y ∧ R k y := by
  obtain ⟨ys, e, l, r⟩ := mapO_rel (f := f) (R := R) (xs := rng 0 n) fun k hk => h k (mem_rng.mp hk).1 (mem_rng.mp hk).2
  refine ⟨ys, e, by rw [l, rng_len]; omega, fun k h0 h1 => ?_⟩
  obtain ⟨y, hy, hr⟩ := r k.toNat k (by rw [rng_idx (by omega)]; congr 1; omega)
  exact ⟨y, by rw [atI_get? h0]; exact hy, hr⟩
theorem cut_toI {α : Type} (xs : List α) {i : Int} (h : 0 ≤ i) : cut xs none (some i) = xs.take i.toNat := by
  have := cut_to xs i.toNat
  rwa [show ((i.toNat : Nat) : Int) = i by omega] at this
theorem cut_fromI {α : Type} (xs : List α) {i : Int} (h : 0 ≤ i) : cut xs (some i) none = xs.drop i.toNat := by
  have := cut_from xs i.toNat
  rwa [show ((i.toNat : Nat) : Int) = i by omega] at this
theorem Shape.sub {n : Int} {cs cs' : List (List Int)} (S : Shape n cs) (hl : cs'.length = cs.length) (h : ∀ (k : Nat) (row' : List Int), cs'[k]? = some row' → ∃ row, cs[k]? = some row ∧ row'.Sublist row) : Shape n cs' := by
  have hm : ∀ row' ∈ cs', ∃ row ∈ cs, row'.Sublist row := by
    intro row' hr
    obtain ⟨k, hk⟩ := List.mem_iff_getElem?.mp hr
    obtain ⟨row, e, s⟩ := h k row' hk
    exact ⟨row, List.mem_of_getElem? e, s⟩
  refine ⟨by rw [hl]; exact S.len, fun r hr => ?_, fun r hr => ?_, fun r hr c hc => ?_, ?_⟩
  · obtain ⟨row, m, s⟩ := hm r hr
    exact (S.asc row m).sublist s
  · obtain ⟨row, m, s⟩ := hm r hr
    have := S.few row m
    have := s.length_le
    omega
  · obtain ⟨row, m, s⟩ := hm r hr
    exact S.dom row m c (s.subset hc)
  · obtain ⟨rank, hr⟩ := S.acy
    refine ⟨rank, fun k row' c k0 hk hc => ?_⟩
    obtain ⟨row, e, s⟩ := h _ row' hk
    exact hr k row c k0 e (s.subset hc)
theorem pos_of {xs : List Int} {a b : Int} (h : ∀ x ∈ xs, a ≤ x ∧ x ≤ b) (ha : 1 ≤ a) : Pos xs := fun s hs => by have := h s hs; omega
theorem GBook.pos {n : Int} {sizes : List Int} {causes : List (List Int)} {tables : List (List (List Int))} (B : GBook n sizes causes tables) {k : Int} (h0 : 0 ≤ k) (h : k < n) : (∀ x ∈ (rowAt causes k).map (at0 sizes), 1 ≤ x ∧ x ≤ 4) ∧ Pos ((rowAt causes k).map (at0 sizes)) ∧ pr ((rowAt causes k).map (at0 sizes)) ≤ 1024 := by
  have h4 : ∀ x ∈ (rowAt causes k).map (at0 sizes), 1 ≤ x ∧ x ≤ 4 := by
    intro x hx
    obtain ⟨c, hc, rfl⟩ := List.mem_map.mp hx
    obtain ⟨c0, c1⟩ := B.shape.dom' h0 h hc
    have := (B.at c0 c1).2
    omega
  exact ⟨h4, pos_of h4 (by omega), pr_le5 h4 (by rw [List.length_map]; exact B.shape.few _ (B.shape.mem h0 h))⟩
theorem GBook.kin {n : Int} {sizes world : List Int} {causes : List (List Int)} {tables : List (List (List Int))} (B : GBook n sizes causes tables) (W : GWorld n sizes world) {k : Int} (h0 : 0 ≤ k) (h : k < n) : Fits ((rowAt causes k).map (at0 sizes)) ((rowAt causes k).map (at0 world)) :=
  fits_map fun c hc => by
    obtain ⟨c0, c1⟩ := B.shape.dom' h0 h hc
    exact W.val c c0 c1
/-- the place of a thing's row in a world, and the row -/
def bPlace (sizes : List Int) (causes : List (List Int)) (world : List Int) (k : Int) : Int := rk ((rowAt causes k).map (at0 sizes)) ((rowAt causes k).map (at0 world))
def bRow (sizes : List Int) (causes : List (List Int)) (tables : List (List (List Int))) (world : List Int) (k : Int) : List Int := (tables.getD k.toNat []).getD (bPlace sizes causes world k).toNat []
theorem GBook.row {n : Int} {sizes world : List Int} {causes : List (List Int)} {tables : List (List (List Int))} (B : GBook n sizes causes tables) (W : GWorld n sizes world) {k : Int} (h0 : 0 ≤ k) (h : k < n) : ∃ t, atI tables k = some t ∧ atI t (bPlace sizes causes world k) = some (bRow sizes causes tables world k) ∧ GRow (at0 sizes k) (bRow sizes causes tables world k) := by
  obtain ⟨t, et, hl, hg⟩ := B.table k h0 h
  obtain ⟨_, hp, _⟩ := B.pos h0 h
  obtain ⟨p0, p1⟩ := rk_lt hp (B.kin W h0 h)
  have htl := B.tlen
  have e1 : tables.getD k.toNat [] = t := by
    rw [atI_get? h0] at et
    rw [List.getD_eq_getElem?_getD, et]; rfl
  have e2 : atI t (bPlace sizes causes world k) = some (bRow sizes causes tables world k) := by
    unfold bRow
    rw [e1]
    exact atI_row (cs := t) p0 (by unfold bPlace; omega)
  refine ⟨t, et, e2, hg _ ?_⟩
  rw [atI_get? (show 0 ≤ bPlace sizes causes world k from p0)] at e2
  exact List.mem_of_getElem? e2
/-- the chance of a thing's value in a world -/
def bChance (sizes : List Int) (causes : List (List Int)) (tables : List (List (List Int))) (world : List Int) (k : Int) : Rat := Rat.divInt (at0 (bRow sizes causes tables world k) (at0 world k)) (bRow sizes causes tables world k).sum
theorem GRow.sum_lt {size : Int} {row : List Int} (G : GRow size row) (h : size ≤ 4) : row.sum.natAbs < 2 ^ 203 := by
  have h1 := sum_le (b := big) (fun x hx => Int.le_of_lt (G.hi x hx))
  have h2 := G.pos
  have h3 := G.len
  have e : (2 : Nat) ^ 203 = 12855504354071922204335696738729300820177623950262342682411008 := by decide
  rw [e]
  have h5 : big * (row.length : Int) ≤ big * 4 := Int.mul_le_mul_of_nonneg_left (by omega) (by decide)
  unfold big at h5 h1
  omega
theorem GRow.at {size : Int} {row : List Int} (G : GRow size row) {a : Int} (h0 : 0 ≤ a) (h : a < size) : atI row a = some (at0 row a) ∧ 0 ≤ at0 row a ∧ at0 row a < big := by
  have := G.len
  have hm := at0_mem (xs := row) h0 (by omega)
  exact ⟨atI_at0 h0 (by omega), G.lo _ hm, G.hi _ hm⟩
theorem lo_natAbs {a : Int} (h0 : 0 ≤ a) (h : a < big) : a.natAbs < 2 ^ 200 := lo_big h0 (by omega)
theorem getD_set {α : Type} (xs : List α) (i j : Nat) (a d : α) : (xs.set i a).getD j d = if i = j ∧ i < xs.length then a else xs.getD j d := by
  rw [List.getD_eq_getElem?_getD, List.getD_eq_getElem?_getD, List.getElem?_set]
  by_cases h : i = j
  · subst h
    by_cases hl : i < xs.length
    · simp [hl]
    · simp [hl]
  · simp [h]
theorem at0_set {xs : List Int} {i : Nat} {k a : Int} (h0 : 0 ≤ k) : at0 (xs.set i a) k = if i = k.toNat ∧ i < xs.length then a else at0 xs k := getD_set xs i k.toNat a 0
theorem at0_of {xs : List Int} {k a : Int} (h0 : 0 ≤ k) (h : atI xs k = some a) : at0 xs k = a := by
  rw [atI_get? h0] at h
  unfold at0
  rw [List.getD_eq_getElem?_getD, h]; rfl
theorem gbook_copy (t : List (List (List Int))) : mapO (fun zrows => (mapO (fun zrow_here => some zrow_here) zrows).bind fun t1 => some t1) t = some t := by
  have : mapO (fun zrows : List (List Int) => (mapO (fun zrow_here => some zrow_here) zrows).bind fun t1 => some t1) t = some (t.map fun x => x) := mapO_ok fun x _ => by rw [mapO_id]; rfl
  rw [this, List.map_id']
theorem gcd_loopI {c : Int × Int → Option Bool} {f : Int × Int → Option (Int × Int)} (hc : ∀ (a : Int) (b : Nat), c (a, (b : Int)) = some (decide (b ≠ 0))) (hf : ∀ (a : Int) (b : Nat), b ≠ 0 → f (a, (b : Int)) = some ((b : Int), a % (b : Int))) (a : Int) {b : Nat} (hb : b ≠ 0) : whileO c f (a, (b : Int)) = some ((Int.gcd a b : Int), 0) := by
  refine whileO_true (by rw [hc]; simp [hb]) (hf a b hb) ?_
  have h0 := Int.emod_nonneg a (show (b : Int) ≠ 0 by omega)
  obtain ⟨r, hr⟩ := Int.eq_ofNat_of_zero_le h0
  rw [hr, gcd_loop (fun a b => hc a b) (fun a b hb => hf a b hb)]
  have : Int.gcd a b = Nat.gcd b r := by
    have e : a = (r : Int) + (b : Int) * (a / (b : Int)) := by
      have := Int.mul_ediv_add_emod a (b : Int)
      omega
    have h := Int.gcd_add_mul_left_left (b : Int) (r : Int) (a / (b : Int))
    rw [← e] at h
    rw [h, Int.gcd_comm]; rfl
  rw [this]
end Mir
namespace K17
open PySem PySem.Spec L2 Mir
open Mir.ToD (toD)
/-! ### the mirrors -/
@[irreducible] noncomputable def m_is_whole (thing : Int) : Option Bool :=
  some (true && (!false))
noncomputable def m_divisor_l1 : (Int × Int) → Option (Int × Int) :=
  fun (one, other) =>
  (modO one other).bind fun t3 =>
  lt (other, t3) fun p4 => lt p4.1 fun one => lt p4.2 fun other =>
  some (one, other)
noncomputable def m_divisor_l1c : (Int × Int) → Option Bool :=
  fun (one, other) => some (decide ((0 : Int) < other))
@[irreducible] noncomputable def m_divisor (one : Int) (other : Int) : Option Int :=
  lt (one.natAbs : Int) fun one =>
  lt (other.natAbs : Int) fun other =>
  (whileO m_divisor_l1c m_divisor_l1 (one, other)).bind fun (one, other) =>
  some one
@[irreducible] noncomputable def m_share (top : Int) (bottom : Int) : Option (Int × Int) :=
  (m_is_whole top).bind fun t1 =>
  (orO (!t1) ((m_is_whole bottom).bind fun t2 => some ((!t2) || decide (bottom = (0 : Int))))).bind fun t3 =>
  iteO t3
  none
  ((m_divisor top bottom).bind fun many =>
  (iteO (decide (bottom < (0 : Int)))
  (lt ((0 : Int) - many) fun many =>
  some many)
  (some many)).bind fun many =>
  (divO top many).bind fun t6 =>
  (divO bottom many).bind fun t7 =>
  some (t6, t7))
noncomputable def m_rank_l1 : Int → (Int × Int) → Option Int :=
  fun place (size, value) =>
  (mulO place size).bind fun t2 =>
  lt (t2 + value) fun place =>
  some place
@[irreducible] noncomputable def m_rank (sizes : (List Int)) (world : (List Int)) : Option Int :=
  lt (0 : Int) fun place =>
  (forO m_rank_l1 (sizes.zip world) place).bind fun place =>
  some place
@[irreducible] noncomputable def m_row_at (told : (Tri (List Int) (List (List Int)) (List (List (List Int))))) (k_ : Int) (world : (List Int)) : Option (List Int) :=
  lt told.a fun sizes => lt told.b fun causes => lt told.c fun tables =>
  (atI causes k_).bind fun t1 =>
  (mapO (fun c => (atI sizes c).bind fun t2 => some t2) t1).bind fun t3 =>
  (atI causes k_).bind fun t4 =>
  (mapO (fun c => (atI world c).bind fun t5 => some t5) t4).bind fun t6 =>
  (m_rank t3 t6).bind fun place =>
  (atI tables k_).bind fun t8 =>
  (atI t8 place).bind fun t9 =>
  some t9
@[irreducible] noncomputable def m_chance_at (told : (Tri (List Int) (List (List Int)) (List (List (List Int))))) (k_ : Int) (world : (List Int)) : Option (Int × Int) :=
  (m_row_at told k_ world).bind fun row_ =>
  (atI world k_).bind fun t2 =>
  (atI row_ t2).bind fun t3 =>
  (m_share t3 row_.sum).bind fun t4 =>
  some t4
@[irreducible] noncomputable def m__law_cell_at (zscript : (List Int)) (zk : Int) : Option Int :=
  iteO (decide (zk < (zscript.length : Int)))
  ((atI zscript zk).bind fun t1 =>
  some t1)
  (some (0 : Int))
noncomputable def m__law_shape_l3 (zorder : (List Int)) (zat : Int) (zdense : Int) : ((List (List Int)) × Int) → Int → Option ((List (List Int)) × Int) :=
  fun (zcauses, znumber) zc =>
  lt (((znumber * (48271 : Int)) + (11 : Int)) % (2147483647 : Int)) fun znumber =>
  (andO (decide (((znumber / (64 : Int)) % (5 : Int)) < zdense)) ((atI zorder zat).bind fun t14 => (atI zcauses t14).bind fun t15 => some (decide ((t15.length : Int) < (5 : Int))))).bind fun t16 =>
  (iteO t16
  ((atI zorder zat).bind fun t17 =>
  (app2O zcauses t17 zc).bind fun zcauses =>
  some zcauses)
  (some zcauses)).bind fun zcauses =>
  some (zcauses, znumber)
noncomputable def m__law_shape_l1 (zscript : (List Int)) (zfirst : Int) : (List Int) → Int → Option (List Int) :=
  fun zorder zk =>
  (m__law_cell_at zscript (zfirst + ((2 : Int) * zk))).bind fun t3 =>
  (modO t3 (zk + (1 : Int))).bind fun t4 =>
  (insO zorder t4 zk).bind fun zorder =>
  some zorder
noncomputable def m__law_shape_l2 (zscript : (List Int)) (zfirst : Int) (zorder : (List Int)) : (List (List Int)) → Int → Option (List (List Int)) :=
  fun zcauses zat =>
  (atI zorder zat).bind fun t9 =>
  (m__law_cell_at zscript (zfirst + ((2 : Int) * t9))).bind fun t10 =>
  lt (((t10 * (48271 : Int)) + ((15485863 : Int) * (zat + (1 : Int)))) % (2147483647 : Int)) fun znumber =>
  lt ((1 : Int) + (znumber % (4 : Int))) fun zdense =>
  (forO (m__law_shape_l3 zorder zat zdense) (cut zorder none (some zat)) (zcauses, znumber)).bind fun (zcauses, znumber) =>
  some zcauses
@[irreducible] noncomputable def m__law_shape (zscript : (List Int)) (zfirst : Int) (zmany : Int) : Option (List (List Int)) :=
  lt ([] : List Int) fun zorder =>
  (rngO 0 zmany).bind fun t2 =>
  (forO (m__law_shape_l1 zscript zfirst) t2 zorder).bind fun zorder =>
  (rngO 0 zmany).bind fun t6 =>
  (mapO (fun zk => some ([] : List Int)) t6).bind fun zcauses =>
  (rngO 0 zmany).bind fun t8 =>
  (forO (m__law_shape_l2 zscript zfirst zorder) t8 zcauses).bind fun zcauses =>
  (mapO (fun zrow_here => some (srt zrow_here)) zcauses).bind fun t19 =>
  some t19
noncomputable def m__law_row_l1 (zgreat : Int) : (Int × (List Int)) → Int → Option (Int × (List Int)) :=
  fun (znumber, zrow_here) zvalue =>
  lt (((znumber * (48271 : Int)) + (7 : Int)) % (2147483647 : Int)) fun znumber =>
  lt (max (0 : Int) (((znumber / (32 : Int)) % (12 : Int)) - (3 : Int))) fun zweight =>
  (iteO (decide ((0 : Int) < zgreat) && decide ((znumber % (3 : Int)) = (0 : Int)))
  ((mulO znumber znumber).bind fun t5 =>
  (mulO t5 (1000021000189000945002835005103005103002187 : Int)).bind fun t6 =>
  lt (t6 % (1000000000000000000000000000000000000000000000000000000000000 : Int)) fun zweight =>
  some zweight)
  (some zweight)).bind fun zweight =>
  (iteO (decide ((0 : Int) < zgreat) && decide ((znumber % (17 : Int)) = (1 : Int)))
  (lt ((1000000000000000000000000000000000000000000000000000000000000 : Int) - (1 : Int)) fun zweight =>
  some zweight)
  (some zweight)).bind fun zweight =>
  (appO zrow_here zweight).bind fun zrow_here =>
  some (znumber, zrow_here)
@[irreducible] noncomputable def m__law_row (znumber : Int) (zsize : Int) (zgreat : Int) : Option (List Int) :=
  lt ([] : List Int) fun zrow_here =>
  (rngO 0 zsize).bind fun t2 =>
  (forO (m__law_row_l1 zgreat) t2 (znumber, zrow_here)).bind fun (znumber, zrow_here) =>
  (iteO (decide (zrow_here.sum = (0 : Int)))
  ((modO (znumber / (7 : Int)) zsize).bind fun t10 =>
  (setO zrow_here t10 ((1 : Int) + (znumber % (5 : Int)))).bind fun zrow_here =>
  some zrow_here)
  (some zrow_here)).bind fun zrow_here =>
  some zrow_here
noncomputable def m__law_table_l1 (zsize : Int) (zgreat : Int) : (Int × (List (List Int))) → Int → Option (Int × (List (List Int))) :=
  fun (znumber, zfound) zat =>
  lt ((((znumber * (69621 : Int)) + (1 : Int)) + zat) % (2147483647 : Int)) fun znumber =>
  (m__law_row znumber zsize zgreat).bind fun t5 =>
  (appO zfound t5).bind fun zfound =>
  some (znumber, zfound)
@[irreducible] noncomputable def m__law_table (zcell : Int) (zcount_here : Int) (zsize : Int) (zgreat : Int) : Option (List (List Int)) :=
  lt (zcell % (2147483647 : Int)) fun znumber =>
  lt ([] : List (List Int)) fun zfound =>
  (rngO 0 zcount_here).bind fun t3 =>
  (forO (m__law_table_l1 zsize zgreat) t3 (znumber, zfound)).bind fun (znumber, zfound) =>
  some zfound
noncomputable def m__law_count_l1 (zsizes : (List Int)) : Int → Int → Option Int :=
  fun zcount_here zc =>
  (atI zsizes zc).bind fun t2 =>
  (mulO zcount_here t2).bind fun zcount_here =>
  some zcount_here
@[irreducible] noncomputable def m__law_count (zsizes : (List Int)) (zrow_here : (List Int)) : Option Int :=
  lt (1 : Int) fun zcount_here =>
  (forO (m__law_count_l1 zsizes) zrow_here zcount_here).bind fun zcount_here =>
  some zcount_here
@[irreducible] noncomputable def m__law_three (zscript : (List Int)) (zmany : Int) (zfew : Int) (zgreat : Int) : Option (Tri (List Int) (List (List Int)) (List (List (List Int)))) :=
  (m__law_shape zscript (2 : Int) zmany).bind fun zcauses =>
  (m__law_cell_at zscript (1 : Int)).bind fun t2 =>
  lt (t2 % (12 : Int)) fun zone =>
  (rngO 0 zmany).bind fun t4 =>
  (mapO (fun zk => (atI zcauses zk).bind fun t5 => (mulO ((5 : Int) - zfew) (if decide (zk = zone) = true then (1 : Int) else 0)).bind fun t6 => some (cut t5 none (some (zfew + t6)))) t4).bind fun zcauses =>
  (rngO 0 zmany).bind fun t8 =>
  (mapO (fun zk => (m__law_cell_at zscript ((3 : Int) + ((2 : Int) * zk))).bind fun t9 => some t9) t8).bind fun zcells =>
  (mapO (fun zcell => some ((2 : Int) + (zcell % (3 : Int)))) zcells).bind fun zsizes =>
  (rngO 0 zmany).bind fun t12 =>
  (mapO (fun zk => (atI zcells zk).bind fun t13 => (atI zcauses zk).bind fun t14 => (m__law_count zsizes t14).bind fun t15 => (atI zsizes zk).bind fun t16 => (m__law_table (t13 / (3 : Int)) t15 t16 zgreat).bind fun t17 => some t17) t12).bind fun ztables =>
  some (Tri.mk zsizes zcauses ztables)
@[irreducible] noncomputable def m__law_copy (zthree_here : (Tri (List Int) (List (List Int)) (List (List (List Int))))) : Option (Tri (List Int) (List (List Int)) (List (List (List Int)))) :=
  (mapO (fun zrows => (mapO (fun zrow_here => some zrow_here) zrows).bind fun t1 => some t1) zthree_here.c).bind fun ztables =>
  (mapO (fun zrow_here => some zrow_here) zthree_here.b).bind fun t4 =>
  some (Tri.mk zthree_here.a t4 ztables)
@[irreducible] noncomputable def m__law_whole (zfound : Int) : Option Bool :=
  some (true && (!false))
noncomputable def m__law_is_share_l1 : (Int × Int) → Option (Int × Int) :=
  fun (zone, zother) =>
  (modO zone zother).bind fun t9 =>
  lt (zother, t9) fun p10 => lt p10.1 fun zone => lt p10.2 fun zother =>
  some (zone, zother)
noncomputable def m__law_is_share_l1c : (Int × Int) → Option Bool :=
  fun (zone, zother) => some (!decide (zother = (0 : Int)))
@[irreducible] noncomputable def m__law_is_share (zfound : (Int × Int)) (ztop : Int) (zbottom : Int) : Option Bool :=
  (orO (!true) ((orO (!decide ((2 : Int) = (2 : Int))) ((m__law_whole zfound.1).bind fun t1 => (orO (!t1) ((m__law_whole zfound.2).bind fun t2 => some (!t2))).bind fun t3 => some t3)).bind fun t4 => some t4)).bind fun t5 =>
  iteO t5
  (some false)
  ((orO (decide (zfound.2 < (1 : Int))) ((mulO zfound.1 zbottom).bind fun t6 => (mulO ztop zfound.2).bind fun t7 => some (!decide (t6 = t7)))).bind fun t8 =>
  iteO t8
  (some false)
  (lt zfound.1 fun zone => lt zfound.2 fun zother =>
  (whileO m__law_is_share_l1c m__law_is_share_l1 (zone, zother)).bind fun (zone, zother) =>
  some (decide (zone = (1 : Int)))))
noncomputable def m__law_due_l1 (zthree_here : (Tri (List Int) (List (List Int)) (List (List (List Int))))) (zworld : (List Int)) : Int → Int → Option Int :=
  fun zplace zc =>
  (atI zthree_here.a zc).bind fun t3 =>
  (mulO zplace t3).bind fun t4 =>
  (atI zworld zc).bind fun t5 =>
  lt (t4 + t5) fun zplace =>
  some zplace
@[irreducible] noncomputable def m__law_due (zthree_here : (Tri (List Int) (List (List Int)) (List (List (List Int))))) (zk : Int) (zworld : (List Int)) : Option (List Int) :=
  lt (0 : Int) fun zplace =>
  (atI zthree_here.b zk).bind fun t2 =>
  (forO (m__law_due_l1 zthree_here zworld) t2 zplace).bind fun zplace =>
  (atI zthree_here.c zk).bind fun t7 =>
  (atI t7 zplace).bind fun t8 =>
  some t8
noncomputable def m__law_good_l1 (zmade : (Tri (List Int) (List (List Int)) (List (List (List Int))))) (zworld : (List Int)) (zk : Int) (zturn : Int) (zdue_here : (List Int)) : Unit → Int → Option (Fl Bool Unit) :=
  fun _ zstep =>
  (iteO (decide (((zstep + zturn) % (2 : Int)) = (0 : Int)))
  ((m_row_at zmade zk zworld).bind fun zfound =>
  (orO (!true) ((mapO (fun zweight => (m__law_whole zweight).bind fun t4 => some t4) zfound).bind fun t5 => some ((!(t5.all id)) || (!decide (zfound = zdue_here))))).bind fun t6 =>
  iteO t6
  ((some false).bind retF)
  ((atI zfound (0 : Int)).bind fun t7 =>
  (setO zfound (0 : Int) (t7 + (1 : Int))).bind fun zfound =>
  (appO zfound (1 : Int)).bind fun zfound =>
  some (.nxt ())))
  ((m_chance_at zmade zk zworld).bind fun t10 =>
  (atI zworld zk).bind fun t11 =>
  (atI zdue_here t11).bind fun t12 =>
  (m__law_is_share t10 t12 zdue_here.sum).bind fun t13 =>
  iteO (!t13)
  ((some false).bind retF)
  (some (.nxt ())))).bind (flF (fun _ =>
  some (.nxt ())))
@[irreducible] noncomputable def m__law_good (zthree_here : (Tri (List Int) (List (List Int)) (List (List (List Int))))) (zmade : (Tri (List Int) (List (List Int)) (List (List (List Int))))) (zworld : (List Int)) (zk : Int) (zturn : Int) : Option Bool :=
  (m__law_due zthree_here zk zworld).bind fun zdue_here =>
  (rngO 0 (2 : Int)).bind fun t2 =>
  (forF (m__law_good_l1 zmade zworld zk zturn zdue_here) t2 ()).bind (flR fun _ =>
  some true)
noncomputable def m_law_l1 (zfirst : Int) (zthree_here : (Tri (List Int) (List (List Int)) (List (List (List Int))))) (zmade : (Tri (List Int) (List (List Int)) (List (List (List Int))))) (zother : (List Int)) (zhanded : (List Int)) : Unit → Int → Option (Fl Bool Unit) :=
  fun _ zk =>
  (m__law_good zthree_here zmade zhanded zk ((zfirst / (36 : Int)) % (2 : Int))).bind fun t19 =>
  (orO (!t19) ((m__law_good zthree_here zmade zother zk zk).bind fun t20 => some (!t20))).bind fun t21 =>
  iteO t21
  ((some false).bind retF)
  (some (.nxt ()))
@[irreducible] noncomputable def m_law (zscript : (List Int)) : Option Bool :=
  (m__law_cell_at zscript (0 : Int)).bind fun zfirst =>
  lt ((1 : Int) + (zfirst % (12 : Int))) fun zmany =>
  (m__law_three zscript zmany (2 : Int) (if decide (((zfirst / (12 : Int)) % (3 : Int)) = (1 : Int)) = true then (1 : Int) else 0)).bind fun zthree_here =>
  (m__law_copy zthree_here).bind fun zmade =>
  (rngO 0 zmany).bind fun t5 =>
  (mapO (fun zk => (m__law_cell_at zscript (((2 : Int) + ((2 : Int) * zmany)) + zk)).bind fun t6 => (atI zthree_here.a zk).bind fun t7 => (modO t6 t7).bind fun t8 => some t8) t5).bind fun zworld =>
  lt zworld fun zother =>
  (m__law_cell_at zscript (1 : Int)).bind fun t11 =>
  (modO (t11 / (12 : Int)) zmany).bind fun zat =>
  (atI zother zat).bind fun t13 =>
  (atI zthree_here.a zat).bind fun t14 =>
  (modO (t13 + (1 : Int)) t14).bind fun t15 =>
  (setO zother zat t15).bind fun zother =>
  lt zworld fun zhanded =>
  (rngO 0 zmany).bind fun t18 =>
  (forF (m_law_l1 zfirst zthree_here zmade zother zhanded) t18 ()).bind (flR fun _ =>
  (andO (decide (zmade = zthree_here)) ((andO (decide (zhanded = zworld)) ((m__law_good zthree_here zmade zworld zat (1 : Int)).bind fun t22 => some t22)).bind fun t23 => some t23)).bind fun t24 =>
  some t24)
end K17
namespace K17
open PySem PySem.Spec L2 Mir
open Mir.ToD (toD)
theorem law_cell_ok {ns : List Int} {k : Int} (h : 0 ≤ k) : ∃ v, m__law_cell_at ns k = some v := by
  unfold m__law_cell_at
  rw [iteO_dec]
  split
  · rename_i hk
    rw [atI_ok h hk]
    exact ⟨_, rfl⟩
  · exact ⟨_, rfl⟩
theorem law_order_ok {ns : List Int} {first many : Int} (h0 : 0 ≤ first) (hm0 : 0 ≤ many) (hm : many ≤ 1000) : ∃ order, forO (m__law_shape_l1 ns first) (rng 0 many) [] = some order ∧ order.Perm (rng 0 many) := by
  refine forO_inv (f := m__law_shape_l1 ns first) (fun done st => st.Perm done) (rng 0 many) [] (List.Perm.refl _) (fun d x r st hsp hP => ?_)
  obtain ⟨ex, x0, x1⟩ := rng_at hsp
  obtain ⟨v, ev⟩ := law_cell_ok (ns := ns) (k := first + 2 * x) (by omega)
  have hl := hP.length_eq
  have m0 := Int.emod_nonneg v (show x + 1 ≠ 0 by omega)
  have m1 := Int.emod_lt_of_pos v (show 0 < x + 1 by omega)
  refine ⟨st.take (v % (x + 1)).toNat ++ [x] ++ st.drop (v % (x + 1)).toNat, ?_, (ins_permG _ _ _).trans (hP.append_right _)⟩
  simp only [m__law_shape_l1, ev, Option.bind_some, modO_pos (show 0 < x + 1 by omega), insO_ok (show st.length < 16777216 by omega) m0 (show v % (x + 1) < 9223372036854775808 by omega)]
theorem law_shape_ok {ns : List Int} {first many : Int} (h0 : 0 ≤ first) (hm0 : 0 ≤ many) (hm : many ≤ 1000) : ∃ cs, m__law_shape ns first many = some cs ∧ Shape many cs := by
  unfold m__law_shape
  simp only [lt_def]
  obtain ⟨order, eo, hp⟩ := law_order_ok (ns := ns) h0 hm0 hm
  have hlen := order_len hp
  rw [rngO_ok hm0 (by omega), Option.bind_some, eo]
  simp only [Option.bind_some]
  rw [mapO_ok (g := fun _ => ([] : List Int)) (fun _ _ => rfl)]
  simp only [Option.bind_some]
  obtain ⟨cs, ec, hd⟩ := forO_inv (f := m__law_shape_l2 ns first order) (fun done st => Drawn order st done.length) (rng 0 many) ((rng 0 many).map fun _ => []) (by
    refine ⟨by rw [List.length_map, rng_len, hlen]; omega, fun j x hx => ⟨[], ?_, List.nil_sublist _, Nat.zero_le _, fun _ => rfl⟩⟩
    have := mem_rng.mp (hp.mem_iff.mp (List.mem_of_getElem? hx))
    rw [List.getElem?_map, rng_idx (by omega)]; rfl) (fun d x r st hsp hP => by
    obtain ⟨ex, x0, x1⟩ := rng_at hsp
    have hdl : d.length < order.length := by omega
    have ho : order[d.length]? = some order[d.length] := List.getElem?_eq_getElem hdl
    have hox := mem_rng.mp (hp.mem_iff.mp (List.mem_of_getElem? ho))
    have ea : atI order x = some order[d.length] := by rw [show x = (d.length : Int) by omega, atI_natO, ho]
    obtain ⟨v, ev⟩ := law_cell_ok (ns := ns) (k := first + 2 * order[d.length]) (by omega)
    simp only [m__law_shape_l2, ea, Option.bind_some, ev, lt_def]
    rw [show (some x : Option Int) = some ((d.length : Nat) : Int) by rw [show x = (d.length : Int) by omega], cut_to]
    generalize 1 + (v * 48271 + 15485863 * (x + 1)) % 2147483647 % 4 = dense
    generalize (v * 48271 + 15485863 * (x + 1)) % 2147483647 = num
    obtain ⟨⟨cs', num'⟩, e, hQ⟩ := forO_inv (f := m__law_shape_l3 order x dense) (fun done2 s2 => s2.1.length = order.length ∧ (∀ j y, order[j]? = some y → j ≠ d.length → s2.1[y.toNat]? = st[y.toNat]?) ∧ ∃ row, s2.1[order[d.length].toNat]? = some row ∧ row.Sublist done2 ∧ row.length ≤ 5) (order.take d.length) (st, num) (by
      obtain ⟨row, e1, s1, l1, z1⟩ := hP.row _ _ ho
      exact ⟨hP.len, fun _ _ _ _ => rfl, [], by rw [z1 (Nat.le_refl _)] at e1; exact e1, List.nil_sublist _, Nat.zero_le _⟩) (fun d2 c r2 s2 hsp2 hQ => by
      obtain ⟨cs2, num2⟩ := s2
      obtain ⟨q1, q2, row, q3, q4, q5⟩ := hQ
      simp only at q1 q2 q3
      have ec : atI cs2 order[d.length] = some row := by
        rw [atI_get? (by omega), q3]
      have ha : app2O cs2 order[d.length] c = some (cs2.set order[d.length].toNat (row ++ [c])) := app2O_ok (by omega) q3 (by omega)
      simp only [m__law_shape_l3, lt_def, ea, ec, Option.bind_some, ha]
      have hb : ∃ b, (andO (decide ((num2 * 48271 + 11) % 2147483647 / 64 % 5 < dense)) (some (decide ((row.length : Int) < 5)))) = some b ∧ (b = true → row.length < 5) := by
        cases decide ((num2 * 48271 + 11) % 2147483647 / 64 % 5 < dense) with
        | false => exact ⟨false, rfl, fun h => by cases h⟩
        | true => exact ⟨decide ((row.length : Int) < 5), rfl, fun h => by have := of_decide_eq_true h; omega⟩
      obtain ⟨b, eb, hb⟩ := hb
      rw [eb]
      simp only [Option.bind_some]
      cases b with
      | false => exact ⟨(cs2, _), rfl, q1, q2, row, q3, q4.trans (List.sublist_append_left _ _), q5⟩
      | true =>
        refine ⟨(cs2.set order[d.length].toNat (row ++ [c]), _), rfl, by rw [List.length_set]; exact q1, fun j y hj hne => ?_, row ++ [c], ?_, q4.append (List.Sublist.refl _), by have := hb rfl; rw [List.length_append]; exact this⟩
        · show (cs2.set order[d.length].toNat (row ++ [c]))[y.toNat]? = _
          rw [List.getElem?_set_ne (fun z => hne (order_idx hp hj ho z.symm)), q2 j y hj hne]
        · show (cs2.set order[d.length].toNat (row ++ [c]))[order[d.length].toNat]? = _
          rw [List.getElem?_set_self (List.getElem?_eq_some_iff.mp q3).1])
    rw [e]
    obtain ⟨q1, q2, row, q3, q4, q5⟩ := hQ
    refine ⟨cs', rfl, q1, fun j y hy => ?_⟩
    by_cases hj : j = d.length
    · subst hj
      rw [ho] at hy; cases hy
      exact ⟨row, q3, q4, q5, fun h => by rw [List.length_append] at h; simp at h; omega⟩
    · obtain ⟨row', e1, s1, l1, z1⟩ := hP.row j y hy
      exact ⟨row', by rw [q2 j y hy hj]; exact e1, s1, l1, fun h => z1 (by rw [List.length_append] at h; omega)⟩)
  rw [ec]
  simp only [Option.bind_some]
  rw [mapO_ok (g := srt) (fun _ _ => rfl)]
  exact ⟨_, rfl, drawn_shape hm0 hp hd⟩
theorem law_row_ok {num size great : Int} (hs : 2 ≤ size) (hs4 : size ≤ 4) : ∃ row, m__law_row num size great = some row ∧ GRow size row := by
  unfold m__law_row
  simp only [lt_def]
  rw [rngO_ok (by omega) (by omega), Option.bind_some]
  obtain ⟨⟨num', row⟩, e, h1, h2⟩ := forO_inv (f := m__law_row_l1 great) (fun done st => st.2.length = done.length ∧ ∀ w ∈ st.2, 0 ≤ w ∧ w < big) (rng 0 size) (num, []) ⟨rfl, fun w h => by cases h⟩ (fun d x r st hsp hP => by
    obtain ⟨m, row⟩ := st
    obtain ⟨h1, h2⟩ := hP
    simp only at h1 h2
    obtain ⟨ex, x0, x1⟩ := rng_at hsp
    simp only [m__law_row_l1, lt_def]
    have n0 : 0 ≤ (m * 48271 + 7) % 2147483647 := Int.emod_nonneg _ (by omega)
    have n1 : (m * 48271 + 7) % 2147483647 < 2147483647 := Int.emod_lt_of_pos _ (by omega)
    generalize (m * 48271 + 7) % 2147483647 = q at n0 n1
    have hqq : q * q ≤ 2147483647 * 2147483647 := Int.mul_le_mul (by omega) (by omega) (by omega) (by omega)
    have hqq0 : 0 ≤ q * q := Int.mul_nonneg (by omega) (by omega)
    have e5 : mulO q q = some (q * q) := mulO_lo (lo_of (by omega) (by omega)) (lo_of (by omega) (by omega))
    have e6 : mulO (q * q) 1000021000189000945002835005103005103002187 = some (q * q * 1000021000189000945002835005103005103002187) := mulO_lo (lo_of (by omega) (by omega)) (lo_of (by omega) (by omega))
    have fin : ∀ w, 0 ≤ w → w < big → ∃ st', ((appO row w).bind fun r => some (q, r)) = some st' ∧ st'.2.length = (d ++ [x]).length ∧ ∀ w ∈ st'.2, 0 ≤ w ∧ w < big := by
      intro w w0 w1
      rw [appO_ok (by omega)]
      refine ⟨_, rfl, by simp [h1], fun v hv => ?_⟩
      rcases List.mem_append.mp hv with hv | hv
      · exact h2 v hv
      · rw [List.mem_singleton.mp hv]; exact ⟨w0, w1⟩
    simp only [e5, e6, Option.bind_some]
    generalize q * q * 1000021000189000945002835005103005103002187 = z
    generalize (decide ((0 : Int) < great) && decide (q % 3 = 0)) = b1
    generalize (decide ((0 : Int) < great) && decide (q % 17 = 1)) = b2
    unfold big at fin
    cases b1 <;> cases b2
    · exact fin (max 0 (q / 32 % 12 - 3)) (by omega) (by omega)
    · exact fin (1000000000000000000000000000000000000000000000000000000000000 - 1) (by omega) (by omega)
    · exact fin (z % 1000000000000000000000000000000000000000000000000000000000000) (by omega) (by omega)
    · exact fin (1000000000000000000000000000000000000000000000000000000000000 - 1) (by omega) (by omega))
  rw [e]
  simp only [Option.bind_some]
  simp only at h1 h2
  rw [rng_len] at h1
  rw [iteO_dec]
  split
  · have m0 := Int.emod_nonneg (num' / 7) (show size ≠ 0 by omega)
    have m1 := Int.emod_lt_of_pos (num' / 7) (show 0 < size by omega)
    have f0 := Int.emod_nonneg num' (show (5 : Int) ≠ 0 by omega)
    have f1 := Int.emod_lt_of_pos num' (show (0 : Int) < 5 by omega)
    rw [modO_pos (by omega), Option.bind_some, setO_ok m0 (by omega)]
    have hm : ∀ w ∈ row.set (num' / 7 % size).toNat (1 + num' % 5), 0 ≤ w ∧ w < big := by
      intro w hw
      rcases List.mem_or_eq_of_mem_set hw with hw | rfl
      · exact h2 w hw
      · unfold big; omega
    refine ⟨_, rfl, by rw [List.length_set]; omega, fun w hw => (hm w hw).1, fun w hw => (hm w hw).2, ?_⟩
    have hin : (1 + num' % 5) ∈ row.set (num' / 7 % size).toNat (1 + num' % 5) := List.mem_set (by omega) _
    have := le_sum (fun w hw => (hm w hw).1) hin
    omega
  · rename_i hn
    have := sum_nonneg (xs := row) fun w hw => (h2 w hw).1
    exact ⟨_, rfl, by omega, fun w hw => (h2 w hw).1, fun w hw => (h2 w hw).2, by omega⟩
theorem law_table_ok {cell count size great : Int} (h0 : 0 ≤ count) (hc : count ≤ 1024) (hs : 2 ≤ size) (hs4 : size ≤ 4) : ∃ t, m__law_table cell count size great = some t ∧ (t.length : Int) = count ∧ ∀ row ∈ t, GRow size row := by
  unfold m__law_table
  simp only [lt_def]
  rw [rngO_ok (by omega) (by omega), Option.bind_some]
  obtain ⟨⟨num', t⟩, e, h1, h2⟩ := forO_inv (f := m__law_table_l1 size great) (fun done st => st.2.length = done.length ∧ ∀ row ∈ st.2, GRow size row) (rng 0 count) (cell % 2147483647, []) ⟨rfl, fun w h => by cases h⟩ (fun d x r st hsp hP => by
    obtain ⟨m, t⟩ := st
    obtain ⟨h1, h2⟩ := hP
    simp only at h1 h2
    obtain ⟨ex, x0, x1⟩ := rng_at hsp
    simp only [m__law_table_l1, lt_def]
    obtain ⟨row, er, hr⟩ := law_row_ok (num := (m * 69621 + 1 + x) % 2147483647) (great := great) hs hs4
    rw [er, Option.bind_some, appO_ok (by omega)]
    refine ⟨_, rfl, by simp [h1], fun v hv => ?_⟩
    rcases List.mem_append.mp hv with hv | hv
    · exact h2 v hv
    · rw [List.mem_singleton.mp hv]; exact hr)
  rw [e]
  simp only at h1 h2
  rw [rng_len] at h1
  exact ⟨t, rfl, by omega, h2⟩
theorem law_count_go {sizes : List Int} : ∀ {cs : List Int} {a : Int}, (∀ c ∈ cs, 0 ≤ c ∧ c < sizes.length ∧ 1 ≤ at0 sizes c ∧ at0 sizes c ≤ 4) → 1 ≤ a → a * pr (cs.map (at0 sizes)) ≤ big → forO (m__law_count_l1 sizes) cs a = some (a * pr (cs.map (at0 sizes)))
  | [], a, _, _, _ => by simp [forO, pr]
  | c :: cs, a, h, h1, hb => by
    obtain ⟨c0, c1, s1, s4⟩ := h c List.mem_cons_self
    have ht : ∀ x ∈ cs, 0 ≤ x ∧ x < sizes.length ∧ 1 ≤ at0 sizes x ∧ at0 sizes x ≤ 4 := fun x hx => h x (List.mem_cons_of_mem _ hx)
    have hq : 1 ≤ pr (cs.map (at0 sizes)) := pr_pos fun x hx => by
      obtain ⟨y, hy, rfl⟩ := List.mem_map.mp hx
      exact (ht y hy).2.2.1
    have e : a * pr ((c :: cs).map (at0 sizes)) = a * at0 sizes c * pr (cs.map (at0 sizes)) := by
      show a * (at0 sizes c * pr (cs.map (at0 sizes))) = _
      rw [Int.mul_assoc]
    rw [e] at hb ⊢
    have h2 := mul_pos1 h1 s1
    have h3 := le_mul_right hq (show 0 ≤ a * at0 sizes c by omega)
    have h4 := le_mul_right s1 (show 0 ≤ a by omega)
    rw [forO_cons]
    have es : m__law_count_l1 sizes a c = some (a * at0 sizes c) := by
      simp only [m__law_count_l1]
      rw [atI_at0 c0 c1, Option.bind_some, mulO_lo (lo_big (by omega) (by omega)) (lo_big (by omega) (by unfold big; omega))]; rfl
    rw [es, Option.bind_some]
    exact law_count_go ht h2 hb
theorem law_count_ok {sizes : List Int} {cs : List Int} (h : ∀ c ∈ cs, 0 ≤ c ∧ c < sizes.length ∧ 1 ≤ at0 sizes c ∧ at0 sizes c ≤ 4) (hb : pr (cs.map (at0 sizes)) ≤ big) : m__law_count sizes cs = some (pr (cs.map (at0 sizes))) := by
  unfold m__law_count
  simp only [lt_def]
  rw [law_count_go h (by omega) (by rw [Int.one_mul]; exact hb), Int.one_mul]; rfl
theorem law_three_ok {ns : List Int} {many few great : Int} (hm0 : 0 ≤ many) (hm : many ≤ 1000) (hf0 : 0 ≤ few) (hf : few ≤ 5) : ∃ s c t, m__law_three ns many few great = some (Tri.mk s c t) ∧ GBook many s c t := by
  unfold m__law_three
  obtain ⟨cs, ec, S⟩ := law_shape_ok (ns := ns) (first := 2) (by omega) hm0 hm
  obtain ⟨v1, ev1⟩ := law_cell_ok (ns := ns) (k := 1) (by omega)
  rw [ec, Option.bind_some, ev1, Option.bind_some]
  simp only [lt_def]
  generalize v1 % 12 = one
  rw [rngO_ok hm0 (by omega), Option.bind_some]
  obtain ⟨cs', ec', lc', rc'⟩ := mapO_rng (n := many) (f := fun zk => (atI cs zk).bind fun t5 => (mulO ((5 : Int) - few) (if decide (zk = one) = true then (1 : Int) else 0)).bind fun t6 => some (cut t5 none (some (few + t6)))) (R := fun k row => row.Sublist (rowAt cs k)) (fun k k0 k1 => by
    rw [S.at k0 k1, Option.bind_some]
    have hz : (0 : Int) ≤ (if decide (k = one) = true then (1 : Int) else 0) ∧ (if decide (k = one) = true then (1 : Int) else 0) ≤ 1 := by split <;> omega
    generalize (if decide (k = one) = true then (1 : Int) else 0) = z at hz
    have hp : 0 ≤ (5 - few) * z := Int.mul_nonneg (by omega) hz.1
    rw [mulO_lo (lo_of (by omega) (by omega)) (lo_of (by omega) (by omega)), Option.bind_some, cut_toI _ (by omega)]
    exact ⟨_, rfl, List.take_sublist _ _⟩)
  rw [ec', Option.bind_some]
  have S' : Shape many cs' := S.sub (by have := S.len; omega) (fun k row' hk => by
    have hk' := (List.getElem?_eq_some_iff.mp hk).1
    obtain ⟨y, ey, hy⟩ := rc' (k : Int) (by omega) (by omega)
    rw [atI_natO, hk] at ey
    cases ey
    exact ⟨_, S.get (k := (k : Int)) (by omega) (by omega), hy⟩)
  obtain ⟨cells, ecell, lcell, rcell⟩ := mapO_rng (n := many) (f := fun zk => (m__law_cell_at ns ((3 : Int) + ((2 : Int) * zk))).bind fun t9 => some t9) (R := fun _ _ => True) (fun k k0 k1 => by
    obtain ⟨v, ev⟩ := law_cell_ok (ns := ns) (k := 3 + 2 * k) (by omega)
    rw [ev]
    exact ⟨_, rfl, trivial⟩)
  simp only [ecell, Option.bind_some]
  rw [mapO_ok (g := fun c => 2 + c % 3) (fun _ _ => rfl), Option.bind_some]
  have hsl : ((cells.map fun c => 2 + c % 3).length : Int) = many := by rw [List.length_map, lcell]; omega
  have hsz : ∀ s ∈ cells.map (fun c => 2 + c % 3), 2 ≤ s ∧ s ≤ 4 := by
    intro s hs
    obtain ⟨c, _, rfl⟩ := List.mem_map.mp hs
    omega
  generalize (cells.map fun c => 2 + c % 3) = s at hsl hsz
  have hat : ∀ k, 0 ≤ k → k < many → atI s k = some (at0 s k) ∧ 2 ≤ at0 s k ∧ at0 s k ≤ 4 := fun k k0 k1 => ⟨atI_at0 k0 (by omega), hsz _ (at0_mem k0 (by omega))⟩
  obtain ⟨t, et, lt_, rt⟩ := mapO_rng (n := many) (f := fun zk => (atI cells zk).bind fun t13 => (atI cs' zk).bind fun t14 => (m__law_count s t14).bind fun t15 => (atI s zk).bind fun t16 => (m__law_table (t13 / (3 : Int)) t15 t16 great).bind fun t17 => some t17) (R := fun k t => (t.length : Int) = pr ((rowAt cs' k).map (at0 s)) ∧ ∀ row ∈ t, GRow (at0 s k) row) (fun k k0 k1 => by
    obtain ⟨v, ev, _⟩ := rcell k k0 k1
    obtain ⟨e1, e2, e3⟩ := hat k k0 k1
    have hrow : ∀ c ∈ rowAt cs' k, 0 ≤ c ∧ c < s.length ∧ 1 ≤ at0 s c ∧ at0 s c ≤ 4 := fun c hc => by
      obtain ⟨c0, c1⟩ := S'.dom' k0 k1 hc
      have := hat c c0 c1
      omega
    have h4 : ∀ x ∈ (rowAt cs' k).map (at0 s), 1 ≤ x ∧ x ≤ 4 := fun x hx => by
      obtain ⟨c, hc, rfl⟩ := List.mem_map.mp hx
      exact (hrow c hc).2.2
    have hle := pr_le5 h4 (by rw [List.length_map]; exact S'.few _ (S'.mem k0 k1))
    have hp := pr_pos (pos_of h4 (by omega))
    obtain ⟨tb, etb, l1, l2⟩ := law_table_ok (cell := v / 3) (count := pr ((rowAt cs' k).map (at0 s))) (great := great) (by omega) hle e2 e3
    rw [ev, Option.bind_some, S'.at k0 k1, Option.bind_some, law_count_ok hrow (by unfold big; omega), Option.bind_some, e1, Option.bind_some, etb]
    exact ⟨tb, rfl, l1, l2⟩)
  rw [et]
  refine ⟨s, cs', t, rfl, S', hsl, hsz, by rw [lt_]; omega, fun k k0 k1 => ?_⟩
  obtain ⟨tb, e1, e2, e3⟩ := rt k k0 k1
  exact ⟨tb, e1, e2, e3⟩
theorem law_copy_ok (s : List Int) (c : List (List Int)) (t : List (List (List Int))) : m__law_copy (Tri.mk s c t) = some (Tri.mk s c t) := by
  unfold m__law_copy
  simp only
  rw [gbook_copy, Option.bind_some, mapO_id]; rfl
theorem m_rank_ok {s w : List Int} (h : Pos s) (f : Fits s w) (hb : pr s ≤ big) : m_rank s w = some (rk s w) := by
  unfold m_rank
  simp only [lt_def]
  rw [rank_loop (f := m_rank_l1) (fun _ _ _ => by simp only [m_rank_l1, lt_def]) h f (Int.le_refl 0) (by rw [Int.zero_add, Int.one_mul]; exact hb)]
  simp
theorem m_divisor_ok (a b : Int) : m_divisor a b = some (Int.gcd a b : Int) := by
  unfold m_divisor
  simp only [lt_def]
  rw [gcd_loop (c := m_divisor_l1c) (f := m_divisor_l1) (fun a b => by simp only [m_divisor_l1c]; congr 1; rw [decide_eq_decide]; omega) (fun a b h => by simp only [m_divisor_l1, lt_def]; rw [modO_pos (by omega)]; simp)]
  rfl
theorem m_share_ok {n : Nat} {t b : Int} (hn : n ≤ 9000) (hb : b ≠ 0) (h : b.natAbs < 2 ^ n) : m_share t b = some (qp (Rat.divInt t b)) := by
  have hg : 0 < Int.gcd t b := Int.gcd_pos_of_ne_zero_right _ hb
  have hgb : Int.gcd t b < 2 ^ n := by
    have : Int.gcd t b ≤ b.natAbs := Nat.le_of_dvd (by omega) (Nat.gcd_dvd_right t.natAbs b.natAbs)
    omega
  unfold m_share
  simp only [m_is_whole, m_divisor_ok, Option.bind_some, orO, hb, decide_false, iteO, lt_def]
  rcases Int.lt_or_gt_of_ne hb with h' | h'
  · rw [qp_divInt_neg h']
    have d1 : (0 : Int) - (Int.gcd t b : Int) ∣ t := by rw [Int.zero_sub]; exact Int.neg_dvd.mpr (Int.gcd_dvd_left t b)
    have d2 : (0 : Int) - (Int.gcd t b : Int) ∣ b := by rw [Int.zero_sub]; exact Int.neg_dvd.mpr (Int.gcd_dvd_right t b)
    have e1 := divO_neg n (show (0 : Int) - (Int.gcd t b : Int) < 0 by omega) (show ((0 : Int) - (Int.gcd t b : Int)).natAbs < 2 ^ n by omega) hn d1
    have e2 := divO_neg n (show (0 : Int) - (Int.gcd t b : Int) < 0 by omega) (show ((0 : Int) - (Int.gcd t b : Int)).natAbs < 2 ^ n by omega) hn d2
    simp only [Bool.not_false, Bool.and_true, Bool.not_true, Bool.or_false, h', decide_true, Bool.false_or, Option.bind_some, e1, e2, if_true, Bool.false_eq_true, if_false]
  · rw [qp_divInt h']
    simp [show ¬ b < 0 by omega, divO_pos n (show (0 : Int) < (Int.gcd t b : Int) by omega) (show ((Int.gcd t b : Int)).natAbs < 2 ^ n by omega) hn]
section
variable {n : Int} {s w : List Int} {c : List (List Int)} {t : List (List (List Int))}
theorem m_row_at_ok (B : GBook n s c t) (W : GWorld n s w) {k : Int} (h0 : 0 ≤ k) (h : k < n) : m_row_at (Tri.mk s c t) k w = some (bRow s c t w k) := by
  obtain ⟨tb, et, er, _⟩ := B.row W h0 h
  obtain ⟨_, hp, hle⟩ := B.pos h0 h
  unfold m_row_at
  simp only [lt_def]
  rw [B.shape.at h0 h, Option.bind_some, mapO_ok (g := at0 s) (fun x hx => by
    obtain ⟨c0, c1⟩ := B.shape.dom' h0 h hx
    rw [(B.at c0 c1).1]; rfl), Option.bind_some, Option.bind_some, mapO_ok (g := at0 w) (fun x hx => by
    obtain ⟨c0, c1⟩ := B.shape.dom' h0 h hx
    rw [atI_at0 c0 (by have := W.len; omega)]; rfl), Option.bind_some, m_rank_ok hp (B.kin W h0 h) (by unfold big; omega), Option.bind_some, et, Option.bind_some]
  show (atI tb (bPlace s c w k)).bind _ = _
  rw [er]; rfl
theorem m_chance_at_ok (B : GBook n s c t) (W : GWorld n s w) {k : Int} (h0 : 0 ≤ k) (h : k < n) : m_chance_at (Tri.mk s c t) k w = some (qp (bChance s c t w k)) := by
  obtain ⟨tb, et, er, G⟩ := B.row W h0 h
  obtain ⟨_, _, h4⟩ := B.at h0 h
  obtain ⟨v0, v1⟩ := W.val k h0 h
  unfold m_chance_at
  rw [m_row_at_ok B W h0 h, Option.bind_some, atI_at0 h0 (by have := W.len; omega), Option.bind_some, (G.at v0 v1).1, Option.bind_some, m_share_ok (n := 203) (by decide) (by have := G.pos; omega) (G.sum_lt h4)]
  rfl
end
theorem law_whole_ok (x : Int) : m__law_whole x = some true := by unfold m__law_whole; rfl
theorem law_is_share_ok {n m : Nat} {r : Rat} {t b : Int} (hb : b ≠ 0) (e : Rat.divInt t b = r) (h1 : t.natAbs < 2 ^ n) (h2 : b.natAbs < 2 ^ n) (hr : Qz m r) (hn : n + m ≤ 900000) (n0 : 0 < n) (m0 : 0 < m) : m__law_is_share (qp r) t b = some true := by
  unfold m__law_is_share
  have hc := qp_cross hb e
  have hd := r.den_pos
  simp only [law_whole_ok, lt_def, qp1, qp2]
  rw [mulO_ok m n hr.num h2 m0 n0 (by omega), mulO_ok n m h1 hr.den n0 m0 (by omega)]
  simp only [Bool.not_true, orO, iteO, Option.bind_some, decide_true, if_false, Bool.false_eq_true, hc, show ¬ ((r.den : Int) < 1) by omega, decide_false]
  rw [gcd_loopI (c := m__law_is_share_l1c) (f := m__law_is_share_l1) (fun a b => by simp only [m__law_is_share_l1c]; congr 1; simp) (fun a b hb => by simp only [m__law_is_share_l1, lt_def]; rw [modO_pos (by omega)]; rfl) r.num (by omega), red_gcd r]
  rfl
section
variable {n : Int} {s w : List Int} {c : List (List Int)} {t : List (List (List Int))}
theorem law_due_go (hl : (s.length : Int) = n) (hw : (w.length : Int) = n) : ∀ {cs : List Int} {a : Int}, (∀ x ∈ cs, (0 ≤ x ∧ x < n) ∧ 1 ≤ at0 s x ∧ 0 ≤ at0 w x ∧ at0 w x < at0 s x) → 0 ≤ a → (a + 1) * pr (cs.map (at0 s)) ≤ big → forO (m__law_due_l1 (Tri.mk s c t) w) cs a = some (a * pr (cs.map (at0 s)) + rk (cs.map (at0 s)) (cs.map (at0 w)))
  | [], a, _, _, _ => by simp [forO, pr, rk]
  | x :: cs, a, h, ha, hb => by
    obtain ⟨⟨x0, x1⟩, s1, v0, v1⟩ := h x List.mem_cons_self
    have ht : ∀ y ∈ cs, (0 ≤ y ∧ y < n) ∧ 1 ≤ at0 s y ∧ 0 ≤ at0 w y ∧ at0 w y < at0 s y := fun y hy => h y (List.mem_cons_of_mem _ hy)
    have hq : 1 ≤ pr (cs.map (at0 s)) := pr_pos fun y hy => by
      obtain ⟨z, hz, rfl⟩ := List.mem_map.mp hy
      exact (ht z hz).2.1
    have e1 : (a + 1) * pr ((x :: cs).map (at0 s)) = (a * at0 s x + at0 s x) * pr (cs.map (at0 s)) := by
      show (a + 1) * (at0 s x * pr (cs.map (at0 s))) = _
      rw [← Int.mul_assoc, Int.add_mul, Int.one_mul]
    have h2 : (a * at0 s x + at0 w x + 1) * pr (cs.map (at0 s)) ≤ (a * at0 s x + at0 s x) * pr (cs.map (at0 s)) := Int.mul_le_mul_of_nonneg_right (by omega) (by omega)
    have has : 0 ≤ a * at0 s x := Int.mul_nonneg ha (by omega)
    have h3 : a * at0 s x + at0 s x ≤ (a * at0 s x + at0 s x) * pr (cs.map (at0 s)) := le_mul_right hq (by omega)
    have h4 : a ≤ a * at0 s x := le_mul_right s1 ha
    have es : m__law_due_l1 (Tri.mk s c t) w a x = some (a * at0 s x + at0 w x) := by
      simp only [m__law_due_l1, lt_def]
      rw [atI_at0 x0 (by omega), Option.bind_some, mulO_lo (lo_big ha (by omega)) (lo_big (by omega) (by omega)), Option.bind_some, atI_at0 x0 (by omega)]; rfl
    rw [forO_cons, es, Option.bind_some, law_due_go hl hw ht (by omega) (by omega)]
    congr 1
    show (a * at0 s x + at0 w x) * pr (cs.map (at0 s)) + rk (cs.map (at0 s)) (cs.map (at0 w)) = a * (at0 s x * pr (cs.map (at0 s))) + (at0 w x * pr (cs.map (at0 s)) + rk (cs.map (at0 s)) (cs.map (at0 w)))
    rw [Int.add_mul, Int.mul_assoc, Int.add_assoc]
theorem law_due_ok (B : GBook n s c t) (W : GWorld n s w) {k : Int} (h0 : 0 ≤ k) (h : k < n) : m__law_due (Tri.mk s c t) k w = some (bRow s c t w k) := by
  obtain ⟨tb, et, er, _⟩ := B.row W h0 h
  obtain ⟨_, hp, hle⟩ := B.pos h0 h
  unfold m__law_due
  simp only [lt_def]
  rw [B.shape.at h0 h, Option.bind_some, law_due_go B.slen W.len (fun x hx => by
    obtain ⟨c0, c1⟩ := B.shape.dom' h0 h hx
    have := B.at c0 c1
    have := W.val x c0 c1
    omega) (Int.le_refl 0) (by unfold big; omega), Option.bind_some, et, Option.bind_some, Int.zero_mul, Int.zero_add]
  show (atI tb (bPlace s c w k)).bind _ = _
  rw [er]; rfl
theorem law_good_ok (B : GBook n s c t) (W : GWorld n s w) {k : Int} (h0 : 0 ≤ k) (h : k < n) (turn : Int) : m__law_good (Tri.mk s c t) (Tri.mk s c t) w k turn = some true := by
  obtain ⟨tb, et, er, G⟩ := B.row W h0 h
  obtain ⟨_, h2, h4⟩ := B.at h0 h
  obtain ⟨v0, v1⟩ := W.val k h0 h
  obtain ⟨ga, g0, g1⟩ := G.at v0 v1
  have hlen := G.len
  unfold m__law_good
  rw [law_due_ok B W h0 h, Option.bind_some, rngO_ok (by omega) (by omega), Option.bind_some, forF_unit _ fun x hx => by
    simp only [m__law_good_l1]
    rw [iteO_dec]
    split
    · rw [m_row_at_ok B W h0 h, Option.bind_some]
      have e : mapO (fun zweight : Int => (m__law_whole zweight).bind fun t4 => some t4) (bRow s c t w k) = some ((bRow s c t w k).map fun _ => true) := mapO_ok fun x _ => by rw [law_whole_ok]; rfl
      rw [e]
      simp only [Bool.not_true, orO, iteO, Option.bind_some, all_true, decide_true, Bool.or_self, Bool.false_eq_true, if_false]
      rw [atI_ok (Int.le_refl 0) (by omega), Option.bind_some, setO_ok (Int.le_refl 0) (by omega), Option.bind_some, appO_ok (by rw [List.length_set]; omega)]
      rfl
    · rw [m_chance_at_ok B W h0 h, Option.bind_some, atI_at0 h0 (by have := W.len; omega), Option.bind_some, ga, Option.bind_some]
      have hq : Qz 203 (bChance s c t w k) := qz_divInt (by have := G.pos; omega) (Nat.lt_trans (lo_natAbs g0 g1) (by decide)) (G.sum_lt h4)
      rw [law_is_share_ok (n := 203) (m := 203) (r := bChance s c t w k) (by have := G.pos; omega) rfl (Nat.lt_trans (lo_natAbs g0 g1) (by decide)) (G.sum_lt h4) hq (by decide) (by decide) (by decide)]
      rfl]
  rfl
end
theorem law_ok (ns : List Int) : m_law ns = some true := by
  obtain ⟨v0, ev0⟩ := law_cell_ok (ns := ns) (k := 0) (by omega)
  obtain ⟨v1, ev1⟩ := law_cell_ok (ns := ns) (k := 1) (by omega)
  unfold m_law
  simp only [lt_def, ev0, ev1, Option.bind_some]
  have hn1 : 1 ≤ 1 + v0 % 12 := by omega
  have hn2 : 1 + v0 % 12 ≤ 12 := by omega
  generalize 1 + v0 % 12 = n at hn1 hn2
  obtain ⟨s, c, t, e3, B⟩ := law_three_ok (ns := ns) (many := n) (few := 2) (great := if decide (v0 / 12 % 3 = 1) = true then 1 else 0) (by omega) (by omega) (by omega) (by omega)
  rw [e3, Option.bind_some, law_copy_ok, Option.bind_some, rngO_ok (by omega) (by omega), Option.bind_some]
  obtain ⟨w, ew, lw, rw_⟩ := mapO_rng (n := n) (f := fun zk => (m__law_cell_at ns (((2 : Int) + ((2 : Int) * n)) + zk)).bind fun t6 => (atI s zk).bind fun t7 => (modO t6 t7).bind fun t8 => some t8) (R := fun k v => 0 ≤ v ∧ v < at0 s k) (fun k k0 k1 => by
    obtain ⟨v, ev⟩ := law_cell_ok (ns := ns) (k := 2 + 2 * n + k) (by omega)
    obtain ⟨e1, e2, _⟩ := B.at k0 k1
    rw [ev, Option.bind_some, e1, Option.bind_some, modO_pos (by omega)]
    exact ⟨_, rfl, Int.emod_nonneg _ (by omega), Int.emod_lt_of_pos _ (by omega)⟩)
  have W : GWorld n s w := ⟨by omega, fun k k0 k1 => by
    obtain ⟨v, ev, hv⟩ := rw_ k k0 k1
    rw [at0_of k0 ev]; exact hv⟩
  simp only [ew, Option.bind_some]
  rw [modO_pos (by omega), Option.bind_some]
  have a0 := Int.emod_nonneg (v1 / 12) (show n ≠ 0 by omega)
  have a1 := Int.emod_lt_of_pos (v1 / 12) (show 0 < n by omega)
  generalize v1 / 12 % n = at_ at a0 a1
  obtain ⟨e1, e2, _⟩ := B.at a0 a1
  have hwl := W.len
  have m0 := Int.emod_nonneg (at0 w at_ + 1) (show at0 s at_ ≠ 0 by omega)
  have m1 := Int.emod_lt_of_pos (at0 w at_ + 1) (show 0 < at0 s at_ by omega)
  rw [atI_at0 a0 (by omega), Option.bind_some, e1, Option.bind_some, modO_pos (by omega), Option.bind_some, setO_ok a0 (by omega), Option.bind_some]
  have W2 : GWorld n s (w.set at_.toNat ((at0 w at_ + 1) % at0 s at_)) := ⟨by rw [List.length_set]; exact hwl, fun k k0 k1 => by
    rw [at0_set k0]
    split
    · rename_i h
      have : k = at_ := by omega
      subst this
      exact ⟨m0, m1⟩
    · exact W.val k k0 k1⟩
  rw [forF_unit _ fun k hk => by
    obtain ⟨k0, k1⟩ := mem_rng.mp hk
    simp only [m_law_l1, law_good_ok B W k0 k1, law_good_ok B W2 k0 k1, Option.bind_some]
    rfl]
  simp only [Option.bind_some, flR, decide_true, andO, law_good_ok B W a0 a1]
  rfl
theorem law_true (ns : List Int) (hl : ns.length ≤ 63) : ∃ zscript y, [Mir.ToD.toD ns] = [Mir.ToD.toD (zscript : List Int)] ∧ m_law zscript = some y ∧ Mir.ToD.toD true = Mir.ToD.toD y := ⟨ns, true, rfl, law_ok ns, rfl⟩
end K17
namespace K17
open PySem PySem.Spec L2 Mir
open Mir.ToD (toD)
/-! ### the walk -/
def topS (i : Nat) : Stmt := PySem.Challenge.pw_causebook_k17_rows_and_chances.main.body.getD i (.Pass ⟨0, 0, 0, 0⟩)
structure Txt (K : PySem.W.Frag) (mg : Str → Option Value) where
  a_is_whole : Addr
  d_is_whole : FuncData
  F_is_whole : Fun K "is_whole" "is_whole" (topS 4) a_is_whole d_is_whole
  b_is_whole : Binds K d_is_whole ["thing"] []
  g_is_whole : mg "is_whole" = some (.ref a_is_whole)
  a_divisor : Addr
  d_divisor : FuncData
  F_divisor : Fun K "divisor" "divisor" (topS 5) a_divisor d_divisor
  b_divisor : Binds K d_divisor ["one", "other"] []
  g_divisor : mg "divisor" = some (.ref a_divisor)
  a_share : Addr
  d_share : FuncData
  F_share : Fun K "share" "share" (topS 6) a_share d_share
  b_share : Binds K d_share ["top", "bottom"] []
  g_share : mg "share" = some (.ref a_share)
  a_rank : Addr
  d_rank : FuncData
  F_rank : Fun K "rank" "rank" (topS 8) a_rank d_rank
  b_rank : Binds K d_rank ["sizes", "world"] []
  g_rank : mg "rank" = some (.ref a_rank)
  a_row_at : Addr
  d_row_at : FuncData
  F_row_at : Fun K "row_at" "row_at" (topS 10) a_row_at d_row_at
  b_row_at : Binds K d_row_at ["told", "k", "world"] []
  g_row_at : mg "row_at" = some (.ref a_row_at)
  a_chance_at : Addr
  d_chance_at : FuncData
  F_chance_at : Fun K "chance_at" "chance_at" (topS 11) a_chance_at d_chance_at
  b_chance_at : Binds K d_chance_at ["told", "k", "world"] []
  g_chance_at : mg "chance_at" = some (.ref a_chance_at)
  a__law_cell_at : Addr
  d__law_cell_at : FuncData
  F__law_cell_at : Fun K "_law_cell_at" "_law_cell_at" (topS 13) a__law_cell_at d__law_cell_at
  b__law_cell_at : Binds K d__law_cell_at ["_law_script", "_law_k"] []
  g__law_cell_at : mg "_law_cell_at" = some (.ref a__law_cell_at)
  a__law_shape : Addr
  d__law_shape : FuncData
  F__law_shape : Fun K "_law_shape" "_law_shape" (topS 14) a__law_shape d__law_shape
  b__law_shape : Binds K d__law_shape ["_law_script", "_law_first", "_law_many"] []
  g__law_shape : mg "_law_shape" = some (.ref a__law_shape)
  a__law_row : Addr
  d__law_row : FuncData
  F__law_row : Fun K "_law_row" "_law_row" (topS 15) a__law_row d__law_row
  b__law_row : Binds K d__law_row ["_law_number", "_law_size", "_law_great"] []
  g__law_row : mg "_law_row" = some (.ref a__law_row)
  a__law_table : Addr
  d__law_table : FuncData
  F__law_table : Fun K "_law_table" "_law_table" (topS 16) a__law_table d__law_table
  b__law_table : Binds K d__law_table ["_law_cell", "_law_count_here", "_law_size", "_law_great"] []
  g__law_table : mg "_law_table" = some (.ref a__law_table)
  a__law_count : Addr
  d__law_count : FuncData
  F__law_count : Fun K "_law_count" "_law_count" (topS 17) a__law_count d__law_count
  b__law_count : Binds K d__law_count ["_law_sizes", "_law_row_here"] []
  g__law_count : mg "_law_count" = some (.ref a__law_count)
  a__law_three : Addr
  d__law_three : FuncData
  F__law_three : Fun K "_law_three" "_law_three" (topS 18) a__law_three d__law_three
  b__law_three : Binds K d__law_three ["_law_script", "_law_many", "_law_few", "_law_great"] []
  g__law_three : mg "_law_three" = some (.ref a__law_three)
  a__law_copy : Addr
  d__law_copy : FuncData
  F__law_copy : Fun K "_law_copy" "_law_copy" (topS 19) a__law_copy d__law_copy
  b__law_copy : Binds K d__law_copy ["_law_three_here"] []
  g__law_copy : mg "_law_copy" = some (.ref a__law_copy)
  a__law_whole : Addr
  d__law_whole : FuncData
  F__law_whole : Fun K "_law_whole" "_law_whole" (topS 20) a__law_whole d__law_whole
  b__law_whole : Binds K d__law_whole ["_law_found"] []
  g__law_whole : mg "_law_whole" = some (.ref a__law_whole)
  a__law_is_share : Addr
  d__law_is_share : FuncData
  F__law_is_share : Fun K "_law_is_share" "_law_is_share" (topS 21) a__law_is_share d__law_is_share
  b__law_is_share : Binds K d__law_is_share ["_law_found", "_law_top", "_law_bottom"] []
  g__law_is_share : mg "_law_is_share" = some (.ref a__law_is_share)
  a__law_due : Addr
  d__law_due : FuncData
  F__law_due : Fun K "_law_due" "_law_due" (topS 22) a__law_due d__law_due
  b__law_due : Binds K d__law_due ["_law_three_here", "_law_k", "_law_world"] []
  g__law_due : mg "_law_due" = some (.ref a__law_due)
  a__law_good : Addr
  d__law_good : FuncData
  F__law_good : Fun K "_law_good" "_law_good" (topS 23) a__law_good d__law_good
  b__law_good : Binds K d__law_good ["_law_three_here", "_law_made", "_law_world", "_law_k", "_law_turn"] []
  g__law_good : mg "_law_good" = some (.ref a__law_good)
  a_law : Addr
  d_law : FuncData
  F_law : Fun K "law" "law" (topS 24) a_law d_law
  b_law : Binds K d_law ["_law_script"] []
  g_law : mg "law" = some (.ref a_law)
  b_abs : mg "abs" = none
  b_all : mg "all" = none
  b_bool : mg "bool" = none
  b_int : mg "int" = none
  b_isinstance : mg "isinstance" = none
  b_len : mg "len" = none
  b_list : mg "list" = none
  b_max : mg "max" = none
  b_range : mg "range" = none
  b_sorted : mg "sorted" = none
  b_sum : mg "sum" = none
  b_tuple : mg "tuple" = none
  b_zip : mg "zip" = none
section
variable {P : Program} {w : World} {K : PySem.W.Frag} {mg : Str → Option Value} {base : Heap}
abbrev s_is_whole : Stmt := topS 4
abbrev nn_is_whole : List Str := ["thing"]
theorem sc_is_whole : FnScope nn_is_whole ["thing"] (defScope s_is_whole) := ⟨rfl, rfl, rfl, by decide +kernel, rfl, by decide +kernel, by decide +kernel⟩
def sp_is_whole (K : PySem.W.Frag) : Sp := FnS K fun ds r => ∃ thing y, ds = [toD (thing : Int)] ∧ m_is_whole thing = some y ∧ r = toD y
set_option maxHeartbeats 4000000 in
theorem ok_is_whole (T : Txt K mg) : FnOk P w K mg base CX0 1 T.a_is_whole T.d_is_whole ["thing"] (sp_is_whole K) := by
  refine T.F_is_whole.ok sc_is_whole (fun vs H Q E h => ?_) (fun cdv A outer s H vs Q E hr h => ?_)
  · obtain ⟨ds, r, hd, ⟨thing, y, rfl, _⟩, _⟩ := h
    exact dpAll_len hd
  · obtain ⟨ds, r, hd, ⟨thing, y, rfl, hm, rfl⟩, k⟩ := h
    unfold m_is_whole at hm
    refine ⟨_, pss_len (pss_cons (ps_ret (pe_and (pe_callB (show CallR _ (.builtin "isinstance") (rIsi K) from call_isi) (by rfl) T.b_isinstance (by decide +kernel) (pa_cons (pv 0) (pa_cons (pe_bltn (v := .ty "int") (by rfl) T.b_int (by decide +kernel) rfl) pa_nil))) (pe_one (pe_not (pe_callB (show CallR _ (.builtin "isinstance") (rIsi K) from call_isi) (by rfl) T.b_isinstance (by decide +kernel) (pa_cons (pv 0) (pa_cons (pe_bltn (v := .ty "bool") (by rfl) T.b_bool (by decide +kernel) rfl) pa_nil))))))) pss_nil), fun hl => ?_⟩
    refine body_S hl hd hm (show 1 ≤ 1 by decide) (Γ := [cs thing]) (Γ' := noΓ) rfl ?_ k
    exact (
  b_ret (e_andV (e_isi (d := toD (thing : Int)) (b := true) (ev_varF (i := 0)) (show kitB "int" "int" = some true by decide +kernel)) (fun hc => (e_notV (e_isi (d := toD (thing : Int)) (b := false) (ev_varF (i := 0)) (show kitB "int" "bool" = some false by decide +kernel))))))
abbrev s_divisor : Stmt := topS 5
abbrev nn_divisor : List Str := ["one", "other"]
theorem sc_divisor : FnScope nn_divisor ["one", "other"] (defScope s_divisor) := ⟨rfl, rfl, rfl, by decide +kernel, rfl, by decide +kernel, by decide +kernel⟩
def sp_divisor (K : PySem.W.Frag) : Sp := FnS K fun ds r => ∃ one other y, ds = [toD (one : Int), toD (other : Int)] ∧ m_divisor one other = some y ∧ r = toD y
set_option maxHeartbeats 4000000 in
theorem ok_divisor (T : Txt K mg) : FnOk P w K mg base CX0 1 T.a_divisor T.d_divisor ["one", "other"] (sp_divisor K) := by
  refine T.F_divisor.ok sc_divisor (fun vs H Q E h => ?_) (fun cdv A outer s H vs Q E hr h => ?_)
  · obtain ⟨ds, r, hd, ⟨one, other, y, rfl, _⟩, _⟩ := h
    exact dpAll_len hd
  · obtain ⟨ds, r, hd, ⟨one, other, y, rfl, hm, rfl⟩, k⟩ := h
    unfold m_divisor at hm
    refine ⟨_, pss_len (pss_cons (ps_set (i := 0) sc_divisor.nd rfl (by first | exact .inl rfl | exact .inr rfl) (pe_callB call_abs' (by rfl) T.b_abs (by decide +kernel) (pa_cons (pv 0) pa_nil))) (pss_cons (ps_set (i := 1) sc_divisor.nd rfl (by first | exact .inl rfl | exact .inr rfl) (pe_callB call_abs' (by rfl) T.b_abs (by decide +kernel) (pa_cons (pv 1) pa_nil))) (pss_cons (ps_while PassesOwn.never (pt_cmpR op_gt (pv 1) pe_int (nomark _)) (pss_cons (ps_par rfl sc_divisor.nd (i := 0) (j := 1) rfl rfl (by decide) rfl rfl (pa_cons (pv 1) (pa_cons (pe_op op_modN (pv 0) (pv 1)) pa_nil)) (by rfl)) pss_nil)) (pss_cons (ps_ret (pv 0)) pss_nil)))), fun hl => ?_⟩
    refine body_S hl hd hm (show 2 ≤ 2 by decide) (Γ := [cs one, cs other]) (Γ' := noΓ) rfl ?_ k
    exact (
  b_asgL (md := .n) (e_abs (ev_varF (i := 0))) nh (show 0 < 2 by decide) (Γ2 := fun one => [cn one, cs other]) (fun _ => rfl) fun one e1 =>
  b_asgL (md := .n) (e_abs (ev_varF (i := 1))) nh (show 1 < 2 by decide) (Γ2 := fun other => [cn one, cn other]) (fun _ => rfl) fun other e2 =>
  b_while (Γ1 := fun (st : Int × Int) => match st with | (one, other) => [cn one, cn other]) (fun ⟨one, other⟩ x hy => (some_t hy (t_cmp (e_gt (ev_varF (i := 1)) ev_int)))) (fun ⟨one, other⟩ =>
  b_bind fun t3 ht3 =>
  b_parL (md := .n) (a_cons (ev_varF (i := 1)) (a_cons (e_mod (ev_varF (i := 0)) (ev_varF (i := 1)) ht3) a_nil)) nh (show 0 < 2 by decide) (show 1 < 2 by decide) (Γ2 := fun one other => [cn one, cn other]) (fun _ _ => rfl) fun one other e5 e6 =>
  b_end (wk_c (wk_c .nil))) (wk_c (wk_c .nil)) (fun ⟨one, other⟩ =>
  b_ret (ev_varF (i := 0))))
abbrev s_share : Stmt := topS 6
abbrev nn_share : List Str := ["top", "bottom", "many"]
theorem sc_share : FnScope nn_share ["top", "bottom"] (defScope s_share) := ⟨rfl, rfl, rfl, by decide +kernel, rfl, by decide +kernel, by decide +kernel⟩
def sp_share (K : PySem.W.Frag) : Sp := FnS K fun ds r => ∃ top bottom y, ds = [toD (top : Int), toD (bottom : Int)] ∧ m_share top bottom = some y ∧ r = toD y
set_option maxHeartbeats 4000000 in
theorem ok_share (T : Txt K mg) : FnOk P w K mg base CX0 2 T.a_share T.d_share ["top", "bottom"] (sp_share K) := by
  refine T.F_share.ok sc_share (fun vs H Q E h => ?_) (fun cdv A outer s H vs Q E hr h => ?_)
  · obtain ⟨ds, r, hd, ⟨top, bottom, y, rfl, _⟩, _⟩ := h
    exact dpAll_len hd
  · obtain ⟨ds, r, hd, ⟨top, bottom, y, rfl, hm, rfl⟩, k⟩ := h
    unfold m_share at hm
    refine ⟨_, pss_len (pss_cons (ps_if (PW.pt (pw_or (pt_not (pt_val (pe_call (ok_is_whole T) (hr.mono (by decide)) (by rfl) T.g_is_whole T.F_is_whole.kp T.b_is_whole .nil pass0 (pa_cons (pv 0) pa_nil)))) (pw_or (pt_not (pt_val (pe_call (ok_is_whole T) (hr.mono (by decide)) (by rfl) T.g_is_whole T.F_is_whole.kp T.b_is_whole .nil pass0 (pa_cons (pv 1) pa_nil)))) (pw_or1 (pt_cmpR (show OpR _ _ (rEqD K) from op_eqD hr.units) (pv 1) pe_int (nomark _)))))) (pss_cons ps_never pss_never) pss_nil) (pss_cons (ps_set (i := 2) sc_share.nd rfl (by first | exact .inl rfl | exact .inr rfl) (pe_call (ok_divisor T) (hr.mono (by decide)) (by rfl) T.g_divisor T.F_divisor.kp T.b_divisor .nil pass0 (pa_cons (pv 0) (pa_cons (pv 1) pa_nil)))) (pss_cons (ps_if (pt_cmpR op_lt (pv 1) pe_int (nomark _)) (pss_cons (ps_set (i := 2) sc_share.nd rfl (by first | exact .inl rfl | exact .inr rfl) (pe_op op_sub pe_int (pv 2))) pss_nil) pss_nil) (pss_cons (ps_ret (pe_tup (pa_cons (pe_op op_fdivX (pv 0) (pv 2)) (pa_cons (pe_op op_fdivX (pv 1) (pv 2)) pa_nil)))) pss_nil)))), fun hl => ?_⟩
    refine body_S hl hd hm (show 2 ≤ 3 by decide) (Γ := [cs top, cs bottom, c0]) (Γ' := noΓ) rfl ?_ k
    exact (
  b_bind fun t1 ht1 =>
  b_bind fun t3 ht3 =>
  b_ifR (Γ0 := noΓ) (t_orO (t_not (t_val (ev_flat (m1 := .h) (e_call (a_cons (ev_varF (i := 0)) a_nil) ⟨_, _, rfl, ht1, rfl⟩)))) (fun hc y hy => (have ⟨t2, ht2, hy⟩ := bind_some_iff hy; some_t hy (t_or (t_not (t_val (ev_flat (m1 := .h) (e_call (a_cons (ev_varF (i := 1)) a_nil) ⟨_, _, rfl, ht2, rfl⟩)))) (fun hc => (t_cmp (e_eq (α := Int) (ev_varF (i := 1)) ev_int)))))) ht3) (fun hc =>
  (fun w hw => by cases hw)) (fun hc =>
  b_bind fun many ht4 =>
  b_asg (md := .n) (ev_flat (m1 := .h) (e_call (a_cons (ev_varF (i := 0)) (a_cons (ev_varF (i := 1)) a_nil)) ⟨_, _, _, rfl, ht4, rfl⟩)) nh (show 2 < 3 by decide) (Γ2 := [cs top, cs bottom, cn many]) rfl (
  b_if (Γ1 := fun (many : Int) => [cs top, cs bottom, cn many]) (t_cmp (e_lt (ev_varF (i := 1)) ev_int)) (fun hc =>
  b_asgL (md := .n) (e_sub ev_int (ev_varF (i := 2))) nh (show 2 < 3 by decide) (Γ2 := fun many => [cs top, cs bottom, cn many]) (fun _ => rfl) fun many e5 =>
  b_end (wk_c (wk_c (wk_c .nil)))) (fun hc =>
  b_end (wk_c (wk_c (wk_c .nil)))) (fun many =>
  b_bind fun t6 ht6 =>
  b_bind fun t7 ht7 =>
  b_ret (e_pair (a_cons (e_div (ev_varF (i := 0)) (ev_varF (i := 2)) ht6) (a_cons (e_div (ev_varF (i := 1)) (ev_varF (i := 2)) ht7) a_nil)))))))
abbrev s_rank : Stmt := topS 8
abbrev nn_rank : List Str := ["sizes", "world", "place", "size", "value"]
theorem sc_rank : FnScope nn_rank ["sizes", "world"] (defScope s_rank) := ⟨rfl, rfl, rfl, by decide +kernel, rfl, by decide +kernel, by decide +kernel⟩
def sp_rank (K : PySem.W.Frag) : Sp := FnS K fun ds r => ∃ sizes world y, ds = [toD (sizes : (List Int)), toD (world : (List Int))] ∧ m_rank sizes world = some y ∧ r = toD y
set_option maxHeartbeats 4000000 in
theorem ok_rank (T : Txt K mg) : FnOk P w K mg base CX0 1 T.a_rank T.d_rank ["sizes", "world"] (sp_rank K) := by
  refine T.F_rank.ok sc_rank (fun vs H Q E h => ?_) (fun cdv A outer s H vs Q E hr h => ?_)
  · obtain ⟨ds, r, hd, ⟨sizes, world, y, rfl, _⟩, _⟩ := h
    exact dpAll_len hd
  · obtain ⟨ds, r, hd, ⟨sizes, world, y, rfl, hm, rfl⟩, k⟩ := h
    unfold m_rank at hm
    refine ⟨_, pss_len (pss_cons (ps_set (i := 2) sc_rank.nd rfl (by first | exact .inl rfl | exact .inr rfl) pe_int) (pss_cons (ps_for PassesOwn.never rfl (pi_zip (by rfl) T.b_zip (pa_cons (pv 0) (pa_cons (pv 1) pa_nil))) (pg_tup rfl (pgs_cons (pg_name (i := 3) sc_rank.nd rfl (by first | exact .inl rfl | exact .inr rfl)) (pgs_cons (pg_name (i := 4) sc_rank.nd rfl (by first | exact .inl rfl | exact .inr rfl)) pgs_nil))) (pss_cons (ps_set (i := 2) sc_rank.nd rfl (by first | exact .inl rfl | exact .inr rfl) (pe_op op_add (pe_op op_mulW (pv 2) (pv 3)) (pv 4))) pss_nil)) (pss_cons (ps_ret (pv 2)) pss_nil))), fun hl => ?_⟩
    refine body_S hl hd hm (show 2 ≤ 5 by decide) (Γ := [cs sizes, cs world, c0, c0, c0]) (Γ' := noΓ) rfl ?_ k
    exact (
  b_asgL (md := .n) ev_int nh (show 2 < 5 by decide) (Γ2 := fun place => [cs sizes, cs world, cn place, c0, c0]) (fun _ => rfl) fun place e1 =>
  b_for (Γ1 := fun (place : Int) => [c0, c0, cn place, c0, c0]) (Γ2 := fun (st : Int) (it : (Int × Int)) => match st, it with | place, (size, value) => [c0, c0, cn place, cs size, cs value]) (i_zip (ev_var (i := 0)) (ev_var (i := 1)) sh) (fun place ⟨size, value⟩ => g_pair sh (by decide) (show 3 < 5 by decide) (show 4 < 5 by decide)) (fun place ⟨size, value⟩ =>
  b_bind fun t2 ht2 =>
  b_asgL (md := .n) (e_add (e_mul (ev_varF (i := 2)) (ev_varF (i := 3)) ht2) (ev_varF (i := 4))) nh (show 2 < 5 by decide) (Γ2 := fun place => [c0, c0, cn place, cs size, cs value]) (fun _ => rfl) fun place e3 =>
  b_end (wk_c (wk_c (wk_c (wk_d (wk_d .nil)))))) (wk_d (wk_d (wk_c (wk_c (wk_c .nil))))) (fun place =>
  b_ret (ev_varF (i := 2))))
abbrev s_row_at : Stmt := topS 10
abbrev nn_row_at : List Str := ["told", "k", "world", "sizes", "causes", "tables", "place", "c"]
theorem sc_row_at : FnScope nn_row_at ["told", "k", "world"] (defScope s_row_at) := ⟨rfl, rfl, rfl, by decide +kernel, rfl, by decide +kernel, by decide +kernel⟩
def sp_row_at (K : PySem.W.Frag) : Sp := FnO K fun ds r => ∃ told k_ world y, ds = [toD (told : (Tri (List Int) (List (List Int)) (List (List (List Int))))), toD (k_ : Int), toD (world : (List Int))] ∧ m_row_at told k_ world = some y ∧ r = y.map toD
set_option maxHeartbeats 4000000 in
theorem ok_row_at (T : Txt K mg) : FnOk P w K mg base CX0 2 T.a_row_at T.d_row_at ["told", "k", "world"] (sp_row_at K) := by
  refine T.F_row_at.ok sc_row_at (fun vs H Q E h => ?_) (fun cdv A outer s H vs Q E hr h => ?_)
  · obtain ⟨ds, r, hd, ⟨told, k_, world, y, rfl, _⟩, _⟩ := h
    exact dpAll_len hd
  · obtain ⟨ds, r, hd, ⟨told, k_, world, y, rfl, hm, rfl⟩, k⟩ := h
    unfold m_row_at at hm
    refine ⟨_, pss_len (pss_cons (ps_asg (pv 0) (pg_tup rfl (pgs_cons (pg_name (i := 3) sc_row_at.nd rfl (by first | exact .inl rfl | exact .inr rfl)) (pgs_cons (pg_name (i := 4) sc_row_at.nd rfl (by first | exact .inl rfl | exact .inr rfl)) (pgs_cons (pg_name (i := 5) sc_row_at.nd rfl (by first | exact .inl rfl | exact .inr rfl)) pgs_nil))))) (pss_cons (ps_set (i := 6) sc_row_at.nd rfl (by first | exact .inl rfl | exact .inr rfl) (pe_call (ok_rank T) (hr.mono (by decide)) (by rfl) T.g_rank T.F_rank.kp T.b_rank .nil pass0 (pa_cons (pe_lc (own := [("c", 7)]) rfl sc_row_at.nd (show PI _ _ _ (iList K _) from pi_list (pe_ix (show IxR _ (rIxL K) from ix_list) (pv 4) (pv 1) (fun _ _ => rfl))) (blkOk_by (own := [("c", 7)]) (N := nn_row_at) (sc := defScope s_row_at) (by decide +kernel)) (fun _ _ _ _ _ => (pg_name (i := 7) sc_row_at.nd rfl (Or.inl rfl))) (fun _ _ _ _ _ => pts_nil) (fun _ _ _ _ _ => (pe_ix (show IxR _ (rIxL K) from ix_list) (pv 3) (pv 7) (fun _ _ => rfl)))) (pa_cons (pe_lc (own := [("c", 7)]) rfl sc_row_at.nd (show PI _ _ _ (iList K _) from pi_list (pe_ix (show IxR _ (rIxL K) from ix_list) (pv 4) (pv 1) (fun _ _ => rfl))) (blkOk_by (own := [("c", 7)]) (N := nn_row_at) (sc := defScope s_row_at) (by decide +kernel)) (fun _ _ _ _ _ => (pg_name (i := 7) sc_row_at.nd rfl (Or.inl rfl))) (fun _ _ _ _ _ => pts_nil) (fun _ _ _ _ _ => (pe_ix (show IxR _ (rIxL K) from ix_list) (pv 2) (pv 7) (fun _ _ => rfl)))) pa_nil)))) (pss_cons (ps_ret (pe_callTy (show CallR _ (.type "list") (rListS K) from call_listS) (by rfl) T.b_list (by decide +kernel) (pa_cons (pe_ix (show IxR _ (rIxL K) from ix_list) (pe_ix (show IxR _ (rIxL K) from ix_list) (pv 5) (pv 1) (fun _ _ => rfl)) (pv 6) (fun _ _ => rfl)) pa_nil))) pss_nil))), fun hl => ?_⟩
    refine body_O hl hd hm (show 3 ≤ 8 by decide) (Γ := [cs told, cs k_, cs world, c0, c0, c0, c0, c0]) (Γ' := noΓ) rfl ?_ k
    exact (
  b_tup3 (md := .s) (ev_var (i := 0)) sh (show 3 < 8 by decide) (show 4 < 8 by decide) (show 5 < 8 by decide) (by decide) (by decide) (by decide) (Γ2 := fun sizes causes tables => [cs told, cs k_, cs world, cs sizes, cs causes, cs tables, c0, c0]) (fun _ _ _ => rfl) fun sizes causes tables e10 =>
  b_bind fun t1 ht1 =>
  b_bind fun t3 ht3 =>
  b_bind fun t4 ht4 =>
  b_bind fun t6 ht6 =>
  b_bind fun place ht7 =>
  b_asg (md := .n) (ev_flat (m1 := .h) (e_call (a_cons (ev_h (md := .n) (evO_ev (o_map1 (i_list (e_idx (ev_var (i := 4)) (ev_varF (i := 1)) ht1) sh) sh (fun c y hy => (have ⟨t2, ht2, hy⟩ := bind_some_iff hy; some_ev hy (ev_flat (e_idx (ev_h (md := .s) (ev_var (i := 3))) (ev_varF (i := 7)) ht2)))) ht3 nh))) (a_cons (ev_h (md := .n) (evO_ev (o_map1 (i_list (e_idx (ev_var (i := 4)) (ev_varF (i := 1)) ht4) sh) sh (fun c y hy => (have ⟨t5, ht5, hy⟩ := bind_some_iff hy; some_ev hy (ev_flat (e_idx (ev_h (md := .s) (ev_var (i := 2))) (ev_varF (i := 7)) ht5)))) ht6 nh))) a_nil)) ⟨_, _, _, rfl, ht7, rfl⟩)) nh (show 6 < 8 by decide) (Γ2 := [cs told, cs k_, cs world, cs sizes, cs causes, cs tables, cn place, c0]) rfl (
  b_bind fun t8 ht8 =>
  b_bind fun t9 ht9 =>
  b_retO (o_listF (ev_h (md := .s) (e_idx (e_idx (ev_var (i := 5)) (ev_varF (i := 1)) ht8) (ev_varF (i := 6)) ht9)))))
abbrev s_chance_at : Stmt := topS 11
abbrev nn_chance_at : List Str := ["told", "k", "world", "row"]
theorem sc_chance_at : FnScope nn_chance_at ["told", "k", "world"] (defScope s_chance_at) := ⟨rfl, rfl, rfl, by decide +kernel, rfl, by decide +kernel, by decide +kernel⟩
def sp_chance_at (K : PySem.W.Frag) : Sp := FnS K fun ds r => ∃ told k_ world y, ds = [toD (told : (Tri (List Int) (List (List Int)) (List (List (List Int))))), toD (k_ : Int), toD (world : (List Int))] ∧ m_chance_at told k_ world = some y ∧ r = toD y
set_option maxHeartbeats 4000000 in
theorem ok_chance_at (T : Txt K mg) : FnOk P w K mg base CX0 3 T.a_chance_at T.d_chance_at ["told", "k", "world"] (sp_chance_at K) := by
  refine T.F_chance_at.ok sc_chance_at (fun vs H Q E h => ?_) (fun cdv A outer s H vs Q E hr h => ?_)
  · obtain ⟨ds, r, hd, ⟨told, k_, world, y, rfl, _⟩, _⟩ := h
    exact dpAll_len hd
  · obtain ⟨ds, r, hd, ⟨told, k_, world, y, rfl, hm, rfl⟩, k⟩ := h
    unfold m_chance_at at hm
    refine ⟨_, pss_len (pss_cons (ps_set (i := 3) sc_chance_at.nd rfl (by first | exact .inl rfl | exact .inr rfl) (pe_call (ok_row_at T) (hr.mono (by decide)) (by rfl) T.g_row_at T.F_row_at.kp T.b_row_at .nil pass0 (pa_cons (pv 0) (pa_cons (pv 1) (pa_cons (pv 2) pa_nil))))) (pss_cons (ps_ret (pe_call (ok_share T) (hr.mono (by decide)) (by rfl) T.g_share T.F_share.kp T.b_share .nil pass0 (pa_cons (pe_ix (show IxR _ (rIxL K) from ix_list) (pv 3) (pe_ix (show IxR _ (rIxL K) from ix_list) (pv 2) (pv 1) (fun _ _ => rfl)) (fun _ _ => rfl)) (pa_cons (pe_callB (show CallR _ (.builtin "sum") (rSum K) from cr_sum rfl) (by rfl) T.b_sum (by decide +kernel) (pa_cons (pv 3) pa_nil)) pa_nil)))) pss_nil)), fun hl => ?_⟩
    refine body_S hl hd hm (show 3 ≤ 4 by decide) (Γ := [cs told, cs k_, cs world, c0]) (Γ' := noΓ) rfl ?_ k
    exact (
  b_bind fun row_ ht1 =>
  b_asgO (md := .n) (o_call (a_cons (ev_h (md := .s) (ev_var (i := 0))) (a_cons (ev_varF (i := 1)) (a_cons (ev_h (md := .s) (ev_var (i := 2))) a_nil))) ⟨_, _, _, _, rfl, ht1, rfl⟩) nh (show 3 < 4 by decide) (Γ2 := [cs told, cs k_, cs world, co row_]) rfl (
  b_bind fun t2 ht2 =>
  b_bind fun t3 ht3 =>
  b_bind fun t4 ht4 =>
  b_ret (e_call (a_cons (ev_flat (e_idx (ev_varO (i := 3)) (ev_flat (e_idx (ev_h (md := .s) (ev_var (i := 2))) (ev_varF (i := 1)) ht2)) ht3)) (a_cons (e_sum (ev_varO (i := 3))) a_nil)) ⟨_, _, _, rfl, ht4, rfl⟩)))
abbrev s__law_cell_at : Stmt := topS 13
abbrev nn__law_cell_at : List Str := ["_law_script", "_law_k"]
theorem sc__law_cell_at : FnScope nn__law_cell_at ["_law_script", "_law_k"] (defScope s__law_cell_at) := ⟨rfl, rfl, rfl, by decide +kernel, rfl, by decide +kernel, by decide +kernel⟩
def sp__law_cell_at (K : PySem.W.Frag) : Sp := FnS K fun ds r => ∃ zscript zk y, ds = [toD (zscript : (List Int)), toD (zk : Int)] ∧ m__law_cell_at zscript zk = some y ∧ r = toD y
set_option maxHeartbeats 4000000 in
theorem ok__law_cell_at (T : Txt K mg) : FnOk P w K mg base CX0 1 T.a__law_cell_at T.d__law_cell_at ["_law_script", "_law_k"] (sp__law_cell_at K) := by
  refine T.F__law_cell_at.ok sc__law_cell_at (fun vs H Q E h => ?_) (fun cdv A outer s H vs Q E hr h => ?_)
  · obtain ⟨ds, r, hd, ⟨zscript, zk, y, rfl, _⟩, _⟩ := h
    exact dpAll_len hd
  · obtain ⟨ds, r, hd, ⟨zscript, zk, y, rfl, hm, rfl⟩, k⟩ := h
    unfold m__law_cell_at at hm
    refine ⟨_, pss_len (pss_cons (ps_if (pt_cmpR op_lt (pv 1) (pe_callB (show CallR _ (.builtin "len") (rLenS K) from call_lenS) (by rfl) T.b_len (by decide +kernel) (pa_cons (pv 0) pa_nil)) (nomark _)) (pss_cons (ps_ret (pe_ix (show IxR _ (rIxL K) from ix_list) (pv 0) (pv 1) (fun _ _ => rfl))) pss_nil) pss_nil) (pss_cons (ps_ret pe_int) pss_nil)), fun hl => ?_⟩
    refine body_S hl hd hm (show 2 ≤ 2 by decide) (Γ := [cs zscript, cs zk]) (Γ' := noΓ) rfl ?_ k
    exact (
  b_ifR (Γ0 := noΓ) (t_cmp (e_lt (ev_varF (i := 1)) (e_len (ev_h (md := .s) (ev_var (i := 0)))))) (fun hc =>
  b_bind fun t1 ht1 =>
  b_ret (ev_flat (e_idx (ev_h (md := .s) (ev_var (i := 0))) (ev_varF (i := 1)) ht1))) (fun hc =>
  b_ret ev_int))
abbrev s__law_shape : Stmt := topS 14
abbrev nn__law_shape : List Str := ["_law_script", "_law_first", "_law_many", "_law_order", "_law_k", "_law_causes", "_law_at", "_law_number", "_law_dense", "_law_c", "_law_row_here"]
theorem sc__law_shape : FnScope nn__law_shape ["_law_script", "_law_first", "_law_many"] (defScope s__law_shape) := ⟨rfl, rfl, rfl, by decide +kernel, rfl, by decide +kernel, by decide +kernel⟩
def sp__law_shape (K : PySem.W.Frag) : Sp := FnP K fun ds r => ∃ zscript zfirst zmany y, ds = [toD (zscript : (List Int)), toD (zfirst : Int), toD (zmany : Int)] ∧ m__law_shape zscript zfirst zmany = some y ∧ r = y.map (·.map toD)
set_option maxHeartbeats 4000000 in
theorem ok__law_shape (T : Txt K mg) : FnOk P w K mg base CX0 2 T.a__law_shape T.d__law_shape ["_law_script", "_law_first", "_law_many"] (sp__law_shape K) := by
  refine T.F__law_shape.ok sc__law_shape (fun vs H Q E h => ?_) (fun cdv A outer s H vs Q E hr h => ?_)
  · obtain ⟨ds, r, hd, ⟨zscript, zfirst, zmany, y, rfl, _⟩, _⟩ := h
    exact dpAll_len hd
  · obtain ⟨ds, r, hd, ⟨zscript, zfirst, zmany, y, rfl, hm, rfl⟩, k⟩ := h
    unfold m__law_shape at hm
    refine ⟨_, pss_len (pss_cons (ps_set (i := 3) sc__law_shape.nd rfl (by first | exact .inl rfl | exact .inr rfl) (pe_lst pa_nil)) (pss_cons (ps_for PassesOwn.never rfl (pi_range1 (by rfl) T.b_range (pa_cons (pv 2) pa_nil)) (pg_name (i := 4) sc__law_shape.nd rfl (by first | exact .inl rfl | exact .inr rfl)) (pss_cons (ps_expr (pe_bm PySem.F.plainAttrs_list PySem.F.slot_list_insert PySem.F.type_list_insert mt_insert' (pv 3) (pa_cons (pe_op op_modN (pe_call (ok__law_cell_at T) (hr.mono (by decide)) (by rfl) T.g__law_cell_at T.F__law_cell_at.kp T.b__law_cell_at .nil pass0 (pa_cons (pv 0) (pa_cons (pe_op op_add (pv 1) (pe_op op_mul pe_int (pv 4))) pa_nil))) (pe_op op_add (pv 4) pe_int)) (pa_cons (pv 4) pa_nil)))) pss_nil)) (pss_cons (ps_setLc (i := 5) (own := [("_law_k", 4)]) rfl sc__law_shape.nd rfl rfl (sw_true rfl rfl rfl (by decide +kernel)) (pi_range1 (by rfl) T.b_range (pa_cons (pv 2) pa_nil)) (blkOk_by (own := [("_law_k", 4)]) (N := nn__law_shape) (sc := defScope s__law_shape) (by decide +kernel)) (fun _ _ _ _ _ => (pg_name (i := 4) sc__law_shape.nd rfl (Or.inl rfl))) (fun _ _ _ _ _ => pts_nil) (fun _ _ _ _ _ => (pe_lst pa_nil))) (pss_cons (ps_for PassesOwn.never rfl (pi_range1 (by rfl) T.b_range (pa_cons (pv 2) pa_nil)) (pg_name (i := 6) sc__law_shape.nd rfl (by first | exact .inl rfl | exact .inr rfl)) (pss_cons (ps_set (i := 7) sc__law_shape.nd rfl (by first | exact .inl rfl | exact .inr rfl) (pe_op op_modN (pe_op op_add (pe_op op_mul (pe_call (ok__law_cell_at T) (hr.mono (by decide)) (by rfl) T.g__law_cell_at T.F__law_cell_at.kp T.b__law_cell_at .nil pass0 (pa_cons (pv 0) (pa_cons (pe_op op_add (pv 1) (pe_op op_mul pe_int (pe_ix (show IxR _ (rIxL K) from ix_list) (pv 3) (pv 6) (fun _ _ => rfl)))) pa_nil))) pe_int) (pe_op op_mul pe_int (pe_op op_add (pv 6) pe_int))) pe_int)) (pss_cons (ps_set (i := 8) sc__law_shape.nd rfl (by first | exact .inl rfl | exact .inr rfl) (pe_op op_add pe_int (pe_op op_modN (pv 7) pe_int))) (pss_cons (ps_for PassesOwn.never rfl (show PI _ _ _ (iList K _) from pi_list (pe_slice (show SlR _ (rSlL K) from sl_list) (pv 3) po_none (po_some (pv 6)))) (pg_name (i := 9) sc__law_shape.nd rfl (by first | exact .inl rfl | exact .inr rfl)) (pss_cons (ps_set (i := 7) sc__law_shape.nd rfl (by first | exact .inl rfl | exact .inr rfl) (pe_op op_modN (pe_op op_add (pe_op op_mul (pv 7) pe_int) pe_int) pe_int)) (pss_cons (ps_if (PW.pt (pw_and (pt_cmpR op_lt (pe_op op_modN (pe_op op_fdivX (pv 7) pe_int) pe_int) (pv 8) (nomark _)) (pw_and1 (pt_cmpR op_lt (pe_callB (show CallR _ (.builtin "len") (rLenS K) from call_lenS) (by rfl) T.b_len (by decide +kernel) (pa_cons (pe_ix (show IxR _ (rIxL K) from ix_list) (pv 5) (pe_ix (show IxR _ (rIxL K) from ix_list) (pv 3) (pv 6) (fun _ _ => rfl)) (fun _ _ => rfl)) pa_nil)) pe_int (nomark _))))) (pss_cons (ps_expr (pe_bm PySem.F.plainAttrs_list PySem.F.slot_list_append PySem.F.type_list_append mt_append (pe_ix (show IxR _ (rIxL K) from ix_list) (pv 5) (pe_ix (show IxR _ (rIxL K) from ix_list) (pv 3) (pv 6) (fun _ _ => rfl)) (fun _ _ => rfl)) (pa_cons (pv 9) pa_nil))) pss_nil) pss_nil) pss_nil))) pss_nil)))) (pss_cons (ps_ret (pe_lc (own := [("_law_row_here", 10)]) rfl sc__law_shape.nd (show PI _ _ _ (iList K _) from pi_list (pv 5)) (blkOk_by (own := [("_law_row_here", 10)]) (N := nn__law_shape) (sc := defScope s__law_shape) (by decide +kernel)) (fun _ _ _ _ _ => (pg_name (i := 10) sc__law_shape.nd rfl (Or.inl rfl))) (fun _ _ _ _ _ => pts_nil) (fun _ _ _ _ _ => (pe_callB (show CallR _ (.builtin "sorted") (rSortedI K) from cr_sortedI) (by rfl) T.b_sorted (by decide +kernel) (pa_cons (pv 10) pa_nil))))) pss_nil))))), fun hl => ?_⟩
    refine body_P hl hd hm (show 3 ≤ 11 by decide) (Γ := [cs zscript, cs zfirst, cs zmany, c0, c0, c0, c0, c0, c0, c0, c0]) (Γ' := noΓ) rfl ?_ k
    exact (
  b_asgOL (md := .n) (o_lstT (xs := ([] : List Int)) (show 0 ≤ sizeLine by decide) a_nil) nh (show 3 < 11 by decide) (Γ2 := fun zorder => [cs zscript, cs zfirst, cs zmany, co zorder, c0, c0, c0, c0, c0, c0, c0]) (fun _ => rfl) fun zorder e1 =>
  b_bind fun t2 ht2 =>
  b_for (Γ1 := fun (zorder : (List Int)) => [cs zscript, cs zfirst, cs zmany, co zorder, c0, c0, c0, c0, c0, c0, c0]) (Γ2 := fun (zorder : (List Int)) (zk : Int) => [cs zscript, cs zfirst, cs zmany, co zorder, cn zk, c0, c0, c0, c0, c0, c0]) (i_rng1 (ev_varF (i := 2)) ht2) (fun zorder zk => g_name nh (show 4 < 11 by decide)) (fun zorder zk =>
  b_bind fun t3 ht3 =>
  b_bind fun t4 ht4 =>
  b_bind fun zorder h5 =>
  b_insert (i := 3) rfl (e_mod (ev_flat (m1 := .h) (e_call (a_cons (ev_h (md := .s) (ev_var (i := 0))) (a_cons (e_add (ev_varF (i := 1)) (e_mulL ev_int (ev_varF (i := 4)))) a_nil)) ⟨_, _, _, rfl, ht3, rfl⟩)) (e_add (ev_varF (i := 4)) ev_int) ht4) (ev_varF (i := 4)) h5 (Γ2 := [cs zscript, cs zfirst, cs zmany, co zorder, cn zk, c0, c0, c0, c0, c0, c0]) rfl (
  b_end (wk_c (wk_c (wk_c (wk_c (wk_d (wk_c (wk_c (wk_c (wk_c (wk_c (wk_c .nil))))))))))))) (wk_c (wk_c (wk_c (wk_c (wk_c (wk_c (wk_c (wk_c (wk_c (wk_c (wk_c .nil))))))))))) (fun zorder =>
  b_bind fun t6 ht6 =>
  b_bind fun zcauses ht7 =>
  b_asgP (md := .n) (p_map1 (i_rng1 (ev_varF (i := 2)) ht6) nh (fun zk y hy => (some_evO hy (o_lstT (xs := ([] : List Int)) (show 0 ≤ sizeLine by decide) a_nil))) ht7 nh) nh (show 5 < 11 by decide) (Γ2 := [cs zscript, cs zfirst, cs zmany, co zorder, c0, cp zcauses, c0, c0, c0, c0, c0]) rfl (
  b_bind fun t8 ht8 =>
  b_for (Γ1 := fun (zcauses : (List (List Int))) => [cs zscript, cs zfirst, c0, co zorder, c0, cp zcauses, c0, c0, c0, c0, c0]) (Γ2 := fun (zcauses : (List (List Int))) (zat : Int) => [cs zscript, cs zfirst, c0, co zorder, c0, cp zcauses, cn zat, c0, c0, c0, c0]) (i_rng1 (ev_varF (i := 2)) ht8) (fun zcauses zat => g_name nh (show 6 < 11 by decide)) (fun zcauses zat =>
  b_bind fun t9 ht9 =>
  b_bind fun t10 ht10 =>
  b_asgL (md := .n) (e_modL (e_add (e_mulR (ev_flat (m1 := .h) (e_call (a_cons (ev_h (md := .s) (ev_var (i := 0))) (a_cons (e_add (ev_varF (i := 1)) (e_mulL ev_int (ev_flat (e_idx (ev_varO (i := 3)) (ev_varF (i := 6)) ht9)))) a_nil)) ⟨_, _, _, rfl, ht10, rfl⟩)) ev_int) (e_mulL ev_int (e_add (ev_varF (i := 6)) ev_int))) ev_int) nh (show 7 < 11 by decide) (Γ2 := fun znumber => [cs zscript, cs zfirst, c0, co zorder, c0, cp zcauses, cn zat, cn znumber, c0, c0, c0]) (fun _ => rfl) fun znumber e11 =>
  b_asgL (md := .n) (e_add ev_int (e_modL (ev_varF (i := 7)) ev_int)) nh (show 8 < 11 by decide) (Γ2 := fun zdense => [cs zscript, cs zfirst, c0, co zorder, c0, cp zcauses, cn zat, cn znumber, cn zdense, c0, c0]) (fun _ => rfl) fun zdense e12 =>
  b_for (Γ1 := fun (st : (List (List Int)) × Int) => match st with | (zcauses, znumber) => [cs zscript, cs zfirst, c0, co zorder, c0, cp zcauses, cn zat, cn znumber, cn zdense, c0, c0]) (Γ2 := fun (st : (List (List Int)) × Int) (it : Int) => match st, it with | (zcauses, znumber), zc => [cs zscript, cs zfirst, c0, co zorder, c0, cp zcauses, cn zat, cn znumber, cn zdense, cn zc, c0]) (i_list (evO_ev (o_sliceF (ev_varO (i := 3)) p_none (p_some (ev_varF (i := 6))))) nh) (fun ⟨zcauses, znumber⟩ zc => g_name nh (show 9 < 11 by decide)) (fun ⟨zcauses, znumber⟩ zc =>
  b_asgL (md := .n) (e_modL (e_add (e_mulR (ev_varF (i := 7)) ev_int) ev_int) ev_int) nh (show 7 < 11 by decide) (Γ2 := fun znumber => [cs zscript, cs zfirst, c0, co zorder, c0, cp zcauses, cn zat, cn znumber, cn zdense, cn zc, c0]) (fun _ => rfl) fun znumber e13 =>
  b_bind fun t16 ht16 =>
  b_if (Γ1 := fun (zcauses : (List (List Int))) => [cs zscript, cs zfirst, c0, co zorder, c0, cp zcauses, cn zat, cn znumber, cn zdense, c0, c0]) (t_andO (t_cmp (e_lt (e_modL (e_divL (ev_varF (i := 7)) ev_int) ev_int) (ev_varF (i := 8)))) (fun hc y hy => (have ⟨t14, ht14, hy⟩ := bind_some_iff hy; have ⟨t15, ht15, hy⟩ := bind_some_iff hy; some_t hy (t_cmp (e_lt (e_len (e_idx (ev_varP' (i := 5)) (ev_flat (e_idx (ev_varO (i := 3)) (ev_varF (i := 6)) ht14)) ht15)) ev_int)))) ht16) (fun hc =>
  b_bind fun t17 ht17 =>
  b_bind fun zcauses h18 =>
  b_append2 (i := 5) rfl (ev_flat (e_idx (ev_varO (i := 3)) (ev_varF (i := 6)) ht17)) (ev_varF (i := 9)) h18 (Γ2 := [cs zscript, cs zfirst, c0, co zorder, c0, cp zcauses, cn zat, cn znumber, cn zdense, cn zc, c0]) rfl (
  b_end (wk_c (wk_c (wk_c (wk_c (wk_c (wk_c (wk_c (wk_c (wk_c (wk_d (wk_c .nil))))))))))))) (fun hc =>
  b_end (wk_c (wk_c (wk_c (wk_c (wk_c (wk_c (wk_c (wk_c (wk_c (wk_d (wk_c .nil)))))))))))) (fun zcauses =>
  b_end (wk_c (wk_c (wk_c (wk_c (wk_c (wk_c (wk_c (wk_c (wk_c (wk_c (wk_c .nil))))))))))))) (wk_c (wk_c (wk_c (wk_c (wk_c (wk_c (wk_c (wk_c (wk_c (wk_c (wk_c .nil))))))))))) (fun ⟨zcauses, znumber⟩ =>
  b_end (wk_c (wk_c (wk_c (wk_c (wk_c (wk_c (wk_d (wk_d (wk_d (wk_c (wk_c .nil))))))))))))) (wk_c (wk_c (wk_d (wk_c (wk_c (wk_c (wk_c (wk_c (wk_c (wk_c (wk_c .nil))))))))))) (fun zcauses =>
  b_bind fun t19 ht19 =>
  b_retP (p_unfT (frz_pT (i := 5) rfl (Γ2 := [cs zscript, cs zfirst, c0, co zorder, c0, cn zcauses, c0, c0, c0, c0, c0]) rfl) (p_map1 (i_list (ev_var (i := 5)) nh) nh (fun zrow_here y hy => (some_evO hy (o_sorted (ev_h (md := .n) (ev_var (i := 10)))))) ht19 nh))))))
abbrev s__law_row : Stmt := topS 15
abbrev nn__law_row : List Str := ["_law_number", "_law_size", "_law_great", "_law_row_here", "_law_value", "_law_weight"]
theorem sc__law_row : FnScope nn__law_row ["_law_number", "_law_size", "_law_great"] (defScope s__law_row) := ⟨rfl, rfl, rfl, by decide +kernel, rfl, by decide +kernel, by decide +kernel⟩
def sp__law_row (K : PySem.W.Frag) : Sp := FnO K fun ds r => ∃ znumber zsize zgreat y, ds = [toD (znumber : Int), toD (zsize : Int), toD (zgreat : Int)] ∧ m__law_row znumber zsize zgreat = some y ∧ r = y.map toD
set_option maxHeartbeats 4000000 in
theorem ok__law_row (T : Txt K mg) : FnOk P w K mg base CX0 1 T.a__law_row T.d__law_row ["_law_number", "_law_size", "_law_great"] (sp__law_row K) := by
  refine T.F__law_row.ok sc__law_row (fun vs H Q E h => ?_) (fun cdv A outer s H vs Q E hr h => ?_)
  · obtain ⟨ds, r, hd, ⟨znumber, zsize, zgreat, y, rfl, _⟩, _⟩ := h
    exact dpAll_len hd
  · obtain ⟨ds, r, hd, ⟨znumber, zsize, zgreat, y, rfl, hm, rfl⟩, k⟩ := h
    unfold m__law_row at hm
    refine ⟨_, pss_len (pss_cons (ps_set (i := 3) sc__law_row.nd rfl (by first | exact .inl rfl | exact .inr rfl) (pe_lst pa_nil)) (pss_cons (ps_for PassesOwn.never rfl (pi_range1 (by rfl) T.b_range (pa_cons (pv 1) pa_nil)) (pg_name (i := 4) sc__law_row.nd rfl (by first | exact .inl rfl | exact .inr rfl)) (pss_cons (ps_set (i := 0) sc__law_row.nd rfl (by first | exact .inl rfl | exact .inr rfl) (pe_op op_modN (pe_op op_add (pe_op op_mul (pv 0) pe_int) pe_int) pe_int)) (pss_cons (ps_set (i := 5) sc__law_row.nd rfl (by first | exact .inl rfl | exact .inr rfl) (pe_callB (call_max2' rfl) (by rfl) T.b_max (by decide +kernel) (pa_cons pe_int (pa_cons (pe_op op_sub (pe_op op_modN (pe_op op_fdivX (pv 0) pe_int) pe_int) pe_int) pa_nil)))) (pss_cons (ps_if (PW.pt (pw_and (pt_cmpR op_gt (pv 2) pe_int (nomark _)) (pw_and1 (pt_cmpR (show OpR _ _ (rEqD K) from op_eqD hr.units) (pe_op op_modN (pv 0) pe_int) pe_int (nomark _))))) (pss_cons (ps_set (i := 5) sc__law_row.nd rfl (by first | exact .inl rfl | exact .inr rfl) (pe_op op_modN (pe_op op_mulW (pe_op op_mulW (pv 0) (pv 0)) (pe_op op_pow pe_int pe_int)) (pe_op op_pow pe_int pe_int))) pss_nil) pss_nil) (pss_cons (ps_if (PW.pt (pw_and (pt_cmpR op_gt (pv 2) pe_int (nomark _)) (pw_and1 (pt_cmpR (show OpR _ _ (rEqD K) from op_eqD hr.units) (pe_op op_modN (pv 0) pe_int) pe_int (nomark _))))) (pss_cons (ps_set (i := 5) sc__law_row.nd rfl (by first | exact .inl rfl | exact .inr rfl) (pe_op op_sub (pe_op op_pow pe_int pe_int) pe_int)) pss_nil) pss_nil) (pss_cons (ps_expr (pe_bm PySem.F.plainAttrs_list PySem.F.slot_list_append PySem.F.type_list_append mt_append (pv 3) (pa_cons (pv 5) pa_nil))) pss_nil)))))) (pss_cons (ps_if (pt_cmpR (show OpR _ _ (rEqD K) from op_eqD hr.units) (pe_callB (show CallR _ (.builtin "sum") (rSum K) from cr_sum rfl) (by rfl) T.b_sum (by decide +kernel) (pa_cons (pv 3) pa_nil)) pe_int (nomark _)) (pss_cons (ps_asg (pe_op op_add pe_int (pe_op op_modN (pv 0) pe_int)) (pg_sub (pv 3) (pe_op op_modN (pe_op op_fdivX (pv 0) pe_int) (pv 1)) set_list)) pss_nil) pss_nil) (pss_cons (ps_ret (pv 3)) pss_nil)))), fun hl => ?_⟩
    refine body_O hl hd hm (show 3 ≤ 6 by decide) (Γ := [cs znumber, cs zsize, cs zgreat, c0, c0, c0]) (Γ' := noΓ) rfl ?_ k
    exact (
  b_asgOL (md := .n) (o_lstT (xs := ([] : List Int)) (show 0 ≤ sizeLine by decide) a_nil) nh (show 3 < 6 by decide) (Γ2 := fun zrow_here => [cs znumber, cs zsize, cs zgreat, co zrow_here, c0, c0]) (fun _ => rfl) fun zrow_here e1 =>
  b_bind fun t2 ht2 =>
  b_for (Γ1 := fun (st : Int × (List Int)) => match st with | (znumber, zrow_here) => [cs znumber, cs zsize, cs zgreat, co zrow_here, c0, c0]) (Γ2 := fun (st : Int × (List Int)) (it : Int) => match st, it with | (znumber, zrow_here), zvalue => [cs znumber, cs zsize, cs zgreat, co zrow_here, cn zvalue, c0]) (i_rng1 (ev_varF (i := 1)) ht2) (fun ⟨znumber, zrow_here⟩ zvalue => g_name nh (show 4 < 6 by decide)) (fun ⟨znumber, zrow_here⟩ zvalue =>
  b_asgL (md := .n) (e_modL (e_add (e_mulR (ev_varF (i := 0)) ev_int) ev_int) ev_int) nh (show 0 < 6 by decide) (Γ2 := fun znumber => [cn znumber, cs zsize, cs zgreat, co zrow_here, cn zvalue, c0]) (fun _ => rfl) fun znumber e3 =>
  b_asgL (md := .n) (e_max2 ev_int (e_sub (e_modL (e_divL (ev_varF (i := 0)) ev_int) ev_int) ev_int)) nh (show 5 < 6 by decide) (Γ2 := fun zweight => [cn znumber, cs zsize, cs zgreat, co zrow_here, cn zvalue, cn zweight]) (fun _ => rfl) fun zweight e4 =>
  b_if (Γ1 := fun (zweight : Int) => [cn znumber, cs zsize, cs zgreat, co zrow_here, c0, cn zweight]) (t_and (t_cmp (e_gt (ev_varF (i := 2)) ev_int)) (fun hc => (t_cmp (e_eq (α := Int) (e_modL (ev_varF (i := 0)) ev_int) ev_int)))) (fun hc =>
  b_bind fun t5 ht5 =>
  b_bind fun t6 ht6 =>
  b_asgL (md := .n) (e_modL (e_mul (e_mul (ev_varF (i := 0)) (ev_varF (i := 0)) ht5) (e_pow ev_int ev_int) ht6) (e_pow ev_int ev_int)) nh (show 5 < 6 by decide) (Γ2 := fun zweight => [cn znumber, cs zsize, cs zgreat, co zrow_here, cn zvalue, cn zweight]) (fun _ => rfl) fun zweight e7 =>
  b_end (wk_c (wk_c (wk_c (wk_c (wk_d (wk_c .nil))))))) (fun hc =>
  b_end (wk_c (wk_c (wk_c (wk_c (wk_d (wk_c .nil))))))) (fun zweight =>
  b_if (Γ1 := fun (zweight : Int) => [cn znumber, cs zsize, cs zgreat, co zrow_here, c0, cn zweight]) (t_and (t_cmp (e_gt (ev_varF (i := 2)) ev_int)) (fun hc => (t_cmp (e_eq (α := Int) (e_modL (ev_varF (i := 0)) ev_int) ev_int)))) (fun hc =>
  b_asgL (md := .n) (e_sub (e_pow ev_int ev_int) ev_int) nh (show 5 < 6 by decide) (Γ2 := fun zweight => [cn znumber, cs zsize, cs zgreat, co zrow_here, c0, cn zweight]) (fun _ => rfl) fun zweight e8 =>
  b_end (wk_c (wk_c (wk_c (wk_c (wk_c (wk_c .nil))))))) (fun hc =>
  b_end (wk_c (wk_c (wk_c (wk_c (wk_c (wk_c .nil))))))) (fun zweight =>
  b_bind fun zrow_here h9 =>
  b_append (i := 3) rfl (ev_varF (i := 5)) h9 (Γ2 := [cn znumber, cs zsize, cs zgreat, co zrow_here, c0, cn zweight]) rfl (
  b_end (wk_s (wk_c (wk_c (wk_c (wk_c (wk_d .nil)))))))))) (wk_c (wk_c (wk_c (wk_c (wk_c (wk_c .nil)))))) (fun ⟨znumber, zrow_here⟩ =>
  b_if (Γ1 := fun (zrow_here : (List Int)) => [c0, c0, c0, co zrow_here, c0, c0]) (t_cmp (e_eq (α := Int) (e_sum (ev_varO (i := 3))) ev_int)) (fun hc =>
  b_bind fun t10 ht10 =>
  b_bind fun zrow_here h11 =>
  b_setitem (i := 3) rfl (e_add ev_int (e_modL (ev_varF (i := 0)) ev_int)) (e_mod (e_divL (ev_varF (i := 0)) ev_int) (ev_varF (i := 1)) ht10) h11 (Γ2 := [cs znumber, cs zsize, cs zgreat, co zrow_here, c0, c0]) rfl (
  b_end (wk_d (wk_d (wk_d (wk_c (wk_c (wk_c .nil)))))))) (fun hc =>
  b_end (wk_d (wk_d (wk_d (wk_c (wk_c (wk_c .nil))))))) (fun zrow_here =>
  b_retOv (i := 3))))
abbrev s__law_table : Stmt := topS 16
abbrev nn__law_table : List Str := ["_law_cell", "_law_count_here", "_law_size", "_law_great", "_law_number", "_law_found", "_law_at"]
theorem sc__law_table : FnScope nn__law_table ["_law_cell", "_law_count_here", "_law_size", "_law_great"] (defScope s__law_table) := ⟨rfl, rfl, rfl, by decide +kernel, rfl, by decide +kernel, by decide +kernel⟩
def sp__law_table (K : PySem.W.Frag) : Sp := FnO K fun ds r => ∃ zcell zcount_here zsize zgreat y, ds = [toD (zcell : Int), toD (zcount_here : Int), toD (zsize : Int), toD (zgreat : Int)] ∧ m__law_table zcell zcount_here zsize zgreat = some y ∧ r = y.map toD
set_option maxHeartbeats 4000000 in
theorem ok__law_table (T : Txt K mg) : FnOk P w K mg base CX0 2 T.a__law_table T.d__law_table ["_law_cell", "_law_count_here", "_law_size", "_law_great"] (sp__law_table K) := by
  refine T.F__law_table.ok sc__law_table (fun vs H Q E h => ?_) (fun cdv A outer s H vs Q E hr h => ?_)
  · obtain ⟨ds, r, hd, ⟨zcell, zcount_here, zsize, zgreat, y, rfl, _⟩, _⟩ := h
    exact dpAll_len hd
  · obtain ⟨ds, r, hd, ⟨zcell, zcount_here, zsize, zgreat, y, rfl, hm, rfl⟩, k⟩ := h
    unfold m__law_table at hm
    refine ⟨_, pss_len (pss_cons (ps_set (i := 4) sc__law_table.nd rfl (by first | exact .inl rfl | exact .inr rfl) (pe_op op_modN (pv 0) pe_int)) (pss_cons (ps_set (i := 5) sc__law_table.nd rfl (by first | exact .inl rfl | exact .inr rfl) (pe_lst pa_nil)) (pss_cons (ps_for PassesOwn.never rfl (pi_range1 (by rfl) T.b_range (pa_cons (pv 1) pa_nil)) (pg_name (i := 6) sc__law_table.nd rfl (by first | exact .inl rfl | exact .inr rfl)) (pss_cons (ps_set (i := 4) sc__law_table.nd rfl (by first | exact .inl rfl | exact .inr rfl) (pe_op op_modN (pe_op op_add (pe_op op_add (pe_op op_mul (pv 4) pe_int) pe_int) (pv 6)) pe_int)) (pss_cons (ps_expr (pe_bm PySem.F.plainAttrs_list PySem.F.slot_list_append PySem.F.type_list_append mt_append (pv 5) (pa_cons (pe_call (ok__law_row T) (hr.mono (by decide)) (by rfl) T.g__law_row T.F__law_row.kp T.b__law_row .nil pass0 (pa_cons (pv 4) (pa_cons (pv 2) (pa_cons (pv 3) pa_nil)))) pa_nil))) pss_nil))) (pss_cons (ps_ret (pv 5)) pss_nil)))), fun hl => ?_⟩
    refine body_O hl hd hm (show 4 ≤ 7 by decide) (Γ := [cs zcell, cs zcount_here, cs zsize, cs zgreat, c0, c0, c0]) (Γ' := noΓ) rfl ?_ k
    exact (
  b_asgL (md := .n) (e_modL (ev_varF (i := 0)) ev_int) nh (show 4 < 7 by decide) (Γ2 := fun znumber => [cs zcell, cs zcount_here, cs zsize, cs zgreat, cn znumber, c0, c0]) (fun _ => rfl) fun znumber e1 =>
  b_asgOL (md := .n) (o_lstT (xs := ([] : List (List Int))) (show 0 ≤ sizeLine by decide) a_nil) nh (show 5 < 7 by decide) (Γ2 := fun zfound => [cs zcell, cs zcount_here, cs zsize, cs zgreat, cn znumber, co zfound, c0]) (fun _ => rfl) fun zfound e2 =>
  b_bind fun t3 ht3 =>
  b_for (Γ1 := fun (st : Int × (List (List Int))) => match st with | (znumber, zfound) => [c0, c0, cs zsize, cs zgreat, cn znumber, co zfound, c0]) (Γ2 := fun (st : Int × (List (List Int))) (it : Int) => match st, it with | (znumber, zfound), zat => [c0, c0, cs zsize, cs zgreat, cn znumber, co zfound, cn zat]) (i_rng1 (ev_varF (i := 1)) ht3) (fun ⟨znumber, zfound⟩ zat => g_name nh (show 6 < 7 by decide)) (fun ⟨znumber, zfound⟩ zat =>
  b_asgL (md := .n) (e_modL (e_add (e_add (e_mulR (ev_varF (i := 4)) ev_int) ev_int) (ev_varF (i := 6))) ev_int) nh (show 4 < 7 by decide) (Γ2 := fun znumber => [c0, c0, cs zsize, cs zgreat, cn znumber, co zfound, cn zat]) (fun _ => rfl) fun znumber e4 =>
  b_bind fun t5 ht5 =>
  b_bind fun zfound h6 =>
  b_append (i := 5) rfl (evO_ev (o_call (a_cons (ev_varF (i := 4)) (a_cons (ev_varF (i := 2)) (a_cons (ev_varF (i := 3)) a_nil))) ⟨_, _, _, _, rfl, ht5, rfl⟩)) h6 (Γ2 := [c0, c0, cs zsize, cs zgreat, cn znumber, co zfound, cn zat]) rfl (
  b_end (wk_c (wk_c (wk_c (wk_c (wk_c (wk_c (wk_d .nil))))))))) (wk_d (wk_d (wk_c (wk_c (wk_c (wk_c (wk_c .nil))))))) (fun ⟨znumber, zfound⟩ =>
  b_retOv (i := 5)))
abbrev s__law_count : Stmt := topS 17
abbrev nn__law_count : List Str := ["_law_sizes", "_law_row_here", "_law_count_here", "_law_c"]
theorem sc__law_count : FnScope nn__law_count ["_law_sizes", "_law_row_here"] (defScope s__law_count) := ⟨rfl, rfl, rfl, by decide +kernel, rfl, by decide +kernel, by decide +kernel⟩
def sp__law_count (K : PySem.W.Frag) : Sp := FnS K fun ds r => ∃ zsizes zrow_here y, ds = [toD (zsizes : (List Int)), toD (zrow_here : (List Int))] ∧ m__law_count zsizes zrow_here = some y ∧ r = toD y
set_option maxHeartbeats 4000000 in
theorem ok__law_count (T : Txt K mg) : FnOk P w K mg base CX0 1 T.a__law_count T.d__law_count ["_law_sizes", "_law_row_here"] (sp__law_count K) := by
  refine T.F__law_count.ok sc__law_count (fun vs H Q E h => ?_) (fun cdv A outer s H vs Q E hr h => ?_)
  · obtain ⟨ds, r, hd, ⟨zsizes, zrow_here, y, rfl, _⟩, _⟩ := h
    exact dpAll_len hd
  · obtain ⟨ds, r, hd, ⟨zsizes, zrow_here, y, rfl, hm, rfl⟩, k⟩ := h
    unfold m__law_count at hm
    refine ⟨_, pss_len (pss_cons (ps_set (i := 2) sc__law_count.nd rfl (by first | exact .inl rfl | exact .inr rfl) pe_int) (pss_cons (ps_for PassesOwn.never rfl (show PI _ _ _ (iList K _) from pi_list (pv 1)) (pg_name (i := 3) sc__law_count.nd rfl (by first | exact .inl rfl | exact .inr rfl)) (pss_cons (ps_set (i := 2) sc__law_count.nd rfl (by first | exact .inl rfl | exact .inr rfl) (pe_op op_mulW (pv 2) (pe_ix (show IxR _ (rIxL K) from ix_list) (pv 0) (pv 3) (fun _ _ => rfl)))) pss_nil)) (pss_cons (ps_ret (pv 2)) pss_nil))), fun hl => ?_⟩
    refine body_S hl hd hm (show 2 ≤ 4 by decide) (Γ := [cs zsizes, cs zrow_here, c0, c0]) (Γ' := noΓ) rfl ?_ k
    exact (
  b_asgL (md := .n) ev_int nh (show 2 < 4 by decide) (Γ2 := fun zcount_here => [cs zsizes, cs zrow_here, cn zcount_here, c0]) (fun _ => rfl) fun zcount_here e1 =>
  b_for (Γ1 := fun (zcount_here : Int) => [cs zsizes, c0, cn zcount_here, c0]) (Γ2 := fun (zcount_here : Int) (zc : Int) => [cs zsizes, c0, cn zcount_here, cs zc]) (i_list (ev_var (i := 1)) sh) (fun zcount_here zc => g_name sh (show 3 < 4 by decide)) (fun zcount_here zc =>
  b_bind fun t2 ht2 =>
  b_bind fun zcount_here ht3 =>
  b_asg (md := .n) (e_mul (ev_varF (i := 2)) (ev_flat (e_idx (ev_h (md := .s) (ev_var (i := 0))) (ev_varF (i := 3)) ht2)) ht3) nh (show 2 < 4 by decide) (Γ2 := [cs zsizes, c0, cn zcount_here, cs zc]) rfl (
  b_end (wk_c (wk_c (wk_c (wk_d .nil)))))) (wk_c (wk_d (wk_c (wk_c .nil)))) (fun zcount_here =>
  b_ret (ev_varF (i := 2))))
abbrev s__law_three : Stmt := topS 18
abbrev nn__law_three : List Str := ["_law_script", "_law_many", "_law_few", "_law_great", "_law_causes", "_law_one", "_law_cells", "_law_sizes", "_law_tables", "_law_k", "_law_cell"]
theorem sc__law_three : FnScope nn__law_three ["_law_script", "_law_many", "_law_few", "_law_great"] (defScope s__law_three) := ⟨rfl, rfl, rfl, by decide +kernel, rfl, by decide +kernel, by decide +kernel⟩
def sp__law_three (K : PySem.W.Frag) : Sp := FnS K fun ds r => ∃ zscript zmany zfew zgreat y, ds = [toD (zscript : (List Int)), toD (zmany : Int), toD (zfew : Int), toD (zgreat : Int)] ∧ m__law_three zscript zmany zfew zgreat = some y ∧ r = toD y
set_option maxHeartbeats 4000000 in
theorem ok__law_three (T : Txt K mg) : FnOk P w K mg base CX0 3 T.a__law_three T.d__law_three ["_law_script", "_law_many", "_law_few", "_law_great"] (sp__law_three K) := by
  refine T.F__law_three.ok sc__law_three (fun vs H Q E h => ?_) (fun cdv A outer s H vs Q E hr h => ?_)
  · obtain ⟨ds, r, hd, ⟨zscript, zmany, zfew, zgreat, y, rfl, _⟩, _⟩ := h
    exact dpAll_len hd
  · obtain ⟨ds, r, hd, ⟨zscript, zmany, zfew, zgreat, y, rfl, hm, rfl⟩, k⟩ := h
    unfold m__law_three at hm
    refine ⟨_, pss_len (pss_cons (ps_set (i := 4) sc__law_three.nd rfl (by first | exact .inl rfl | exact .inr rfl) (pe_call (ok__law_shape T) (hr.mono (by decide)) (by rfl) T.g__law_shape T.F__law_shape.kp T.b__law_shape .nil pass0 (pa_cons (pv 0) (pa_cons pe_int (pa_cons (pv 1) pa_nil))))) (pss_cons (ps_set (i := 5) sc__law_three.nd rfl (by first | exact .inl rfl | exact .inr rfl) (pe_op op_modN (pe_call (ok__law_cell_at T) (hr.mono (by decide)) (by rfl) T.g__law_cell_at T.F__law_cell_at.kp T.b__law_cell_at .nil pass0 (pa_cons (pv 0) (pa_cons pe_int pa_nil))) pe_int)) (pss_cons (ps_set (i := 4) sc__law_three.nd rfl (by first | exact .inl rfl | exact .inr rfl) (pe_lc (own := [("_law_k", 9)]) rfl sc__law_three.nd (pi_range1 (by rfl) T.b_range (pa_cons (pv 1) pa_nil)) (blkOk_by (own := [("_law_k", 9)]) (N := nn__law_three) (sc := defScope s__law_three) (by decide +kernel)) (fun _ _ _ _ _ => (pg_name (i := 9) sc__law_three.nd rfl (Or.inl rfl))) (fun _ _ _ _ _ => pts_nil) (fun _ _ _ _ _ => (pe_slice (show SlR _ (rSlL K) from sl_list) (pe_ix (show IxR _ (rIxL K) from ix_list) (pv 4) (pv 9) (fun _ _ => rfl)) po_none (po_some (pe_op op_add (pv 2) (pe_op op_mulW (pe_op op_sub pe_int (pv 2)) (pe_callTy call_int1' (by rfl) T.b_int (by decide +kernel) (pa_cons (pe_cmpR (show OpR _ _ (rEqD K) from op_eqD hr.units) (pv 9) (pv 5) (nomark _)) pa_nil))))))))) (pss_cons (ps_set (i := 6) sc__law_three.nd rfl (by first | exact .inl rfl | exact .inr rfl) (pe_lc (own := [("_law_k", 9)]) rfl sc__law_three.nd (pi_range1 (by rfl) T.b_range (pa_cons (pv 1) pa_nil)) (blkOk_by (own := [("_law_k", 9)]) (N := nn__law_three) (sc := defScope s__law_three) (by decide +kernel)) (fun _ _ _ _ _ => (pg_name (i := 9) sc__law_three.nd rfl (Or.inl rfl))) (fun _ _ _ _ _ => pts_nil) (fun _ _ _ _ _ => (pe_call (ok__law_cell_at T) (hr.mono (by decide)) (by rfl) T.g__law_cell_at T.F__law_cell_at.kp T.b__law_cell_at .nil pass0 (pa_cons (pv 0) (pa_cons (pe_op op_add pe_int (pe_op op_mul pe_int (pv 9))) pa_nil)))))) (pss_cons (ps_set (i := 7) sc__law_three.nd rfl (by first | exact .inl rfl | exact .inr rfl) (pe_lc (own := [("_law_cell", 10)]) rfl sc__law_three.nd (show PI _ _ _ (iList K _) from pi_list (pv 6)) (blkOk_by (own := [("_law_cell", 10)]) (N := nn__law_three) (sc := defScope s__law_three) (by decide +kernel)) (fun _ _ _ _ _ => (pg_name (i := 10) sc__law_three.nd rfl (Or.inl rfl))) (fun _ _ _ _ _ => pts_nil) (fun _ _ _ _ _ => (pe_op op_add pe_int (pe_op op_modN (pv 10) pe_int))))) (pss_cons (ps_setLc (i := 8) (own := [("_law_k", 9)]) rfl sc__law_three.nd rfl rfl (sw_true rfl rfl rfl (by decide +kernel)) (pi_range1 (by rfl) T.b_range (pa_cons (pv 1) pa_nil)) (blkOk_by (own := [("_law_k", 9)]) (N := nn__law_three) (sc := defScope s__law_three) (by decide +kernel)) (fun _ _ _ _ _ => (pg_name (i := 9) sc__law_three.nd rfl (Or.inl rfl))) (fun _ _ _ _ _ => pts_nil) (fun _ _ _ _ _ => (pe_call (ok__law_table T) (hr.mono (by decide)) (by rfl) T.g__law_table T.F__law_table.kp T.b__law_table .nil pass0 (pa_cons (pe_op op_fdivX (pe_ix (show IxR _ (rIxL K) from ix_list) (pv 6) (pv 9) (fun _ _ => rfl)) pe_int) (pa_cons (pe_call (ok__law_count T) (hr.mono (by decide)) (by rfl) T.g__law_count T.F__law_count.kp T.b__law_count .nil pass0 (pa_cons (pv 7) (pa_cons (pe_ix (show IxR _ (rIxL K) from ix_list) (pv 4) (pv 9) (fun _ _ => rfl)) pa_nil))) (pa_cons (pe_ix (show IxR _ (rIxL K) from ix_list) (pv 7) (pv 9) (fun _ _ => rfl)) (pa_cons (pv 3) pa_nil))))))) (pss_cons (ps_ret (pe_tup (pa_cons (pv 7) (pa_cons (pv 4) (pa_cons (pv 8) pa_nil))))) pss_nil))))))), fun hl => ?_⟩
    refine body_S hl hd hm (show 4 ≤ 11 by decide) (Γ := [cs zscript, cs zmany, cs zfew, cs zgreat, c0, c0, c0, c0, c0, c0, c0]) (Γ' := noΓ) rfl ?_ k
    exact (
  b_bind fun zcauses ht1 =>
  b_asgO (md := .n) (evP_evOT (p_call (a_cons (ev_h (md := .s) (ev_var (i := 0))) (a_cons ev_int (a_cons (ev_varF (i := 1)) a_nil))) ⟨_, _, _, _, rfl, ht1, rfl⟩) nh) nh (show 4 < 11 by decide) (Γ2 := [cs zscript, cs zmany, cs zfew, cs zgreat, co zcauses, c0, c0, c0, c0, c0, c0]) rfl (
  b_bind fun t2 ht2 =>
  b_asgL (md := .n) (e_modL (ev_flat (m1 := .h) (e_call (a_cons (ev_h (md := .s) (ev_var (i := 0))) (a_cons ev_int a_nil)) ⟨_, _, _, rfl, ht2, rfl⟩)) ev_int) nh (show 5 < 11 by decide) (Γ2 := fun zone => [cs zscript, cs zmany, cs zfew, cs zgreat, co zcauses, cn zone, c0, c0, c0, c0, c0]) (fun _ => rfl) fun zone e3 =>
  b_bind fun t4 ht4 =>
  b_bind fun zcauses ht7 =>
  b_asgO (md := .n) (evP_evOT (p_map1 (i_rng1 (ev_varF (i := 1)) ht4) nh (fun zk y hy => (have ⟨t5, ht5, hy⟩ := bind_some_iff hy; have ⟨t6, ht6, hy⟩ := bind_some_iff hy; some_evO hy (o_sliceF (ev_h (md := .n) (e_idxO (i := 4) rfl (ev_varF (i := 9)) ht5)) p_none (p_some (e_add (ev_varF (i := 2)) (e_mul (e_sub ev_int (ev_varF (i := 2))) (e_intB (e_eq (α := Int) (ev_varF (i := 9)) (ev_varF (i := 5)))) ht6)))))) ht7 nh) nh) nh (show 4 < 11 by decide) (Γ2 := [cs zscript, cs zmany, cs zfew, cs zgreat, co zcauses, cn zone, c0, c0, c0, c0, c0]) rfl (
  b_bind fun t8 ht8 =>
  b_bind fun zcells ht10 =>
  b_asgO (md := .n) (o_map1 (i_rng1 (ev_varF (i := 1)) ht8) nh (fun zk y hy => (have ⟨t9, ht9, hy⟩ := bind_some_iff hy; some_ev hy (ev_flat (m1 := .h) (e_call (a_cons (ev_h (md := .s) (ev_var (i := 0))) (a_cons (e_add ev_int (e_mulL ev_int (ev_varF (i := 9)))) a_nil)) ⟨_, _, _, rfl, ht9, rfl⟩)))) ht10 nh) nh (show 6 < 11 by decide) (Γ2 := [cs zscript, cs zmany, cs zfew, cs zgreat, co zcauses, cn zone, co zcells, c0, c0, c0, c0]) rfl (
  b_bind fun zsizes ht11 =>
  b_asgO (md := .n) (o_unfT (frz_o (i := 6) rfl (Γ2 := [cs zscript, cs zmany, cs zfew, cs zgreat, co zcauses, cn zone, cn zcells, c0, c0, c0, c0]) rfl) (o_map1 (i_list (ev_var (i := 6)) nh) nh (fun zcell y hy => (some_ev hy (e_add ev_int (e_modL (ev_varF (i := 10)) ev_int)))) ht11 nh)) nh (show 7 < 11 by decide) (Γ2 := [cs zscript, cs zmany, cs zfew, cs zgreat, co zcauses, cn zone, co zcells, co zsizes, c0, c0, c0]) rfl (
  b_bind fun t12 ht12 =>
  b_bind fun ztables ht18 =>
  b_asgO (md := .n) (evP_evOT (p_map1 (i_rng1 (ev_varF (i := 1)) ht12) nh (fun zk y hy => (have ⟨t13, ht13, hy⟩ := bind_some_iff hy; have ⟨t14, ht14, hy⟩ := bind_some_iff hy; have ⟨t15, ht15, hy⟩ := bind_some_iff hy; have ⟨t16, ht16, hy⟩ := bind_some_iff hy; have ⟨t17, ht17, hy⟩ := bind_some_iff hy; some_evO hy (o_call (a_cons (e_divL (ev_flat (e_idx (ev_varO (i := 6)) (ev_varF (i := 9)) ht13)) ev_int) (a_cons (ev_flat (m1 := .h) (e_call (a_cons (ev_varO (i := 7)) (a_cons (ev_h (md := .n) (e_idxO (i := 4) rfl (ev_varF (i := 9)) ht14)) a_nil)) ⟨_, _, _, rfl, ht15, rfl⟩)) (a_cons (ev_flat (e_idx (ev_varO (i := 7)) (ev_varF (i := 9)) ht16)) (a_cons (ev_varF (i := 3)) a_nil)))) ⟨_, _, _, _, _, rfl, ht17, rfl⟩))) ht18 nh) nh) nh (show 8 < 11 by decide) (Γ2 := [cs zscript, cs zmany, cs zfew, cs zgreat, co zcauses, cn zone, co zcells, co zsizes, co ztables, c0, c0]) rfl (
  b_freeze (i := 7) rfl (Γ2 := [cs zscript, cs zmany, cs zfew, cs zgreat, co zcauses, cn zone, co zcells, cn zsizes, co ztables, c0, c0]) rfl (
  b_freeze (i := 4) rfl (Γ2 := [cs zscript, cs zmany, cs zfew, cs zgreat, cn zcauses, cn zone, co zcells, cn zsizes, co ztables, c0, c0]) rfl (
  b_freeze (i := 8) rfl (Γ2 := [cs zscript, cs zmany, cs zfew, cs zgreat, cn zcauses, cn zone, co zcells, cn zsizes, cn ztables, c0, c0]) rfl (
  b_ret (e_tri (a_cons (ev_var (i := 7)) (a_cons (ev_var (i := 4)) (a_cons (ev_var (i := 8)) a_nil)))))))))))))
abbrev s__law_copy : Stmt := topS 19
abbrev nn__law_copy : List Str := ["_law_three_here", "_law_tables", "_law_rows", "_law_row_here"]
theorem sc__law_copy : FnScope nn__law_copy ["_law_three_here"] (defScope s__law_copy) := ⟨rfl, rfl, rfl, by decide +kernel, rfl, by decide +kernel, by decide +kernel⟩
def sp__law_copy (K : PySem.W.Frag) : Sp := FnS K fun ds r => ∃ zthree_here y, ds = [toD (zthree_here : (Tri (List Int) (List (List Int)) (List (List (List Int)))))] ∧ m__law_copy zthree_here = some y ∧ r = toD y
set_option maxHeartbeats 4000000 in
theorem ok__law_copy (T : Txt K mg) : FnOk P w K mg base CX0 1 T.a__law_copy T.d__law_copy ["_law_three_here"] (sp__law_copy K) := by
  refine T.F__law_copy.ok sc__law_copy (fun vs H Q E h => ?_) (fun cdv A outer s H vs Q E hr h => ?_)
  · obtain ⟨ds, r, hd, ⟨zthree_here, y, rfl, _⟩, _⟩ := h
    exact dpAll_len hd
  · obtain ⟨ds, r, hd, ⟨zthree_here, y, rfl, hm, rfl⟩, k⟩ := h
    unfold m__law_copy at hm
    refine ⟨_, pss_len (pss_cons (ps_setLc (i := 1) (own := [("_law_rows", 2)]) rfl sc__law_copy.nd rfl rfl (sw_true rfl rfl rfl (by decide +kernel)) (show PI _ _ _ (iList K _) from pi_list (pe_ix (show IxR _ (rIxT K) from ix_tup) (pv 0) pe_int (fun _ _ => rfl))) (blkOk_by (own := [("_law_rows", 2)]) (N := nn__law_copy) (sc := defScope s__law_copy) (by decide +kernel)) (fun _ _ _ _ _ => (pg_name (i := 2) sc__law_copy.nd rfl (Or.inl rfl))) (fun _ _ _ _ _ => pts_nil) (fun _ _ _ _ _ => (pe_lc (own := [("_law_row_here", 3)]) rfl sc__law_copy.nd (show PI _ _ _ (iList K _) from pi_list (pv 2)) (blkOk_by (own := [("_law_row_here", 3)]) rfl) (fun _ _ _ _ _ => (pg_name (i := 3) sc__law_copy.nd rfl (Or.inl rfl))) (fun _ _ _ _ _ => pts_nil) (fun _ _ _ _ _ => (pe_callTy (show CallR _ (.type "list") (rListS K) from call_listS) (by rfl) T.b_list (by decide +kernel) (pa_cons (pv 3) pa_nil)))))) (pss_cons (ps_ret (pe_tup (pa_cons (pe_callTy (show CallR _ (.type "list") (rListS K) from call_listS) (by rfl) T.b_list (by decide +kernel) (pa_cons (pe_ix (show IxR _ (rIxT K) from ix_tup) (pv 0) pe_int (fun _ _ => rfl)) pa_nil)) (pa_cons (pe_lc (own := [("_law_row_here", 3)]) rfl sc__law_copy.nd (show PI _ _ _ (iList K _) from pi_list (pe_ix (show IxR _ (rIxT K) from ix_tup) (pv 0) pe_int (fun _ _ => rfl))) (blkOk_by (own := [("_law_row_here", 3)]) (N := nn__law_copy) (sc := defScope s__law_copy) (by decide +kernel)) (fun _ _ _ _ _ => (pg_name (i := 3) sc__law_copy.nd rfl (Or.inl rfl))) (fun _ _ _ _ _ => pts_nil) (fun _ _ _ _ _ => (pe_callTy (show CallR _ (.type "list") (rListS K) from call_listS) (by rfl) T.b_list (by decide +kernel) (pa_cons (pv 3) pa_nil)))) (pa_cons (pv 1) pa_nil))))) pss_nil)), fun hl => ?_⟩
    refine body_S hl hd hm (show 1 ≤ 4 by decide) (Γ := [cs zthree_here, c0, c0, c0]) (Γ' := noΓ) rfl ?_ k
    exact (
  b_bind fun ztables ht2 =>
  b_asgO (md := .n) (o_map1 (i_list (e_tri2 (p := (zthree_here : (Tri (List Int) (List (List Int)) (List (List (List Int)))))) (ev_var (i := 0))) sh) sh (fun zrows y hy => (have ⟨t1, ht1, hy⟩ := bind_some_iff hy; some_ev hy (evP_ev (p_map1 (i_list (ev_var (i := 2)) sh) sh (fun zrow_here y hy => (some_evO hy (o_listF (ev_h (md := .s) (ev_var (i := 3)))))) ht1 nh) nh))) ht2 nh) nh (show 1 < 4 by decide) (Γ2 := [cs zthree_here, co ztables, c0, c0]) rfl (
  b_freeze (i := 1) rfl (Γ2 := [cs zthree_here, cn ztables, c0, c0]) rfl (
  b_bind fun t4 ht4 =>
  b_ret (e_tri (a_cons (evO_ev (o_listF (ev_h (md := .s) (e_tri0 (p := (zthree_here : (Tri (List Int) (List (List Int)) (List (List (List Int)))))) (ev_var (i := 0)))))) (a_cons (evP_ev (p_map1 (i_list (e_tri1 (p := (zthree_here : (Tri (List Int) (List (List Int)) (List (List (List Int)))))) (ev_var (i := 0))) sh) sh (fun zrow_here y hy => (some_evO hy (o_listF (ev_h (md := .s) (ev_var (i := 3)))))) ht4 nh) nh) (a_cons (ev_var (i := 1)) a_nil)))))))
abbrev s__law_whole : Stmt := topS 20
abbrev nn__law_whole : List Str := ["_law_found"]
theorem sc__law_whole : FnScope nn__law_whole ["_law_found"] (defScope s__law_whole) := ⟨rfl, rfl, rfl, by decide +kernel, rfl, by decide +kernel, by decide +kernel⟩
def sp__law_whole (K : PySem.W.Frag) : Sp := FnS K fun ds r => ∃ zfound y, ds = [toD (zfound : Int)] ∧ m__law_whole zfound = some y ∧ r = toD y
set_option maxHeartbeats 4000000 in
theorem ok__law_whole (T : Txt K mg) : FnOk P w K mg base CX0 1 T.a__law_whole T.d__law_whole ["_law_found"] (sp__law_whole K) := by
  refine T.F__law_whole.ok sc__law_whole (fun vs H Q E h => ?_) (fun cdv A outer s H vs Q E hr h => ?_)
  · obtain ⟨ds, r, hd, ⟨zfound, y, rfl, _⟩, _⟩ := h
    exact dpAll_len hd
  · obtain ⟨ds, r, hd, ⟨zfound, y, rfl, hm, rfl⟩, k⟩ := h
    unfold m__law_whole at hm
    refine ⟨_, pss_len (pss_cons (ps_ret (pe_and (pe_callB (show CallR _ (.builtin "isinstance") (rIsi K) from call_isi) (by rfl) T.b_isinstance (by decide +kernel) (pa_cons (pv 0) (pa_cons (pe_bltn (v := .ty "int") (by rfl) T.b_int (by decide +kernel) rfl) pa_nil))) (pe_one (pe_not (pe_callB (show CallR _ (.builtin "isinstance") (rIsi K) from call_isi) (by rfl) T.b_isinstance (by decide +kernel) (pa_cons (pv 0) (pa_cons (pe_bltn (v := .ty "bool") (by rfl) T.b_bool (by decide +kernel) rfl) pa_nil))))))) pss_nil), fun hl => ?_⟩
    refine body_S hl hd hm (show 1 ≤ 1 by decide) (Γ := [cs zfound]) (Γ' := noΓ) rfl ?_ k
    exact (
  b_ret (e_andV (e_isi (d := toD (zfound : Int)) (b := true) (ev_varF (i := 0)) (show kitB "int" "int" = some true by decide +kernel)) (fun hc => (e_notV (e_isi (d := toD (zfound : Int)) (b := false) (ev_varF (i := 0)) (show kitB "int" "bool" = some false by decide +kernel))))))
abbrev s__law_is_share : Stmt := topS 21
abbrev nn__law_is_share : List Str := ["_law_found", "_law_top", "_law_bottom", "_law_one", "_law_other"]
theorem sc__law_is_share : FnScope nn__law_is_share ["_law_found", "_law_top", "_law_bottom"] (defScope s__law_is_share) := ⟨rfl, rfl, rfl, by decide +kernel, rfl, by decide +kernel, by decide +kernel⟩
def sp__law_is_share (K : PySem.W.Frag) : Sp := FnS K fun ds r => ∃ zfound ztop zbottom y, ds = [toD (zfound : (Int × Int)), toD (ztop : Int), toD (zbottom : Int)] ∧ m__law_is_share zfound ztop zbottom = some y ∧ r = toD y
set_option maxHeartbeats 4000000 in
theorem ok__law_is_share (T : Txt K mg) : FnOk P w K mg base CX0 2 T.a__law_is_share T.d__law_is_share ["_law_found", "_law_top", "_law_bottom"] (sp__law_is_share K) := by
  refine T.F__law_is_share.ok sc__law_is_share (fun vs H Q E h => ?_) (fun cdv A outer s H vs Q E hr h => ?_)
  · obtain ⟨ds, r, hd, ⟨zfound, ztop, zbottom, y, rfl, _⟩, _⟩ := h
    exact dpAll_len hd
  · obtain ⟨ds, r, hd, ⟨zfound, ztop, zbottom, y, rfl, hm, rfl⟩, k⟩ := h
    unfold m__law_is_share at hm
    refine ⟨_, pss_len (pss_cons (ps_if (PW.pt (pw_or (pt_not (pt_val (pe_callB (show CallR _ (.builtin "isinstance") (rIsi K) from call_isi) (by rfl) T.b_isinstance (by decide +kernel) (pa_cons (pv 0) (pa_cons (pe_bltn (v := .ty "tuple") (by rfl) T.b_tuple (by decide +kernel) rfl) pa_nil))))) (pw_or (pt_cmpR (show OpR _ _ (rNeD K) from op_neD hr.units) (pe_callB (show CallR _ (.builtin "len") (rLenS K) from call_lenS) (by rfl) T.b_len (by decide +kernel) (pa_cons (pv 0) pa_nil)) pe_int (nomark _)) (pw_or (pt_not (pt_val (pe_call (ok__law_whole T) (hr.mono (by decide)) (by rfl) T.g__law_whole T.F__law_whole.kp T.b__law_whole .nil pass0 (pa_cons (pe_ix (show IxR _ (rIxT K) from ix_tup) (pv 0) pe_int (fun _ _ => rfl)) pa_nil)))) (pw_or1 (pt_not (pt_val (pe_call (ok__law_whole T) (hr.mono (by decide)) (by rfl) T.g__law_whole T.F__law_whole.kp T.b__law_whole .nil pass0 (pa_cons (pe_ix (show IxR _ (rIxT K) from ix_tup) (pv 0) pe_int (fun _ _ => rfl)) pa_nil))))))))) (pss_cons (ps_ret pe_bl) pss_nil) pss_nil) (pss_cons (ps_if (PW.pt (pw_or (pt_cmpR op_lt (pe_ix (show IxR _ (rIxT K) from ix_tup) (pv 0) pe_int (fun _ _ => rfl)) pe_int (nomark _)) (pw_or1 (pt_cmpR (show OpR _ _ (rNeD K) from op_neD hr.units) (pe_op op_mulW (pe_ix (show IxR _ (rIxT K) from ix_tup) (pv 0) pe_int (fun _ _ => rfl)) (pv 2)) (pe_op op_mulW (pv 1) (pe_ix (show IxR _ (rIxT K) from ix_tup) (pv 0) pe_int (fun _ _ => rfl))) (nomark _))))) (pss_cons (ps_ret pe_bl) pss_nil) pss_nil) (pss_cons (ps_asg (pv 0) (pg_tup rfl (pgs_cons (pg_name (i := 3) sc__law_is_share.nd rfl (by first | exact .inl rfl | exact .inr rfl)) (pgs_cons (pg_name (i := 4) sc__law_is_share.nd rfl (by first | exact .inl rfl | exact .inr rfl)) pgs_nil)))) (pss_cons (ps_while PassesOwn.never (pt_cmpR (show OpR _ _ (rNeD K) from op_neD hr.units) (pv 4) pe_int (nomark _)) (pss_cons (ps_par rfl sc__law_is_share.nd (i := 3) (j := 4) rfl rfl (by decide) rfl rfl (pa_cons (pv 4) (pa_cons (pe_op op_modN (pv 3) (pv 4)) pa_nil)) (by rfl)) pss_nil)) (pss_cons (ps_ret (pe_cmpR (show OpR _ _ (rEqD K) from op_eqD hr.units) (pv 3) pe_int (nomark _))) pss_nil))))), fun hl => ?_⟩
    refine body_S hl hd hm (show 3 ≤ 5 by decide) (Γ := [cs zfound, cs ztop, cs zbottom, c0, c0]) (Γ' := noΓ) rfl ?_ k
    exact (
  b_bind fun t5 ht5 =>
  b_ifR (Γ0 := noΓ) (t_orO (t_not (t_val (e_isi (d := toD (zfound : (Int × Int))) (b := true) (ev_h (md := .s) (ev_var (i := 0))) (show kitB "tuple" "tuple" = some true by decide +kernel)))) (fun hc y hy => (have ⟨t4, ht4, hy⟩ := bind_some_iff hy; some_t hy (t_orO (t_cmp (e_ne (α := Int) (e_lenT2 (ev_h (md := .s) (ev_var (i := 0)))) ev_int)) (fun hc y hy => (have ⟨t1, ht1, hy⟩ := bind_some_iff hy; have ⟨t3, ht3, hy⟩ := bind_some_iff hy; some_t hy (t_orO (t_not (t_val (ev_flat (m1 := .h) (e_call (a_cons (ev_flat (e_fst (p := (zfound : (Int × Int))) (ev_var (i := 0)))) a_nil) ⟨_, _, rfl, ht1, rfl⟩)))) (fun hc y hy => (have ⟨t2, ht2, hy⟩ := bind_some_iff hy; some_t hy (t_not (t_val (ev_flat (m1 := .h) (e_call (a_cons (ev_flat (e_snd (p := (zfound : (Int × Int))) (ev_var (i := 0)))) a_nil) ⟨_, _, rfl, ht2, rfl⟩)))))) ht3))) ht4))) ht5) (fun hc =>
  b_ret ev_bool) (fun hc =>
  b_bind fun t8 ht8 =>
  b_ifR (Γ0 := noΓ) (t_orO (t_cmp (e_lt (ev_flat (e_snd (p := (zfound : (Int × Int))) (ev_var (i := 0)))) ev_int)) (fun hc y hy => (have ⟨t6, ht6, hy⟩ := bind_some_iff hy; have ⟨t7, ht7, hy⟩ := bind_some_iff hy; some_t hy (t_cmp (e_ne (α := Int) (e_mul (ev_flat (e_fst (p := (zfound : (Int × Int))) (ev_var (i := 0)))) (ev_varF (i := 2)) ht6) (e_mul (ev_varF (i := 1)) (ev_flat (e_snd (p := (zfound : (Int × Int))) (ev_var (i := 0)))) ht7))))) ht8) (fun hc =>
  b_ret ev_bool) (fun hc =>
  b_tup2 (md := .s) (ev_var (i := 0)) sh (show 3 < 5 by decide) (show 4 < 5 by decide) (by decide) (Γ2 := fun zone zother => [cs zfound, cs ztop, cs zbottom, cs zone, cs zother]) (fun _ _ => rfl) fun zone zother e13 =>
  b_while (Γ1 := fun (st : Int × Int) => match st with | (zone, zother) => [c0, c0, c0, cs zone, cs zother]) (fun ⟨zone, zother⟩ x hy => (some_t hy (t_cmp (e_ne (α := Int) (ev_varF (i := 4)) ev_int)))) (fun ⟨zone, zother⟩ =>
  b_bind fun t9 ht9 =>
  b_parL (md := .n) (a_cons (ev_varF (i := 4)) (a_cons (e_mod (ev_varF (i := 3)) (ev_varF (i := 4)) ht9) a_nil)) nh (show 3 < 5 by decide) (show 4 < 5 by decide) (Γ2 := fun zone zother => [c0, c0, c0, cn zone, cn zother]) (fun _ _ => rfl) fun zone zother e11 e12 =>
  b_end (wk_c (wk_c (wk_c (wk_s (wk_s .nil)))))) (wk_d (wk_d (wk_d (wk_c (wk_c .nil))))) (fun ⟨zone, zother⟩ =>
  b_ret (e_eq (α := Int) (ev_varF (i := 3)) ev_int)))))
abbrev s__law_due : Stmt := topS 22
abbrev nn__law_due : List Str := ["_law_three_here", "_law_k", "_law_world", "_law_place", "_law_c"]
theorem sc__law_due : FnScope nn__law_due ["_law_three_here", "_law_k", "_law_world"] (defScope s__law_due) := ⟨rfl, rfl, rfl, by decide +kernel, rfl, by decide +kernel, by decide +kernel⟩
def sp__law_due (K : PySem.W.Frag) : Sp := FnSk K fun ds r => ∃ zthree_here zk zworld y, ds = [toD (zthree_here : (Tri (List Int) (List (List Int)) (List (List (List Int))))), toD (zk : Int), toD (zworld : (List Int))] ∧ m__law_due zthree_here zk zworld = some y ∧ r = toD y
set_option maxHeartbeats 4000000 in
theorem ok__law_due (T : Txt K mg) : FnOk P w K mg base CX0 1 T.a__law_due T.d__law_due ["_law_three_here", "_law_k", "_law_world"] (sp__law_due K) := by
  refine T.F__law_due.ok sc__law_due (fun vs H Q E h => ?_) (fun cdv A outer s H vs Q E hr h => ?_)
  · obtain ⟨S, ds, r, sS, hd, ⟨zthree_here, zk, zworld, y, rfl, _⟩, _⟩ := h
    exact dpAll_len hd
  · obtain ⟨S, ds, r, sS, hd, ⟨zthree_here, zk, zworld, y, rfl, hm, rfl⟩, k⟩ := h
    unfold m__law_due at hm
    refine ⟨_, pss_len (pss_cons (ps_set (i := 3) sc__law_due.nd rfl (by first | exact .inl rfl | exact .inr rfl) pe_int) (pss_cons (ps_for PassesOwn.never rfl (show PI _ _ _ (iList K _) from pi_list (pe_ix (show IxR _ (rIxL K) from ix_list) (pe_ix (show IxR _ (rIxT K) from ix_tup) (pv 0) pe_int (fun _ _ => rfl)) (pv 1) (fun _ _ => rfl))) (pg_name (i := 4) sc__law_due.nd rfl (by first | exact .inl rfl | exact .inr rfl)) (pss_cons (ps_set (i := 3) sc__law_due.nd rfl (by first | exact .inl rfl | exact .inr rfl) (pe_op op_add (pe_op op_mulW (pv 3) (pe_ix (show IxR _ (rIxL K) from ix_list) (pe_ix (show IxR _ (rIxT K) from ix_tup) (pv 0) pe_int (fun _ _ => rfl)) (pv 4) (fun _ _ => rfl))) (pe_ix (show IxR _ (rIxL K) from ix_list) (pv 2) (pv 4) (fun _ _ => rfl)))) pss_nil)) (pss_cons (ps_ret (pe_ix (show IxR _ (rIxL K) from ix_list) (pe_ix (show IxR _ (rIxL K) from ix_list) (pe_ix (show IxR _ (rIxT K) from ix_tup) (pv 0) pe_int (fun _ _ => rfl)) (pv 1) (fun _ _ => rfl)) (pv 3) (fun _ _ => rfl))) pss_nil))), fun hl => ?_⟩
    refine body_Sk hl sS hd hm (show 3 ≤ 5 by decide) (Γ := [cn zthree_here, cn zk, cn zworld, c0, c0]) (Γ' := noΓ) rfl ?_ k
    exact (
  b_asgL (md := .n) ev_int nh (show 3 < 5 by decide) (Γ2 := fun zplace => [cn zthree_here, cn zk, cn zworld, cn zplace, c0]) (fun _ => rfl) fun zplace e1 =>
  b_bind fun t2 ht2 =>
  b_for (Γ1 := fun (zplace : Int) => [cn zthree_here, cn zk, cn zworld, cn zplace, c0]) (Γ2 := fun (zplace : Int) (zc : Int) => [cn zthree_here, cn zk, cn zworld, cn zplace, cn zc]) (i_list (e_idx (e_tri1 (p := (zthree_here : (Tri (List Int) (List (List Int)) (List (List (List Int)))))) (ev_var (i := 0))) (ev_varF (i := 1)) ht2) nh) (fun zplace zc => g_name nh (show 4 < 5 by decide)) (fun zplace zc =>
  b_bind fun t3 ht3 =>
  b_bind fun t4 ht4 =>
  b_bind fun t5 ht5 =>
  b_asgL (md := .n) (e_add (e_mul (ev_varF (i := 3)) (ev_flat (e_idx (ev_h (md := .n) (e_tri0 (p := (zthree_here : (Tri (List Int) (List (List Int)) (List (List (List Int)))))) (ev_var (i := 0)))) (ev_varF (i := 4)) ht3)) ht4) (ev_flat (e_idx (ev_h (md := .n) (ev_var (i := 2))) (ev_varF (i := 4)) ht5))) nh (show 3 < 5 by decide) (Γ2 := fun zplace => [cn zthree_here, cn zk, cn zworld, cn zplace, cn zc]) (fun _ => rfl) fun zplace e6 =>
  b_end (wk_c (wk_c (wk_c (wk_c (wk_d .nil)))))) (wk_c (wk_c (wk_c (wk_c (wk_c .nil))))) (fun zplace =>
  b_bind fun t7 ht7 =>
  b_bind fun t8 ht8 =>
  b_ret (e_idx (e_idx (e_tri2 (p := (zthree_here : (Tri (List Int) (List (List Int)) (List (List (List Int)))))) (ev_var (i := 0))) (ev_varF (i := 1)) ht7) (ev_varF (i := 3)) ht8)))
abbrev s__law_good : Stmt := topS 23
abbrev nn__law_good : List Str := ["_law_three_here", "_law_made", "_law_world", "_law_k", "_law_turn", "_law_due_here", "_law_step", "_law_found", "_law_weight"]
theorem sc__law_good : FnScope nn__law_good ["_law_three_here", "_law_made", "_law_world", "_law_k", "_law_turn"] (defScope s__law_good) := ⟨rfl, rfl, rfl, by decide +kernel, rfl, by decide +kernel, by decide +kernel⟩
def sp__law_good (K : PySem.W.Frag) : Sp := FnS K fun ds r => ∃ zthree_here zmade zworld zk zturn y, ds = [toD (zthree_here : (Tri (List Int) (List (List Int)) (List (List (List Int))))), toD (zmade : (Tri (List Int) (List (List Int)) (List (List (List Int))))), toD (zworld : (List Int)), toD (zk : Int), toD (zturn : Int)] ∧ m__law_good zthree_here zmade zworld zk zturn = some y ∧ r = toD y
set_option maxHeartbeats 4000000 in
theorem ok__law_good (T : Txt K mg) : FnOk P w K mg base CX0 4 T.a__law_good T.d__law_good ["_law_three_here", "_law_made", "_law_world", "_law_k", "_law_turn"] (sp__law_good K) := by
  refine T.F__law_good.ok sc__law_good (fun vs H Q E h => ?_) (fun cdv A outer s H vs Q E hr h => ?_)
  · obtain ⟨ds, r, hd, ⟨zthree_here, zmade, zworld, zk, zturn, y, rfl, _⟩, _⟩ := h
    exact dpAll_len hd
  · obtain ⟨ds, r, hd, ⟨zthree_here, zmade, zworld, zk, zturn, y, rfl, hm, rfl⟩, k⟩ := h
    unfold m__law_good at hm
    refine ⟨_, pss_len (pss_cons (ps_set (i := 5) sc__law_good.nd rfl (by first | exact .inl rfl | exact .inr rfl) (pe_call (ok__law_due T) (hr.mono (by decide)) (by rfl) T.g__law_due T.F__law_due.kp T.b__law_due .nil pass0 (pa_cons (pv 0) (pa_cons (pv 3) (pa_cons (pv 2) pa_nil))))) (pss_cons (ps_for PassesOwn.never rfl (pi_range1 (by rfl) T.b_range (pa_cons pe_int pa_nil)) (pg_name (i := 6) sc__law_good.nd rfl (by first | exact .inl rfl | exact .inr rfl)) (pss_cons (ps_if (pt_cmpR (show OpR _ _ (rEqD K) from op_eqD hr.units) (pe_op op_modN (pe_op op_add (pv 6) (pv 4)) pe_int) pe_int (nomark _)) (pss_cons (ps_set (i := 7) sc__law_good.nd rfl (by first | exact .inl rfl | exact .inr rfl) (pe_call (ok_row_at T) (hr.mono (by decide)) (by rfl) T.g_row_at T.F_row_at.kp T.b_row_at .nil pass0 (pa_cons (pv 1) (pa_cons (pv 3) (pa_cons (pv 2) pa_nil))))) (pss_cons (ps_if (PW.pt (pw_or (pt_not (pt_val (pe_callB (show CallR _ (.builtin "isinstance") (rIsi K) from call_isi) (by rfl) T.b_isinstance (by decide +kernel) (pa_cons (pv 7) (pa_cons (pe_bltn (v := .ty "list") (by rfl) T.b_list (by decide +kernel) rfl) pa_nil))))) (pw_or (pt_not (pt_val (pe_callB (show CallR _ (.builtin "all") (rAll K) from cr_all rfl) (by rfl) T.b_all (by decide +kernel) (pa_cons (pe_lc (own := [("_law_weight", 8)]) rfl sc__law_good.nd (show PI _ _ _ (iList K _) from pi_list (pv 7)) (blkOk_by (own := [("_law_weight", 8)]) (N := nn__law_good) (sc := defScope s__law_good) (by decide +kernel)) (fun _ _ _ _ _ => (pg_name (i := 8) sc__law_good.nd rfl (Or.inl rfl))) (fun _ _ _ _ _ => pts_nil) (fun _ _ _ _ _ => (pe_call (ok__law_whole T) (hr.mono (by decide)) (by rfl) T.g__law_whole T.F__law_whole.kp T.b__law_whole .nil pass0 (pa_cons (pv 8) pa_nil)))) pa_nil)))) (pw_or1 (pt_cmpR (show OpR _ _ (rNeD K) from op_neD hr.units) (pv 7) (pv 5) (nomark _)))))) (pss_cons (ps_ret pe_bl) pss_nil) pss_nil) (pss_cons (ps_asg (pe_op op_add (pe_ix (show IxR _ (rIxL K) from ix_list) (pv 7) pe_int (fun _ _ => rfl)) pe_int) (pg_sub (pv 7) pe_int set_list)) (pss_cons (ps_expr (pe_bm PySem.F.plainAttrs_list PySem.F.slot_list_append PySem.F.type_list_append mt_append (pv 7) (pa_cons pe_int pa_nil))) pss_nil)))) (pss_cons (ps_if (pt_not (pt_val (pe_call (ok__law_is_share T) (hr.mono (by decide)) (by rfl) T.g__law_is_share T.F__law_is_share.kp T.b__law_is_share .nil pass0 (pa_cons (pe_call (ok_chance_at T) (hr.mono (by decide)) (by rfl) T.g_chance_at T.F_chance_at.kp T.b_chance_at .nil pass0 (pa_cons (pv 1) (pa_cons (pv 3) (pa_cons (pv 2) pa_nil)))) (pa_cons (pe_ix (show IxR _ (rIxL K) from ix_list) (pv 5) (pe_ix (show IxR _ (rIxL K) from ix_list) (pv 2) (pv 3) (fun _ _ => rfl)) (fun _ _ => rfl)) (pa_cons (pe_callB (show CallR _ (.builtin "sum") (rSum K) from cr_sum rfl) (by rfl) T.b_sum (by decide +kernel) (pa_cons (pv 5) pa_nil)) pa_nil)))))) (pss_cons (ps_ret pe_bl) pss_nil) pss_nil) pss_nil)) pss_nil)) (pss_cons (ps_ret pe_bl) pss_nil))), fun hl => ?_⟩
    refine body_S hl hd hm (show 5 ≤ 9 by decide) (Γ := [cs zthree_here, cs zmade, cs zworld, cs zk, cs zturn, c0, c0, c0, c0]) (Γ' := noΓ) rfl ?_ k
    exact (
  b_bind fun zdue_here ht1 =>
  b_asg (md := .s) (e_callK sh (a_cons (ev_var (i := 0)) (a_cons (ev_varF (i := 3)) (a_cons (ev_var (i := 2)) a_nil))) ⟨_, _, _, _, rfl, ht1, rfl⟩) sh (show 5 < 9 by decide) (Γ2 := [cs zthree_here, cs zmade, cs zworld, cs zk, cs zturn, cs zdue_here, c0, c0, c0]) rfl (
  b_bind fun t2 ht2 =>
  b_forR (Γ1 := fun (_ : Unit) => [c0, cs zmade, cs zworld, cs zk, cs zturn, cs zdue_here, c0, c0, c0]) (Γ2 := fun (_ : Unit) (zstep : Int) => [c0, cs zmade, cs zworld, cs zk, cs zturn, cs zdue_here, cn zstep, c0, c0]) (i_rng1 ev_int ht2) (fun _ zstep => g_name nh (show 6 < 9 by decide)) (fun _ zstep =>
  b_ifFF (Γ1 := fun (_ : Unit) => [c0, cs zmade, cs zworld, cs zk, cs zturn, cs zdue_here, c0, c0, c0]) (t_cmp (e_eq (α := Int) (e_modL (e_add (ev_varF (i := 6)) (ev_varF (i := 4))) ev_int) ev_int)) (fun hc =>
  b_bind fun zfound ht3 =>
  b_asgO (md := .n) (o_call (a_cons (ev_h (md := .s) (ev_var (i := 1))) (a_cons (ev_varF (i := 3)) (a_cons (ev_h (md := .s) (ev_var (i := 2))) a_nil))) ⟨_, _, _, _, rfl, ht3, rfl⟩) nh (show 7 < 9 by decide) (Γ2 := [c0, cs zmade, cs zworld, cs zk, cs zturn, cs zdue_here, cn zstep, co zfound, c0]) rfl (
  b_bind fun t6 ht6 =>
  b_ifRF (Γ0 := noΓ) (t_orO (t_not (t_val (e_isi (d := toD (zfound : (List Int))) (b := true) (ev_varO (i := 7)) (show kitB "list" "list" = some true by decide +kernel)))) (fun hc y hy => (have ⟨t5, ht5, hy⟩ := bind_some_iff hy; some_t hy (t_or (t_not (t_val (e_all (ev_h (md := .n) (evO_ev (o_unfT (frz_o (i := 7) rfl (Γ2 := [c0, cs zmade, cs zworld, cs zk, cs zturn, cs zdue_here, cn zstep, cn zfound, c0]) rfl) (o_map1 (i_list (ev_var (i := 7)) nh) nh (fun zweight y hy => (have ⟨t4, ht4, hy⟩ := bind_some_iff hy; some_ev hy (ev_flat (m1 := .h) (e_call (a_cons (ev_varF (i := 8)) a_nil) ⟨_, _, rfl, ht4, rfl⟩)))) ht5 nh))))))) (fun hc => (t_cmp (e_ne (α := (List Int)) (ev_varO (i := 7)) (ev_h (md := .s) (ev_var (i := 5))))))))) ht6) (fun hc =>
  b_ret ev_bool) (fun hc =>
  b_bind fun t7 ht7 =>
  b_bind fun zfound h8 =>
  b_setitem (i := 7) rfl (e_add (ev_flat (e_idx (ev_varO (i := 7)) ev_int ht7)) ev_int) ev_int h8 (Γ2 := [c0, cs zmade, cs zworld, cs zk, cs zturn, cs zdue_here, cn zstep, co zfound, c0]) rfl (
  b_bind fun zfound h9 =>
  b_append (i := 7) rfl ev_int h9 (Γ2 := [c0, cs zmade, cs zworld, cs zk, cs zturn, cs zdue_here, cn zstep, co zfound, c0]) rfl (
  b_endF (wk_c (wk_c (wk_c (wk_c (wk_c (wk_c (wk_d (wk_d (wk_c .nil)))))))))))))) (fun hc =>
  b_bind fun t10 ht10 =>
  b_bind fun t11 ht11 =>
  b_bind fun t12 ht12 =>
  b_bind fun t13 ht13 =>
  b_ifRF (Γ0 := noΓ) (t_not (t_val (ev_flat (m1 := .h) (e_call (a_cons (ev_h (md := .n) (e_call (a_cons (ev_h (md := .s) (ev_var (i := 1))) (a_cons (ev_varF (i := 3)) (a_cons (ev_h (md := .s) (ev_var (i := 2))) a_nil))) ⟨_, _, _, _, rfl, ht10, rfl⟩)) (a_cons (ev_flat (e_idx (ev_h (md := .s) (ev_var (i := 5))) (ev_flat (e_idx (ev_h (md := .s) (ev_var (i := 2))) (ev_varF (i := 3)) ht11)) ht12)) (a_cons (e_sum (ev_h (md := .s) (ev_var (i := 5)))) a_nil))) ⟨_, _, _, _, rfl, ht13, rfl⟩)))) (fun hc =>
  b_ret ev_bool) (fun hc =>
  b_endF (wk_c (wk_c (wk_c (wk_c (wk_c (wk_c (wk_d (wk_c (wk_c .nil))))))))))) (fun _ =>
  b_endF (wk_c (wk_c (wk_c (wk_c (wk_c (wk_c (wk_c (wk_c (wk_c .nil))))))))))) (wk_d (wk_c (wk_c (wk_c (wk_c (wk_c (wk_c (wk_c (wk_c .nil))))))))) (fun _ =>
  b_ret ev_bool)))
abbrev s_law : Stmt := topS 24
abbrev nn_law : List Str := ["_law_script", "_law_first", "_law_many", "_law_three_here", "_law_made", "_law_k", "_law_world", "_law_other", "_law_at", "_law_handed"]
theorem sc_law : FnScope nn_law ["_law_script"] (defScope s_law) := ⟨rfl, rfl, rfl, by decide +kernel, rfl, by decide +kernel, by decide +kernel⟩
def sp_law (K : PySem.W.Frag) : Sp := FnS K fun ds r => ∃ zscript y, ds = [toD (zscript : (List Int))] ∧ m_law zscript = some y ∧ r = toD y
set_option maxHeartbeats 4000000 in
theorem ok_law (T : Txt K mg) : FnOk P w K mg base CX0 5 T.a_law T.d_law ["_law_script"] (sp_law K) := by
  refine T.F_law.ok sc_law (fun vs H Q E h => ?_) (fun cdv A outer s H vs Q E hr h => ?_)
  · obtain ⟨ds, r, hd, ⟨zscript, y, rfl, _⟩, _⟩ := h
    exact dpAll_len hd
  · obtain ⟨ds, r, hd, ⟨zscript, y, rfl, hm, rfl⟩, k⟩ := h
    unfold m_law at hm
    refine ⟨_, pss_len (pss_cons (ps_set (i := 1) sc_law.nd rfl (by first | exact .inl rfl | exact .inr rfl) (pe_call (ok__law_cell_at T) (hr.mono (by decide)) (by rfl) T.g__law_cell_at T.F__law_cell_at.kp T.b__law_cell_at .nil pass0 (pa_cons (pv 0) (pa_cons pe_int pa_nil)))) (pss_cons (ps_set (i := 2) sc_law.nd rfl (by first | exact .inl rfl | exact .inr rfl) (pe_op op_add pe_int (pe_op op_modN (pv 1) pe_int))) (pss_cons (ps_set (i := 3) sc_law.nd rfl (by first | exact .inl rfl | exact .inr rfl) (pe_call (ok__law_three T) (hr.mono (by decide)) (by rfl) T.g__law_three T.F__law_three.kp T.b__law_three .nil pass0 (pa_cons (pv 0) (pa_cons (pv 2) (pa_cons pe_int (pa_cons (pe_callTy call_int1' (by rfl) T.b_int (by decide +kernel) (pa_cons (pe_cmpR (show OpR _ _ (rEqD K) from op_eqD hr.units) (pe_op op_modN (pe_op op_fdivX (pv 1) pe_int) pe_int) pe_int (nomark _)) pa_nil)) pa_nil)))))) (pss_cons (ps_set (i := 4) sc_law.nd rfl (by first | exact .inl rfl | exact .inr rfl) (pe_call (ok__law_copy T) (hr.mono (by decide)) (by rfl) T.g__law_copy T.F__law_copy.kp T.b__law_copy .nil pass0 (pa_cons (pv 3) pa_nil))) (pss_cons (ps_setLc (i := 6) (own := [("_law_k", 5)]) rfl sc_law.nd rfl rfl (sw_true rfl rfl rfl (by decide +kernel)) (pi_range1 (by rfl) T.b_range (pa_cons (pv 2) pa_nil)) (blkOk_by (own := [("_law_k", 5)]) (N := nn_law) (sc := defScope s_law) (by decide +kernel)) (fun _ _ _ _ _ => (pg_name (i := 5) sc_law.nd rfl (Or.inl rfl))) (fun _ _ _ _ _ => pts_nil) (fun _ _ _ _ _ => (pe_op op_modN (pe_call (ok__law_cell_at T) (hr.mono (by decide)) (by rfl) T.g__law_cell_at T.F__law_cell_at.kp T.b__law_cell_at .nil pass0 (pa_cons (pv 0) (pa_cons (pe_op op_add (pe_op op_add pe_int (pe_op op_mul pe_int (pv 2))) (pv 5)) pa_nil))) (pe_ix (show IxR _ (rIxL K) from ix_list) (pe_ix (show IxR _ (rIxT K) from ix_tup) (pv 3) pe_int (fun _ _ => rfl)) (pv 5) (fun _ _ => rfl))))) (pss_cons (ps_set (i := 7) sc_law.nd rfl (by first | exact .inl rfl | exact .inr rfl) (pe_callTy (show CallR _ (.type "list") (rListS K) from call_listS) (by rfl) T.b_list (by decide +kernel) (pa_cons (pv 6) pa_nil))) (pss_cons (ps_set (i := 8) sc_law.nd rfl (by first | exact .inl rfl | exact .inr rfl) (pe_op op_modN (pe_op op_fdivX (pe_call (ok__law_cell_at T) (hr.mono (by decide)) (by rfl) T.g__law_cell_at T.F__law_cell_at.kp T.b__law_cell_at .nil pass0 (pa_cons (pv 0) (pa_cons pe_int pa_nil))) pe_int) (pv 2))) (pss_cons (ps_asg (pe_op op_modN (pe_op op_add (pe_ix (show IxR _ (rIxL K) from ix_list) (pv 7) (pv 8) (fun _ _ => rfl)) pe_int) (pe_ix (show IxR _ (rIxL K) from ix_list) (pe_ix (show IxR _ (rIxT K) from ix_tup) (pv 3) pe_int (fun _ _ => rfl)) (pv 8) (fun _ _ => rfl))) (pg_sub (pv 7) (pv 8) set_list)) (pss_cons (ps_set (i := 9) sc_law.nd rfl (by first | exact .inl rfl | exact .inr rfl) (pe_callTy (show CallR _ (.type "list") (rListS K) from call_listS) (by rfl) T.b_list (by decide +kernel) (pa_cons (pv 6) pa_nil))) (pss_cons (ps_for PassesOwn.never rfl (pi_range1 (by rfl) T.b_range (pa_cons (pv 2) pa_nil)) (pg_name (i := 5) sc_law.nd rfl (by first | exact .inl rfl | exact .inr rfl)) (pss_cons (ps_if (PW.pt (pw_or (pt_not (pt_val (pe_call (ok__law_good T) (hr.mono (by decide)) (by rfl) T.g__law_good T.F__law_good.kp T.b__law_good .nil pass0 (pa_cons (pv 3) (pa_cons (pv 4) (pa_cons (pv 9) (pa_cons (pv 5) (pa_cons (pe_op op_modN (pe_op op_fdivX (pv 1) pe_int) pe_int) pa_nil)))))))) (pw_or1 (pt_not (pt_val (pe_call (ok__law_good T) (hr.mono (by decide)) (by rfl) T.g__law_good T.F__law_good.kp T.b__law_good .nil pass0 (pa_cons (pv 3) (pa_cons (pv 4) (pa_cons (pv 7) (pa_cons (pv 5) (pa_cons (pv 5) pa_nil))))))))))) (pss_cons (ps_ret pe_bl) pss_nil) pss_nil) pss_nil)) (pss_cons (ps_ret (pe_and (pe_cmpR (show OpR _ _ (rEqD K) from op_eqD hr.units) (pv 4) (pv 3) (nomark _)) (pe_and (pe_cmpR (show OpR _ _ (rEqD K) from op_eqD hr.units) (pv 9) (pv 6) (nomark _)) (pe_one (pe_call (ok__law_good T) (hr.mono (by decide)) (by rfl) T.g__law_good T.F__law_good.kp T.b__law_good .nil pass0 (pa_cons (pv 3) (pa_cons (pv 4) (pa_cons (pv 6) (pa_cons (pv 8) (pa_cons pe_int pa_nil)))))))))) pss_nil))))))))))), fun hl => ?_⟩
    refine body_S hl hd hm (show 1 ≤ 10 by decide) (Γ := [cs zscript, c0, c0, c0, c0, c0, c0, c0, c0, c0]) (Γ' := noΓ) rfl ?_ k
    exact (
  b_bind fun zfirst ht1 =>
  b_asg (md := .n) (ev_flat (m1 := .h) (e_call (a_cons (ev_h (md := .s) (ev_var (i := 0))) (a_cons ev_int a_nil)) ⟨_, _, _, rfl, ht1, rfl⟩)) nh (show 1 < 10 by decide) (Γ2 := [cs zscript, cn zfirst, c0, c0, c0, c0, c0, c0, c0, c0]) rfl (
  b_asgL (md := .n) (e_add ev_int (e_modL (ev_varF (i := 1)) ev_int)) nh (show 2 < 10 by decide) (Γ2 := fun zmany => [cs zscript, cn zfirst, cn zmany, c0, c0, c0, c0, c0, c0, c0]) (fun _ => rfl) fun zmany e2 =>
  b_bind fun zthree_here ht3 =>
  b_asg (md := .n) (e_call (a_cons (ev_h (md := .s) (ev_var (i := 0))) (a_cons (ev_varF (i := 2)) (a_cons ev_int (a_cons (e_intB (e_eq (α := Int) (e_modL (e_divL (ev_varF (i := 1)) ev_int) ev_int) ev_int)) a_nil)))) ⟨_, _, _, _, _, rfl, ht3, rfl⟩) nh (show 3 < 10 by decide) (Γ2 := [cs zscript, cn zfirst, cn zmany, cn zthree_here, c0, c0, c0, c0, c0, c0]) rfl (
  b_bind fun zmade ht4 =>
  b_asg (md := .n) (e_call (a_cons (ev_h (md := .n) (ev_var (i := 3))) a_nil) ⟨_, _, rfl, ht4, rfl⟩) nh (show 4 < 10 by decide) (Γ2 := [cs zscript, cn zfirst, cn zmany, cn zthree_here, cn zmade, c0, c0, c0, c0, c0]) rfl (
  b_bind fun t5 ht5 =>
  b_bind fun zworld ht9 =>
  b_asgO (md := .n) (o_map1 (i_rng1 (ev_varF (i := 2)) ht5) nh (fun zk y hy => (have ⟨t6, ht6, hy⟩ := bind_some_iff hy; have ⟨t7, ht7, hy⟩ := bind_some_iff hy; have ⟨t8, ht8, hy⟩ := bind_some_iff hy; some_ev hy (e_mod (ev_flat (m1 := .h) (e_call (a_cons (ev_h (md := .s) (ev_var (i := 0))) (a_cons (e_add (e_add ev_int (e_mulL ev_int (ev_varF (i := 2)))) (ev_varF (i := 5))) a_nil)) ⟨_, _, _, rfl, ht6, rfl⟩)) (ev_flat (e_idx (ev_h (md := .n) (e_tri0 (p := (zthree_here : (Tri (List Int) (List (List Int)) (List (List (List Int)))))) (ev_var (i := 3)))) (ev_varF (i := 5)) ht7)) ht8))) ht9 nh) nh (show 6 < 10 by decide) (Γ2 := [cs zscript, cn zfirst, cn zmany, cn zthree_here, cn zmade, c0, co zworld, c0, c0, c0]) rfl (
  b_asgOL (md := .n) (o_listF (ev_varO (i := 6))) nh (show 7 < 10 by decide) (Γ2 := fun zother => [cs zscript, cn zfirst, cn zmany, cn zthree_here, cn zmade, c0, co zworld, co zother, c0, c0]) (fun _ => rfl) fun zother e10 =>
  b_bind fun t11 ht11 =>
  b_bind fun zat ht12 =>
  b_asg (md := .n) (e_mod (e_divL (ev_flat (m1 := .h) (e_call (a_cons (ev_h (md := .s) (ev_var (i := 0))) (a_cons ev_int a_nil)) ⟨_, _, _, rfl, ht11, rfl⟩)) ev_int) (ev_varF (i := 2)) ht12) nh (show 8 < 10 by decide) (Γ2 := [cs zscript, cn zfirst, cn zmany, cn zthree_here, cn zmade, c0, co zworld, co zother, cn zat, c0]) rfl (
  b_bind fun t13 ht13 =>
  b_bind fun t14 ht14 =>
  b_bind fun t15 ht15 =>
  b_bind fun zother h16 =>
  b_setitem (i := 7) rfl (e_mod (e_add (ev_flat (e_idx (ev_varO (i := 7)) (ev_varF (i := 8)) ht13)) ev_int) (ev_flat (e_idx (ev_h (md := .n) (e_tri0 (p := (zthree_here : (Tri (List Int) (List (List Int)) (List (List (List Int)))))) (ev_var (i := 3)))) (ev_varF (i := 8)) ht14)) ht15) (ev_varF (i := 8)) h16 (Γ2 := [cs zscript, cn zfirst, cn zmany, cn zthree_here, cn zmade, c0, co zworld, co zother, cn zat, c0]) rfl (
  b_asgOL (md := .n) (o_listF (ev_varO (i := 6))) nh (show 9 < 10 by decide) (Γ2 := fun zhanded => [cs zscript, cn zfirst, cn zmany, cn zthree_here, cn zmade, c0, co zworld, co zother, cn zat, co zhanded]) (fun _ => rfl) fun zhanded e17 =>
  b_bind fun t18 ht18 =>
  b_forR (Γ1 := fun (_ : Unit) => [c0, cn zfirst, c0, cn zthree_here, cn zmade, c0, co zworld, co zother, cn zat, co zhanded]) (Γ2 := fun (_ : Unit) (zk : Int) => [c0, cn zfirst, c0, cn zthree_here, cn zmade, cn zk, co zworld, co zother, cn zat, co zhanded]) (i_rng1 (ev_varF (i := 2)) ht18) (fun _ zk => g_name nh (show 5 < 10 by decide)) (fun _ zk =>
  b_bind fun t19 ht19 =>
  b_bind fun t21 ht21 =>
  b_ifRF (Γ0 := noΓ) (t_orO (t_not (t_val (ev_flat (m1 := .h) (e_call (a_cons (ev_h (md := .n) (ev_var (i := 3))) (a_cons (ev_h (md := .n) (ev_var (i := 4))) (a_cons (ev_varO (i := 9)) (a_cons (ev_varF (i := 5)) (a_cons (e_modL (e_divL (ev_varF (i := 1)) ev_int) ev_int) a_nil))))) ⟨_, _, _, _, _, _, rfl, ht19, rfl⟩)))) (fun hc y hy => (have ⟨t20, ht20, hy⟩ := bind_some_iff hy; some_t hy (t_not (t_val (ev_flat (m1 := .h) (e_call (a_cons (ev_h (md := .n) (ev_var (i := 3))) (a_cons (ev_h (md := .n) (ev_var (i := 4))) (a_cons (ev_varO (i := 7)) (a_cons (ev_varF (i := 5)) (a_cons (ev_varF (i := 5)) a_nil))))) ⟨_, _, _, _, _, _, rfl, ht20, rfl⟩)))))) ht21) (fun hc =>
  b_ret ev_bool) (fun hc =>
  b_endF (wk_c (wk_c (wk_c (wk_c (wk_c (wk_d (wk_c (wk_c (wk_c (wk_c .nil)))))))))))) (wk_d (wk_c (wk_d (wk_c (wk_c (wk_c (wk_c (wk_c (wk_c (wk_c .nil)))))))))) (fun _ =>
  b_bind fun t24 ht24 =>
  b_ret (e_andO (e_eq (α := (Tri (List Int) (List (List Int)) (List (List (List Int))))) (ev_h (md := .n) (ev_var (i := 4))) (ev_h (md := .n) (ev_var (i := 3)))) (fun hc y hy => (have ⟨t23, ht23, hy⟩ := bind_some_iff hy; some_ev hy (e_andO (e_eq (α := (List Int)) (ev_varO (i := 9)) (ev_varO (i := 6))) (fun hc y hy => (have ⟨t22, ht22, hy⟩ := bind_some_iff hy; some_ev hy (ev_flat (m1 := .h) (e_call (a_cons (ev_h (md := .n) (ev_var (i := 3))) (a_cons (ev_h (md := .n) (ev_var (i := 4))) (a_cons (ev_varO (i := 6)) (a_cons (ev_varF (i := 8)) (a_cons ev_int a_nil))))) ⟨_, _, _, _, _, _, rfl, ht22, rfl⟩)))) ht23))) ht24)))))))))
end
theorem all_mk {P : Program} {w : World} {K : PySem.W.Frag} {h : Heap} {mg : Str → Option Value} {fa : Addr} (X : K.In h) (G : h.Ns mainGlobals mg) (hfa : mg "law" = some (.ref fa))
    {f0 : Addr} {od0 an0 : Option Addr} {sl0 : Array (Option Value)} {oc0 kV0 dc0 pm0 cd0 ct0 : Value}
    (a0 : PySem.W.nsIn K mainGlobals "is_whole" = some (some (.ref f0))) (l0 : K.lookup f0 = some ⟨oc0, od0, .func (PySem.W.fnOf "is_whole" "is_whole" (defArgs (topS 4)) (defBody (topS 4)) (defScope (topS 4)) .none kV0 dc0 pm0 an0 cd0 ct0), sl0⟩) (c0 : PySem.W.codeIn K cd0 "is_whole" = true) (k0 : PySem.W.keepIn K (.ref f0) = true)
    {f1 : Addr} {od1 an1 : Option Addr} {sl1 : Array (Option Value)} {oc1 kV1 dc1 pm1 cd1 ct1 : Value}
    (a1 : PySem.W.nsIn K mainGlobals "divisor" = some (some (.ref f1))) (l1 : K.lookup f1 = some ⟨oc1, od1, .func (PySem.W.fnOf "divisor" "divisor" (defArgs (topS 5)) (defBody (topS 5)) (defScope (topS 5)) .none kV1 dc1 pm1 an1 cd1 ct1), sl1⟩) (c1 : PySem.W.codeIn K cd1 "divisor" = true) (k1 : PySem.W.keepIn K (.ref f1) = true)
    {f2 : Addr} {od2 an2 : Option Addr} {sl2 : Array (Option Value)} {oc2 kV2 dc2 pm2 cd2 ct2 : Value}
    (a2 : PySem.W.nsIn K mainGlobals "share" = some (some (.ref f2))) (l2 : K.lookup f2 = some ⟨oc2, od2, .func (PySem.W.fnOf "share" "share" (defArgs (topS 6)) (defBody (topS 6)) (defScope (topS 6)) .none kV2 dc2 pm2 an2 cd2 ct2), sl2⟩) (c2 : PySem.W.codeIn K cd2 "share" = true) (k2 : PySem.W.keepIn K (.ref f2) = true)
    {f3 : Addr} {od3 an3 : Option Addr} {sl3 : Array (Option Value)} {oc3 kV3 dc3 pm3 cd3 ct3 : Value}
    (a3 : PySem.W.nsIn K mainGlobals "rank" = some (some (.ref f3))) (l3 : K.lookup f3 = some ⟨oc3, od3, .func (PySem.W.fnOf "rank" "rank" (defArgs (topS 8)) (defBody (topS 8)) (defScope (topS 8)) .none kV3 dc3 pm3 an3 cd3 ct3), sl3⟩) (c3 : PySem.W.codeIn K cd3 "rank" = true) (k3 : PySem.W.keepIn K (.ref f3) = true)
    {f4 : Addr} {od4 an4 : Option Addr} {sl4 : Array (Option Value)} {oc4 kV4 dc4 pm4 cd4 ct4 : Value}
    (a4 : PySem.W.nsIn K mainGlobals "row_at" = some (some (.ref f4))) (l4 : K.lookup f4 = some ⟨oc4, od4, .func (PySem.W.fnOf "row_at" "row_at" (defArgs (topS 10)) (defBody (topS 10)) (defScope (topS 10)) .none kV4 dc4 pm4 an4 cd4 ct4), sl4⟩) (c4 : PySem.W.codeIn K cd4 "row_at" = true) (k4 : PySem.W.keepIn K (.ref f4) = true)
    {f5 : Addr} {od5 an5 : Option Addr} {sl5 : Array (Option Value)} {oc5 kV5 dc5 pm5 cd5 ct5 : Value}
    (a5 : PySem.W.nsIn K mainGlobals "chance_at" = some (some (.ref f5))) (l5 : K.lookup f5 = some ⟨oc5, od5, .func (PySem.W.fnOf "chance_at" "chance_at" (defArgs (topS 11)) (defBody (topS 11)) (defScope (topS 11)) .none kV5 dc5 pm5 an5 cd5 ct5), sl5⟩) (c5 : PySem.W.codeIn K cd5 "chance_at" = true) (k5 : PySem.W.keepIn K (.ref f5) = true)
    {f6 : Addr} {od6 an6 : Option Addr} {sl6 : Array (Option Value)} {oc6 kV6 dc6 pm6 cd6 ct6 : Value}
    (a6 : PySem.W.nsIn K mainGlobals "_law_cell_at" = some (some (.ref f6))) (l6 : K.lookup f6 = some ⟨oc6, od6, .func (PySem.W.fnOf "_law_cell_at" "_law_cell_at" (defArgs (topS 13)) (defBody (topS 13)) (defScope (topS 13)) .none kV6 dc6 pm6 an6 cd6 ct6), sl6⟩) (c6 : PySem.W.codeIn K cd6 "_law_cell_at" = true) (k6 : PySem.W.keepIn K (.ref f6) = true)
    {f7 : Addr} {od7 an7 : Option Addr} {sl7 : Array (Option Value)} {oc7 kV7 dc7 pm7 cd7 ct7 : Value}
    (a7 : PySem.W.nsIn K mainGlobals "_law_shape" = some (some (.ref f7))) (l7 : K.lookup f7 = some ⟨oc7, od7, .func (PySem.W.fnOf "_law_shape" "_law_shape" (defArgs (topS 14)) (defBody (topS 14)) (defScope (topS 14)) .none kV7 dc7 pm7 an7 cd7 ct7), sl7⟩) (c7 : PySem.W.codeIn K cd7 "_law_shape" = true) (k7 : PySem.W.keepIn K (.ref f7) = true)
    {f8 : Addr} {od8 an8 : Option Addr} {sl8 : Array (Option Value)} {oc8 kV8 dc8 pm8 cd8 ct8 : Value}
    (a8 : PySem.W.nsIn K mainGlobals "_law_row" = some (some (.ref f8))) (l8 : K.lookup f8 = some ⟨oc8, od8, .func (PySem.W.fnOf "_law_row" "_law_row" (defArgs (topS 15)) (defBody (topS 15)) (defScope (topS 15)) .none kV8 dc8 pm8 an8 cd8 ct8), sl8⟩) (c8 : PySem.W.codeIn K cd8 "_law_row" = true) (k8 : PySem.W.keepIn K (.ref f8) = true)
    {f9 : Addr} {od9 an9 : Option Addr} {sl9 : Array (Option Value)} {oc9 kV9 dc9 pm9 cd9 ct9 : Value}
    (a9 : PySem.W.nsIn K mainGlobals "_law_table" = some (some (.ref f9))) (l9 : K.lookup f9 = some ⟨oc9, od9, .func (PySem.W.fnOf "_law_table" "_law_table" (defArgs (topS 16)) (defBody (topS 16)) (defScope (topS 16)) .none kV9 dc9 pm9 an9 cd9 ct9), sl9⟩) (c9 : PySem.W.codeIn K cd9 "_law_table" = true) (k9 : PySem.W.keepIn K (.ref f9) = true)
    {f10 : Addr} {od10 an10 : Option Addr} {sl10 : Array (Option Value)} {oc10 kV10 dc10 pm10 cd10 ct10 : Value}
    (a10 : PySem.W.nsIn K mainGlobals "_law_count" = some (some (.ref f10))) (l10 : K.lookup f10 = some ⟨oc10, od10, .func (PySem.W.fnOf "_law_count" "_law_count" (defArgs (topS 17)) (defBody (topS 17)) (defScope (topS 17)) .none kV10 dc10 pm10 an10 cd10 ct10), sl10⟩) (c10 : PySem.W.codeIn K cd10 "_law_count" = true) (k10 : PySem.W.keepIn K (.ref f10) = true)
    {f11 : Addr} {od11 an11 : Option Addr} {sl11 : Array (Option Value)} {oc11 kV11 dc11 pm11 cd11 ct11 : Value}
    (a11 : PySem.W.nsIn K mainGlobals "_law_three" = some (some (.ref f11))) (l11 : K.lookup f11 = some ⟨oc11, od11, .func (PySem.W.fnOf "_law_three" "_law_three" (defArgs (topS 18)) (defBody (topS 18)) (defScope (topS 18)) .none kV11 dc11 pm11 an11 cd11 ct11), sl11⟩) (c11 : PySem.W.codeIn K cd11 "_law_three" = true) (k11 : PySem.W.keepIn K (.ref f11) = true)
    {f12 : Addr} {od12 an12 : Option Addr} {sl12 : Array (Option Value)} {oc12 kV12 dc12 pm12 cd12 ct12 : Value}
    (a12 : PySem.W.nsIn K mainGlobals "_law_copy" = some (some (.ref f12))) (l12 : K.lookup f12 = some ⟨oc12, od12, .func (PySem.W.fnOf "_law_copy" "_law_copy" (defArgs (topS 19)) (defBody (topS 19)) (defScope (topS 19)) .none kV12 dc12 pm12 an12 cd12 ct12), sl12⟩) (c12 : PySem.W.codeIn K cd12 "_law_copy" = true) (k12 : PySem.W.keepIn K (.ref f12) = true)
    {f13 : Addr} {od13 an13 : Option Addr} {sl13 : Array (Option Value)} {oc13 kV13 dc13 pm13 cd13 ct13 : Value}
    (a13 : PySem.W.nsIn K mainGlobals "_law_whole" = some (some (.ref f13))) (l13 : K.lookup f13 = some ⟨oc13, od13, .func (PySem.W.fnOf "_law_whole" "_law_whole" (defArgs (topS 20)) (defBody (topS 20)) (defScope (topS 20)) .none kV13 dc13 pm13 an13 cd13 ct13), sl13⟩) (c13 : PySem.W.codeIn K cd13 "_law_whole" = true) (k13 : PySem.W.keepIn K (.ref f13) = true)
    {f14 : Addr} {od14 an14 : Option Addr} {sl14 : Array (Option Value)} {oc14 kV14 dc14 pm14 cd14 ct14 : Value}
    (a14 : PySem.W.nsIn K mainGlobals "_law_is_share" = some (some (.ref f14))) (l14 : K.lookup f14 = some ⟨oc14, od14, .func (PySem.W.fnOf "_law_is_share" "_law_is_share" (defArgs (topS 21)) (defBody (topS 21)) (defScope (topS 21)) .none kV14 dc14 pm14 an14 cd14 ct14), sl14⟩) (c14 : PySem.W.codeIn K cd14 "_law_is_share" = true) (k14 : PySem.W.keepIn K (.ref f14) = true)
    {f15 : Addr} {od15 an15 : Option Addr} {sl15 : Array (Option Value)} {oc15 kV15 dc15 pm15 cd15 ct15 : Value}
    (a15 : PySem.W.nsIn K mainGlobals "_law_due" = some (some (.ref f15))) (l15 : K.lookup f15 = some ⟨oc15, od15, .func (PySem.W.fnOf "_law_due" "_law_due" (defArgs (topS 22)) (defBody (topS 22)) (defScope (topS 22)) .none kV15 dc15 pm15 an15 cd15 ct15), sl15⟩) (c15 : PySem.W.codeIn K cd15 "_law_due" = true) (k15 : PySem.W.keepIn K (.ref f15) = true)
    {f16 : Addr} {od16 an16 : Option Addr} {sl16 : Array (Option Value)} {oc16 kV16 dc16 pm16 cd16 ct16 : Value}
    (a16 : PySem.W.nsIn K mainGlobals "_law_good" = some (some (.ref f16))) (l16 : K.lookup f16 = some ⟨oc16, od16, .func (PySem.W.fnOf "_law_good" "_law_good" (defArgs (topS 23)) (defBody (topS 23)) (defScope (topS 23)) .none kV16 dc16 pm16 an16 cd16 ct16), sl16⟩) (c16 : PySem.W.codeIn K cd16 "_law_good" = true) (k16 : PySem.W.keepIn K (.ref f16) = true)
    {f17 : Addr} {od17 an17 : Option Addr} {sl17 : Array (Option Value)} {oc17 kV17 dc17 pm17 cd17 ct17 : Value}
    (a17 : PySem.W.nsIn K mainGlobals "law" = some (some (.ref f17))) (l17 : K.lookup f17 = some ⟨oc17, od17, .func (PySem.W.fnOf "law" "law" (defArgs (topS 24)) (defBody (topS 24)) (defScope (topS 24)) .none kV17 dc17 pm17 an17 cd17 ct17), sl17⟩) (c17 : PySem.W.codeIn K cd17 "law" = true) (k17 : PySem.W.keepIn K (.ref f17) = true)
    (z_abs : PySem.W.nsIn K mainGlobals "abs" = some none)
    (z_all : PySem.W.nsIn K mainGlobals "all" = some none)
    (z_bool : PySem.W.nsIn K mainGlobals "bool" = some none)
    (z_int : PySem.W.nsIn K mainGlobals "int" = some none)
    (z_isinstance : PySem.W.nsIn K mainGlobals "isinstance" = some none)
    (z_len : PySem.W.nsIn K mainGlobals "len" = some none)
    (z_list : PySem.W.nsIn K mainGlobals "list" = some none)
    (z_max : PySem.W.nsIn K mainGlobals "max" = some none)
    (z_range : PySem.W.nsIn K mainGlobals "range" = some none)
    (z_sorted : PySem.W.nsIn K mainGlobals "sorted" = some none)
    (z_sum : PySem.W.nsIn K mainGlobals "sum" = some none)
    (z_tuple : PySem.W.nsIn K mainGlobals "tuple" = some none)
    (z_zip : PySem.W.nsIn K mainGlobals "zip" = some none)
    : ∃ fd : FuncData, (∀ (s : Shared) (v : Value), BindsTo s fd ⟨[v], []⟩ [("_law_script", v)]) ∧ ∀ base : Heap, K.In base → base.Ns mainGlobals mg → FnOk P w K mg base CX0 5 fa fd ["_law_script"] (sp_law K) := by
  have e := hfa.symm.trans (PySem.W.mg_of X G a17)
  cases e
  have F0 := fun_mk (st := topS 4) l0 c0 k0
  have b0 := F0.binds (ps := ["thing"]) fun _ _ _ _ _ _ us hl => match us, hl with | [_], _ => rfl
  have F1 := fun_mk (st := topS 5) l1 c1 k1
  have b1 := F1.binds (ps := ["one", "other"]) fun _ _ _ _ _ _ us hl => match us, hl with | [_, _], _ => rfl
  have F2 := fun_mk (st := topS 6) l2 c2 k2
  have b2 := F2.binds (ps := ["top", "bottom"]) fun _ _ _ _ _ _ us hl => match us, hl with | [_, _], _ => rfl
  have F3 := fun_mk (st := topS 8) l3 c3 k3
  have b3 := F3.binds (ps := ["sizes", "world"]) fun _ _ _ _ _ _ us hl => match us, hl with | [_, _], _ => rfl
  have F4 := fun_mk (st := topS 10) l4 c4 k4
  have b4 := F4.binds (ps := ["told", "k", "world"]) fun _ _ _ _ _ _ us hl => match us, hl with | [_, _, _], _ => rfl
  have F5 := fun_mk (st := topS 11) l5 c5 k5
  have b5 := F5.binds (ps := ["told", "k", "world"]) fun _ _ _ _ _ _ us hl => match us, hl with | [_, _, _], _ => rfl
  have F6 := fun_mk (st := topS 13) l6 c6 k6
  have b6 := F6.binds (ps := ["_law_script", "_law_k"]) fun _ _ _ _ _ _ us hl => match us, hl with | [_, _], _ => rfl
  have F7 := fun_mk (st := topS 14) l7 c7 k7
  have b7 := F7.binds (ps := ["_law_script", "_law_first", "_law_many"]) fun _ _ _ _ _ _ us hl => match us, hl with | [_, _, _], _ => rfl
  have F8 := fun_mk (st := topS 15) l8 c8 k8
  have b8 := F8.binds (ps := ["_law_number", "_law_size", "_law_great"]) fun _ _ _ _ _ _ us hl => match us, hl with | [_, _, _], _ => rfl
  have F9 := fun_mk (st := topS 16) l9 c9 k9
  have b9 := F9.binds (ps := ["_law_cell", "_law_count_here", "_law_size", "_law_great"]) fun _ _ _ _ _ _ us hl => match us, hl with | [_, _, _, _], _ => rfl
  have F10 := fun_mk (st := topS 17) l10 c10 k10
  have b10 := F10.binds (ps := ["_law_sizes", "_law_row_here"]) fun _ _ _ _ _ _ us hl => match us, hl with | [_, _], _ => rfl
  have F11 := fun_mk (st := topS 18) l11 c11 k11
  have b11 := F11.binds (ps := ["_law_script", "_law_many", "_law_few", "_law_great"]) fun _ _ _ _ _ _ us hl => match us, hl with | [_, _, _, _], _ => rfl
  have F12 := fun_mk (st := topS 19) l12 c12 k12
  have b12 := F12.binds (ps := ["_law_three_here"]) fun _ _ _ _ _ _ us hl => match us, hl with | [_], _ => rfl
  have F13 := fun_mk (st := topS 20) l13 c13 k13
  have b13 := F13.binds (ps := ["_law_found"]) fun _ _ _ _ _ _ us hl => match us, hl with | [_], _ => rfl
  have F14 := fun_mk (st := topS 21) l14 c14 k14
  have b14 := F14.binds (ps := ["_law_found", "_law_top", "_law_bottom"]) fun _ _ _ _ _ _ us hl => match us, hl with | [_, _, _], _ => rfl
  have F15 := fun_mk (st := topS 22) l15 c15 k15
  have b15 := F15.binds (ps := ["_law_three_here", "_law_k", "_law_world"]) fun _ _ _ _ _ _ us hl => match us, hl with | [_, _, _], _ => rfl
  have F16 := fun_mk (st := topS 23) l16 c16 k16
  have b16 := F16.binds (ps := ["_law_three_here", "_law_made", "_law_world", "_law_k", "_law_turn"]) fun _ _ _ _ _ _ us hl => match us, hl with | [_, _, _, _, _], _ => rfl
  have F17 := fun_mk (st := topS 24) l17 c17 k17
  have b17 := F17.binds (ps := ["_law_script"]) fun _ _ _ _ _ _ us hl => match us, hl with | [_], _ => rfl
  let T : Txt K mg := { a_is_whole := _, d_is_whole := _, F_is_whole := F0, b_is_whole := b0, g_is_whole := PySem.W.mg_of X G a0, a_divisor := _, d_divisor := _, F_divisor := F1, b_divisor := b1, g_divisor := PySem.W.mg_of X G a1, a_share := _, d_share := _, F_share := F2, b_share := b2, g_share := PySem.W.mg_of X G a2, a_rank := _, d_rank := _, F_rank := F3, b_rank := b3, g_rank := PySem.W.mg_of X G a3, a_row_at := _, d_row_at := _, F_row_at := F4, b_row_at := b4, g_row_at := PySem.W.mg_of X G a4, a_chance_at := _, d_chance_at := _, F_chance_at := F5, b_chance_at := b5, g_chance_at := PySem.W.mg_of X G a5, a__law_cell_at := _, d__law_cell_at := _, F__law_cell_at := F6, b__law_cell_at := b6, g__law_cell_at := PySem.W.mg_of X G a6, a__law_shape := _, d__law_shape := _, F__law_shape := F7, b__law_shape := b7, g__law_shape := PySem.W.mg_of X G a7, a__law_row := _, d__law_row := _, F__law_row := F8, b__law_row := b8, g__law_row := PySem.W.mg_of X G a8, a__law_table := _, d__law_table := _, F__law_table := F9, b__law_table := b9, g__law_table := PySem.W.mg_of X G a9, a__law_count := _, d__law_count := _, F__law_count := F10, b__law_count := b10, g__law_count := PySem.W.mg_of X G a10, a__law_three := _, d__law_three := _, F__law_three := F11, b__law_three := b11, g__law_three := PySem.W.mg_of X G a11, a__law_copy := _, d__law_copy := _, F__law_copy := F12, b__law_copy := b12, g__law_copy := PySem.W.mg_of X G a12, a__law_whole := _, d__law_whole := _, F__law_whole := F13, b__law_whole := b13, g__law_whole := PySem.W.mg_of X G a13, a__law_is_share := _, d__law_is_share := _, F__law_is_share := F14, b__law_is_share := b14, g__law_is_share := PySem.W.mg_of X G a14, a__law_due := _, d__law_due := _, F__law_due := F15, b__law_due := b15, g__law_due := PySem.W.mg_of X G a15, a__law_good := _, d__law_good := _, F__law_good := F16, b__law_good := b16, g__law_good := PySem.W.mg_of X G a16, a_law := _, d_law := _, F_law := F17, b_law := b17, g_law := PySem.W.mg_of X G a17, b_abs := PySem.W.mg_none_of X G z_abs, b_all := PySem.W.mg_none_of X G z_all, b_bool := PySem.W.mg_none_of X G z_bool, b_int := PySem.W.mg_none_of X G z_int, b_isinstance := PySem.W.mg_none_of X G z_isinstance, b_len := PySem.W.mg_none_of X G z_len, b_list := PySem.W.mg_none_of X G z_list, b_max := PySem.W.mg_none_of X G z_max, b_range := PySem.W.mg_none_of X G z_range, b_sorted := PySem.W.mg_none_of X G z_sorted, b_sum := PySem.W.mg_none_of X G z_sum, b_tuple := PySem.W.mg_none_of X G z_tuple, b_zip := PySem.W.mg_none_of X G z_zip }
  exact ⟨_, fun s v => .of_eq rfl, fun base _ _ => ok_law T⟩
end K17
open PySem PySem.W PyProof.Rows
set_option maxRecDepth 100000 in
set_option maxHeartbeats 0 in
theorem PySem.Challenge.cw_causebook_k17_rows_and_chances_holds : PySem.Challenge.rw_causebook_k17_rows_and_chances.Holds := by
  w_on; o_law; k_head; (case hw => w_witness2)
  k_fill
  refine L2.walk_of (l := PySem.Challenge.rw_causebook_k17_rows_and_chances) (n := 63) (k := 5) (x := "_law_script") (CX := fun _ => L2.CX0) (sp := fun w => K17.sp_law _) rfl (by decide) rfl ⟨rfl, by decide, by decide⟩ (fun w h Y => PySem.W.kIn_of Y) ?F (fun w H a ns hl hO hS => Mir.law_end (K17.law_true ns hl) hS) (fun _ _ _ _ _ h => h)
  case F =>
    intro w mg fa h KX G hmg
    refine' K17.all_mk KX G hmg ?a0 ?l0 ?c0 ?k0 ?a1 ?l1 ?c1 ?k1 ?a2 ?l2 ?c2 ?k2 ?a3 ?l3 ?c3 ?k3 ?a4 ?l4 ?c4 ?k4 ?a5 ?l5 ?c5 ?k5 ?a6 ?l6 ?c6 ?k6 ?a7 ?l7 ?c7 ?k7 ?a8 ?l8 ?c8 ?k8 ?a9 ?l9 ?c9 ?k9 ?a10 ?l10 ?c10 ?k10 ?a11 ?l11 ?c11 ?k11 ?a12 ?l12 ?c12 ?k12 ?a13 ?l13 ?c13 ?k13 ?a14 ?l14 ?c14 ?k14 ?a15 ?l15 ?c15 ?k15 ?a16 ?l16 ?c16 ?k16 ?a17 ?l17 ?c17 ?k17 ?z_abs ?z_all ?z_bool ?z_int ?z_isinstance ?z_len ?z_list ?z_max ?z_range ?z_sorted ?z_sum ?z_tuple ?z_zip
    (case a0 => k_is); (case l0 => k_is); (case c0 => k_is); (case k0 => k_is); (case a1 => k_is); (case l1 => k_is); (case c1 => k_is); (case k1 => k_is); (case a2 => k_is); (case l2 => k_is); (case c2 => k_is); (case k2 => k_is); (case a3 => k_is); (case l3 => k_is); (case c3 => k_is); (case k3 => k_is); (case a4 => k_is); (case l4 => k_is); (case c4 => k_is); (case k4 => k_is); (case a5 => k_is); (case l5 => k_is); (case c5 => k_is); (case k5 => k_is); (case a6 => k_is); (case l6 => k_is); (case c6 => k_is); (case k6 => k_is); (case a7 => k_is); (case l7 => k_is); (case c7 => k_is); (case k7 => k_is); (case a8 => k_is); (case l8 => k_is); (case c8 => k_is); (case k8 => k_is); (case a9 => k_is); (case l9 => k_is); (case c9 => k_is); (case k9 => k_is); (case a10 => k_is); (case l10 => k_is); (case c10 => k_is); (case k10 => k_is); (case a11 => k_is); (case l11 => k_is); (case c11 => k_is); (case k11 => k_is); (case a12 => k_is); (case l12 => k_is); (case c12 => k_is); (case k12 => k_is); (case a13 => k_is); (case l13 => k_is); (case c13 => k_is); (case k13 => k_is); (case a14 => k_is); (case l14 => k_is); (case c14 => k_is); (case k14 => k_is); (case a15 => k_is); (case l15 => k_is); (case c15 => k_is); (case k15 => k_is); (case a16 => k_is); (case l16 => k_is); (case c16 => k_is); (case k16 => k_is); (case a17 => k_is); (case l17 => k_is); (case c17 => k_is); (case k17 => k_is); (case z_abs => k_is); (case z_all => k_is); (case z_bool => k_is); (case z_int => k_is); (case z_isinstance => k_is); (case z_len => k_is); (case z_list => k_is); (case z_max => k_is); (case z_range => k_is); (case z_sorted => k_is); (case z_sum => k_is); (case z_tuple => k_is); (case z_zip => k_is)
